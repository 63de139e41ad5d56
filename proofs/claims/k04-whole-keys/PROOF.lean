import PyProof.Rows.All
import Wide.All
import OpenK.AllK
import Wide.FinOn
import HandS.ForMost
import HandS.ForExc
import HandS.Deep
import HandS.Walk
import HandS.TupAny
import HandS.IsInst
import HandS.Wide
import HandS.TupMul
import HandS.AnyAll
import KE.DataEq
import KE.DataFind
import KE.DataCmp
import KE.DataMinMax
import KE.SortData
import HandS.Conv
import HandS.Remove
import HandS.Strs
import KE.KDictCopyH
import HandS.SetFor
import HandS.Small
import KE.KDictKeyed
import HandS.RaiseMore
import HandS.Codes
import PySem.Challenge.RW_sumsheets_k04_whole_keys
set_option Elab.async false
set_option linter.all false
set_option maxRecDepth 100000
set_option maxHeartbeats 4000000
/-! V0: the value layer: what a def of the program computes, as a plain function over data (a mirror), with no heap in sight. -/
namespace VL
open PySem PySem.Spec PyProof.Rows L2

/-! ### slots and outcomes of a mirror -/
inductive Sl where
  | un | val (d : PyData) | own (ds : List PyData) | bor (ds : List PyData) | scr (ns : List Int) | fn (n : Nat)
abbrev R := List Sl
inductive Oc (α : Type) where
  | ok (a : α) (ρ : R) | ex (c : Nat) (ρ : R) | no
def Oc.bind {α β : Type} : Oc α → (α → R → Oc β) → Oc β
  | .ok a ρ, f => f a ρ
  | .ex c ρ, _ => .ex c ρ
  | .no, _ => .no
def Oc.opt {α : Type} : Option α → R → Oc α
  | some a, ρ => .ok a ρ
  | none, _ => .no
def Oc.noex {α : Type} : Oc α → Oc α
  | .ex _ _ => .no
  | o => o
abbrev ME := R → Oc PyData
abbrev MT := R → Oc Bool
abbrev ML := R → Oc (List PyData)
abbrev Mir := List Sl → Oc PyData
structure VT where
  fa : Nat → Addr
  ea : Nat → Addr

/-! ### the part of the heap that stands still -/
open Classical in
noncomputable def fz (O : Addr → Prop) (H : Hp) : Hp := fun b => if O b then none else H b
theorem fz_in {O : Addr → Prop} {H : Hp} {b : Addr} (h : O b) : fz O H b = none := by
  unfold fz; rw [if_pos h]
theorem fz_out {O : Addr → Prop} {H : Hp} {b : Addr} (h : ¬ O b) : fz O H b = H b := by
  unfold fz; rw [if_neg h]
theorem fz_some {O : Addr → Prop} {H : Hp} {b : Addr} {o : HO} (h : fz O H b = some o) : ¬ O b ∧ H b = some o := by
  by_cases c : O b
  · rw [fz_in c] at h; cases h
  · rw [fz_out c] at h; exact ⟨c, h⟩
theorem fz_less {O O' : Addr → Prop} {H : Hp} (h : ∀ b, O' b → O b) : Same (fz O H) (fz O' H) := fun b o e => by
  obtain ⟨n, e⟩ := fz_some e
  rw [fz_out fun z => n (h b z)]; exact e
theorem fz_grow {O : Addr → Prop} {H H' : Hp} (h : Same H H') : Same (fz O H) (fz O H') := fun b o e => by
  obtain ⟨n, e⟩ := fz_some e
  rw [fz_out n]; exact h b o e
theorem fz_le {O : Addr → Prop} {H : Hp} : Same (fz O H) H := fun b o e => (fz_some e).2
theorem seqT_same {K : PySem.W.Frag} {H H' : Hp} {a : Addr} {xs : List V} (e : Same H H') (h : SqT K H a xs) : SqT K H' a xs := by
  rcases h with (h | ⟨o, h⟩) | h
  · exact .inl (.inl (e _ _ h))
  · exact .inl (.inr ⟨o, e _ _ h⟩)
  · exact .inr h

/-! ### what data a value stands for -/
mutual
inductive Rp (K : PySem.W.Frag) (F : Hp) : V → PyData → Prop
  | non : Rp K F .non .none
  | bl (b : Bool) : Rp K F (.bl b) (.bool b)
  | int (i : Int) : Rp K F (.int i) (.int i)
  | str (x : Str) : Rp K F (.str x) (.str x)
  | lst {a : Addr} {xs : List V} {ds : List PyData} : F a = some (.lst xs) → RpAll K F xs ds → Rp K F (.ref a) (.list ds)
  | tup {a : Addr} {xs : List V} {ds : List PyData} : SqT K F a xs → RpAll K F xs ds → Rp K F (.ref a) (.tuple ds)
inductive RpAll (K : PySem.W.Frag) (F : Hp) : List V → List PyData → Prop
  | nil : RpAll K F [] []
  | cons {v : V} {vs : List V} {d : PyData} {ds : List PyData} : Rp K F v d → RpAll K F vs ds → RpAll K F (v :: vs) (d :: ds)
end
section
variable {K : PySem.W.Frag} {F F' : Hp}
mutual
theorem Rp.mono (e : Same F F') : ∀ (d : PyData) {v : V}, Rp K F v d → Rp K F' v d
  | .none, _, h => by cases h; exact .non
  | .bool b, _, h => by cases h; exact .bl b
  | .int i, _, h => by cases h; exact .int i
  | .str x, _, h => by cases h; exact .str x
  | .list ds, _, h => by
    cases h with
    | lst h1 h2 => exact .lst (e _ _ h1) (RpAll.mono e ds h2)
  | .tuple ds, _, h => by
    cases h with
    | tup h1 h2 => exact .tup (seqT_same e h1) (RpAll.mono e ds h2)
  | .dict _, _, h => by cases h
theorem RpAll.mono (e : Same F F') : ∀ (ds : List PyData) {vs : List V}, RpAll K F vs ds → RpAll K F' vs ds
  | [], _, h => by cases h; exact .nil
  | d :: ds, _, h => by
    cases h with
    | cons h1 h2 => exact .cons (Rp.mono e d h1) (RpAll.mono e ds h2)
end
mutual
theorem Rp.dp : ∀ (d : PyData) {v : V}, Rp K F v d → Dp K F v d
  | .none, _, h => by cases h; exact .non
  | .bool b, _, h => by cases h; exact .bl b
  | .int i, _, h => by cases h; exact .int i
  | .str x, _, h => by cases h; exact .str x
  | .list ds, _, h => by
    cases h with
    | lst h1 h2 => exact .lst (SqL.of h1) (RpAll.dp ds h2)
  | .tuple ds, _, h => by
    cases h with
    | tup h1 h2 => exact .tup h1 (RpAll.dp ds h2)
  | .dict _, _, h => by cases h
theorem RpAll.dp : ∀ (ds : List PyData) {vs : List V}, RpAll K F vs ds → DpAll K F vs ds
  | [], _, h => by cases h; exact .nil
  | d :: ds, _, h => by
    cases h with
    | cons h1 h2 => exact .cons (Rp.dp d h1) (RpAll.dp ds h2)
end
theorem RpAll.length : ∀ {vs : List V} {ds : List PyData}, RpAll K F vs ds → vs.length = ds.length
  | _, _, .nil => rfl
  | _, _, .cons _ t => congrArg (· + 1) (RpAll.length t)
theorem RpAll.get : ∀ {vs : List V} {ds : List PyData} {i : Nat} {d : PyData}, RpAll K F vs ds → ds[i]? = some d → ∃ v, vs[i]? = some v ∧ Rp K F v d
  | _, _, _, _, .nil, e => by simp at e
  | _, _, 0, _, .cons r _, e => by simp at e; subst e; exact ⟨_, rfl, r⟩
  | _, _, i + 1, d, .cons _ t, e => by
    obtain ⟨v, h1, h2⟩ := RpAll.get (i := i) (d := d) t (by simpa using e)
    exact ⟨v, by simpa using h1, h2⟩
theorem RpAll.get' : ∀ {vs : List V} {ds : List PyData} {i : Nat} {v : V}, RpAll K F vs ds → vs[i]? = some v → ∃ d, ds[i]? = some d ∧ Rp K F v d
  | _, _, _, _, .nil, e => by simp at e
  | _, _, 0, _, .cons r _, e => by simp at e; subst e; exact ⟨_, rfl, r⟩
  | _, _, i + 1, v, .cons _ t, e => by
    obtain ⟨d, h1, h2⟩ := RpAll.get' (i := i) (v := v) t (by simpa using e)
    exact ⟨d, by simpa using h1, h2⟩
theorem RpAll.append : ∀ {vs ws : List V} {ds es : List PyData}, RpAll K F vs ds → RpAll K F ws es → RpAll K F (vs ++ ws) (ds ++ es)
  | _, _, _, _, .nil, s => s
  | _, _, _, _, .cons r t, s => .cons r (RpAll.append t s)
theorem RpAll.take : ∀ {vs : List V} {ds : List PyData} (n : Nat), RpAll K F vs ds → RpAll K F (vs.take n) (ds.take n)
  | _, _, 0, _ => .nil
  | _, _, _ + 1, .nil => .nil
  | _, _, n + 1, .cons r t => .cons r (RpAll.take n t)
theorem RpAll.drop : ∀ {vs : List V} {ds : List PyData} (n : Nat), RpAll K F vs ds → RpAll K F (vs.drop n) (ds.drop n)
  | _, _, 0, r => r
  | _, _, _ + 1, .nil => .nil
  | _, _, n + 1, .cons _ t => RpAll.drop n t
theorem RpAll.erase : ∀ {vs : List V} {ds : List PyData} (n : Nat), RpAll K F vs ds → RpAll K F (vs.eraseIdx n) (ds.eraseIdx n)
  | _, _, _, .nil => .nil
  | _, _, 0, .cons _ t => t
  | _, _, n + 1, .cons r t => .cons r (RpAll.erase n t)
theorem RpAll.set {v : V} {d : PyData} (r : Rp K F v d) : ∀ {vs : List V} {ds : List PyData} (n : Nat), RpAll K F vs ds → RpAll K F (vs.set n v) (ds.set n d)
  | _, _, _, .nil => .nil
  | _, _, 0, .cons _ t => .cons r t
  | _, _, n + 1, .cons q t => .cons q (RpAll.set r n t)
theorem RpAll.ints : ∀ {ns : List Int}, RpAll K F (ns.map V.int) (ns.map PyData.int)
  | [] => .nil
  | n :: ns => .cons (.int n) RpAll.ints
theorem RpAll.strs : ∀ {ns : List Str}, RpAll K F (ns.map V.str) (ns.map PyData.str)
  | [] => .nil
  | n :: ns => .cons (.str n) RpAll.strs
theorem RpAll.reverse {vs : List V} {ds : List PyData} (h : RpAll K F vs ds) : RpAll K F vs.reverse ds.reverse := by
  induction ds generalizing vs with
  | nil => cases h; exact .nil
  | cons d ds ih =>
    cases h with
    | cons r t =>
      rw [List.reverse_cons, List.reverse_cons]
      exact RpAll.append (ih t) (.cons r .nil)
theorem RpAll.rep {vs : List V} {ds : List PyData} (h : RpAll K F vs ds) : ∀ k : Nat, RpAll K F (List.replicate k vs).flatten (List.replicate k ds).flatten
  | 0 => .nil
  | k + 1 => by
    rw [List.replicate_succ, List.replicate_succ, List.flatten_cons, List.flatten_cons]
    exact RpAll.append h (RpAll.rep h k)
end

/-! ### the state -/
def ownAt (σ : L2.St) (ρ : R) (i : Nat) (a : Addr) : Prop := σ[i]? = some (some (.ref a)) ∧ ∃ ds, ρ[i]? = some (.own ds) ∨ ρ[i]? = some (.bor ds)
def Oa (hid : Addr → Prop) (σ : L2.St) (ρ : R) : Addr → Prop := fun b => hid b ∨ ∃ i, ownAt σ ρ i b
noncomputable abbrev Fz (hid : Addr → Prop) (σ : L2.St) (ρ : R) (H : Hp) : Hp := fz (Oa hid σ ρ) H
inductive SlV (K : PySem.W.Frag) (T : VT) (F H : Hp) : Option V → Sl → Prop
  | un (o : Option V) : SlV K T F H o .un
  | val {v : V} {d : PyData} : Rp K F v d → SlV K T F H (some v) (.val d)
  | own {a : Addr} {xs : List V} {ds : List PyData} : H a = some (.lst xs) → RpAll K F xs ds → SlV K T F H (some (.ref a)) (.own ds)
  | bor {a : Addr} {xs : List V} {ds : List PyData} : H a = some (.lst xs) → RpAll K F xs ds → SlV K T F H (some (.ref a)) (.bor ds)
  | scr {a : Addr} {ns : List Int} : SqL K F a (ns.map V.int) → SlV K T F H (some (.ref a)) (.scr ns)
  | fn (n : Nat) : SlV K T F H (some (.ref (T.fa n))) (.fn n)
structure SR (K : PySem.W.Frag) (T : VT) (hid : Addr → Prop) (B : L2.St) (H : Hp) (σ : L2.St) (ρ : R) : Prop where
  len : σ.length = ρ.length
  rel : ∀ (i : Nat) (s : Sl), ρ[i]? = some s → ∃ o, σ[i]? = some o ∧ SlV K T (Fz hid σ ρ H) H o s
  one : ∀ (i j : Nat) (a : Addr), ownAt σ ρ i a → ownAt σ ρ j a → i = j
  sep : ∀ (i : Nat) (a : Addr), ownAt σ ρ i a → ¬ hid a
  hh : ∀ b, hid b → ∃ o, H b = some o
  bor : ∀ (i : Nat) (ds : List PyData), ρ[i]? = some (.bor ds) → B[i]? = σ[i]?
structure Ext (hid : Addr → Prop) (σ : L2.St) (ρ : R) (H : Hp) (σ' : L2.St) (ρ' : R) (H' : Hp) : Prop where
  same : Same (Fz hid σ ρ H) (Fz hid σ' ρ' H')
  keep : ∀ b, hid b → H' b = H b
section
variable {K : PySem.W.Frag} {T : VT} {hid : Addr → Prop} {B : L2.St} {H H' H1 H2 : Hp} {σ σ1 σ2 : L2.St} {ρ ρ1 ρ2 : R}
theorem Ext.refl : Ext hid σ ρ H σ ρ H := ⟨Same.refl _, fun _ _ => rfl⟩
theorem Ext.trans (a : Ext hid σ ρ H σ1 ρ1 H1) (b : Ext hid σ1 ρ1 H1 σ2 ρ2 H2) : Ext hid σ ρ H σ2 ρ2 H2 :=
  ⟨a.same.trans b.same, fun c h => (b.keep c h).trans (a.keep c h)⟩
theorem SlV.mono {F F' : Hp} {o : Option V} {s : Sl} (h : SlV K T F H o s) (e : Same F F') (e2 : Same H H') : SlV K T F' H' o s := by
  cases h with
  | un => exact .un _
  | val r => exact .val (r.mono e)
  | own h r => exact .own (e2 _ _ h) (r.mono e)
  | bor h r => exact .bor (e2 _ _ h) (r.mono e)
  | scr h => exact .scr (e.seq h)
  | fn n => exact .fn n
theorem SR.cell (S : SR K T hid B H σ ρ) {i : Nat} {a : Addr} (h : ownAt σ ρ i a) : ∃ xs ds, H a = some (.lst xs) ∧ RpAll K (Fz hid σ ρ H) xs ds ∧ (ρ[i]? = some (.own ds) ∨ ρ[i]? = some (.bor ds)) := by
  obtain ⟨h1, ds, h2⟩ := h
  rcases h2 with h2 | h2
  · obtain ⟨o, e, r⟩ := S.rel i _ h2
    rw [h1] at e
    cases e
    cases r with
    | own h r => exact ⟨_, _, h, r, .inl h2⟩
  · obtain ⟨o, e, r⟩ := S.rel i _ h2
    rw [h1] at e
    cases e
    cases r with
    | bor h r => exact ⟨_, _, h, r, .inr h2⟩
theorem SR.dom (S : SR K T hid B H σ ρ) : ∀ b, Oa hid σ ρ b → ∃ o, H b = some o := fun b h => by
  rcases h with h | ⟨i, h⟩
  · exact S.hh b h
  · obtain ⟨xs, _, e, _⟩ := S.cell h
    exact ⟨_, e⟩
theorem SR.grow (S : SR K T hid B H σ ρ) (h : Same H H') : SR K T hid B H' σ ρ :=
  ⟨S.len, fun i s e => let ⟨o, a, r⟩ := S.rel i s e; ⟨o, a, r.mono (fz_grow h) h⟩, S.one, S.sep, fun b z => let ⟨o, e⟩ := S.hh b z; ⟨o, h _ _ e⟩, S.bor⟩
theorem SR.ext (S : SR K T hid B H σ ρ) (h : Same H H') : Ext hid σ ρ H σ ρ H' :=
  ⟨fz_grow h, fun b z => by
    obtain ⟨o, e⟩ := S.hh b z
    rw [e, h _ _ e]⟩
theorem SR.lt (S : SR K T hid B H σ ρ) {i : Nat} {s : Sl} (h : ρ[i]? = some s) : i < σ.length := by
  obtain ⟨o, e, _⟩ := S.rel i s h
  exact (List.getElem?_eq_some_iff.mp e).1
theorem Oa_of {b : Addr} {i : Nat} (h : ownAt σ ρ i b) : Oa hid σ ρ b := .inr ⟨i, h⟩

/-- how the own places change when one slot is set to what is no own list -/
theorem ownAt_set {o : Option V} {s : Sl} {i j : Nat} {a : Addr} (hs : ∀ ds, s ≠ .own ds ∧ s ≠ .bor ds) (h : ownAt (σ.set i o) (ρ.set i s) j a) : j ≠ i ∧ ownAt σ ρ j a := by
  obtain ⟨h1, ds, h2⟩ := h
  by_cases e : j = i
  · subst e
    exfalso
    rw [List.getElem?_set] at h2
    rw [if_pos rfl] at h2
    by_cases l : j < ρ.length
    · rw [if_pos l] at h2
      rcases h2 with h2 | h2
      · exact (hs ds).1 (Option.some.inj h2)
      · exact (hs ds).2 (Option.some.inj h2)
    · rw [if_neg l] at h2
      rcases h2 with h2 | h2 <;> cases h2
  · have e' : i ≠ j := fun z => e z.symm
    rw [List.getElem?_set_ne e'] at h1 h2
    exact ⟨e, h1, ds, h2⟩
/-- a slot is set to a value, or to nothing -/
theorem SR.put (S : SR K T hid B H σ ρ) {i : Nat} {o : Option V} {s : Sl} (hs : ∀ ds, s ≠ .own ds ∧ s ≠ .bor ds) (r : SlV K T (Fz hid σ ρ H) H o s) :
    SR K T hid B H (σ.set i o) (ρ.set i s) ∧ Ext hid σ ρ H (σ.set i o) (ρ.set i s) H := by
  have less : ∀ b, Oa hid (σ.set i o) (ρ.set i s) b → Oa hid σ ρ b := fun b h => by
    rcases h with h | ⟨j, h⟩
    · exact .inl h
    · exact .inr ⟨j, (ownAt_set hs h).2⟩
  have sm : Same (Fz hid σ ρ H) (Fz hid (σ.set i o) (ρ.set i s) H) := fz_less less
  refine ⟨⟨by simp [S.len], fun j t e => ?_, fun j k a h1 h2 => S.one j k a (ownAt_set hs h1).2 (ownAt_set hs h2).2, fun j a h => S.sep j a (ownAt_set hs h).2, S.hh, fun j ds e => ?_⟩, sm, fun _ _ => rfl⟩
  · by_cases c : i = j
    · subst c
      rw [List.getElem?_set, if_pos rfl] at e
      by_cases l : i < ρ.length
      · rw [if_pos l] at e
        cases e
        refine ⟨o, by rw [List.getElem?_set, if_pos rfl, if_pos (by rw [S.len]; exact l)], r.mono sm (Same.refl _)⟩
      · rw [if_neg l] at e
        cases e
    · rw [List.getElem?_set_ne c] at e
      obtain ⟨u, e1, r1⟩ := S.rel j t e
      exact ⟨u, by rw [List.getElem?_set_ne c]; exact e1, r1.mono sm (Same.refl _)⟩
  · by_cases c : i = j
    · subst c
      rw [List.getElem?_set, if_pos rfl] at e
      split at e
      · exact absurd (Option.some.inj e) (hs ds).2
      · cases e
    · rw [List.getElem?_set_ne c] at e ⊢
      exact S.bor j ds e
/-- an own list is let go: it is a value from now on -/
theorem SR.freeze (S : SR K T hid B H σ ρ) {i : Nat} {ds : List PyData} (h : ρ[i]? = some (.own ds)) :
    ∃ v, σ[i]? = some (some v) ∧ SR K T hid B H σ (ρ.set i (.val (.list ds))) ∧ Ext hid σ ρ H σ (ρ.set i (.val (.list ds))) H ∧ Rp K (Fz hid σ (ρ.set i (.val (.list ds))) H) v (.list ds) := by
  obtain ⟨o, e, r⟩ := S.rel i _ h
  cases r with
  | own h1 h2 =>
    rename_i a xs
    have es : σ.set i (some (.ref a)) = σ := by
      refine List.ext_getElem? fun k => ?_
      by_cases c : i = k
      · subst c
        rw [List.getElem?_set, if_pos rfl, if_pos (List.getElem?_eq_some_iff.mp e).1, e]
      · rw [List.getElem?_set_ne c]
    have hs : ∀ es, Sl.val (.list ds) ≠ .own es ∧ Sl.val (.list ds) ≠ .bor es := fun _ => ⟨by simp, by simp⟩
    have less : ∀ b, Oa hid σ (ρ.set i (.val (.list ds))) b → Oa hid σ ρ b := fun b z => by
      rcases z with z | ⟨j, z⟩
      · exact .inl z
      · rw [← es] at z
        exact .inr ⟨j, (ownAt_set hs z).2⟩
    have sm : Same (Fz hid σ ρ H) (Fz hid σ (ρ.set i (.val (.list ds))) H) := fz_less less
    have own : ownAt σ ρ i a := ⟨e, ds, .inl h⟩
    have out : ¬ Oa hid σ (ρ.set i (.val (.list ds))) a := fun z => by
      rcases z with z | ⟨j, z⟩
      · exact S.sep i a own z
      · rw [← es] at z
        obtain ⟨n, z⟩ := ownAt_set hs z
        exact n (S.one j i a z own)
    have rp : Rp K (Fz hid σ (ρ.set i (.val (.list ds))) H) (.ref a) (.list ds) := .lst ((fz_out out).trans h1) (h2.mono sm)
    refine ⟨.ref a, e, ⟨by simp [S.len], fun j t q => ?_, fun j k b z1 z2 => ?_, fun j b z => ?_, S.hh, fun j es' q => ?_⟩, ⟨sm, fun _ _ => rfl⟩, rp⟩
    · by_cases c : i = j
      · subst c
        rw [List.getElem?_set, if_pos rfl] at q
        split at q
        · cases q
          exact ⟨_, e, .val rp⟩
        · cases q
      · rw [List.getElem?_set_ne c] at q
        obtain ⟨u, e1, r1⟩ := S.rel j t q
        exact ⟨u, e1, r1.mono sm (Same.refl _)⟩
    · rw [← es] at z1 z2
      exact S.one j k b (ownAt_set hs z1).2 (ownAt_set hs z2).2
    · rw [← es] at z
      exact S.sep j b (ownAt_set hs z).2
    · by_cases c : i = j
      · subst c
        rw [List.getElem?_set, if_pos rfl] at q
        split at q
        · cases q
        · cases q
      · rw [List.getElem?_set_ne c] at q
        exact S.bor j es' q
/-- what is own, borrowed or not: its list is changed in its place -/
def Sl.mut : Sl → List PyData → Option Sl
  | .own _, ds => some (.own ds)
  | .bor _, ds => some (.bor ds)
  | _, _ => none
def Sl.held : Sl → Option (List PyData)
  | .own ds => some ds
  | .bor ds => some ds
  | _ => none
theorem SR.own_of (S : SR K T hid B H σ ρ) {i : Nat} {s : Sl} {ds : List PyData} (h : ρ[i]? = some s) (hd : s.held = some ds) :
    ∃ a xs, σ[i]? = some (some (.ref a)) ∧ ownAt σ ρ i a ∧ H a = some (.lst xs) ∧ RpAll K (Fz hid σ ρ H) xs ds := by
  obtain ⟨o, e, r⟩ := S.rel i _ h
  cases r with
  | own h1 h2 => cases hd; exact ⟨_, _, e, ⟨e, _, .inl h⟩, h1, h2⟩
  | bor h1 h2 => cases hd; exact ⟨_, _, e, ⟨e, _, .inr h⟩, h1, h2⟩
  | un => cases hd
  | val => cases hd
  | scr => cases hd
  | fn => cases hd
theorem ownAt_mut {s s' : Sl} {ds : List PyData} {i j : Nat} {a : Addr} (h : ρ[i]? = some s) (hm : s.mut ds = some s') : ownAt σ (ρ.set i s') j a ↔ ownAt σ ρ j a := by
  have lt := (List.getElem?_eq_some_iff.mp h).1
  unfold ownAt
  refine and_congr_right fun _ => ?_
  by_cases c : i = j
  · subst c
    rw [List.getElem?_set, if_pos rfl, if_pos lt, h]
    cases s <;> simp [Sl.mut] at hm <;> subst hm <;> simp
  · rw [List.getElem?_set_ne c]
theorem SR.upd (S : SR K T hid B H σ ρ) {i : Nat} {s s' : Sl} {a : Addr} {ys : List V} {es : List PyData} (h : ρ[i]? = some s) (hm : s.mut es = some s') (ho : ownAt σ ρ i a) (hr : RpAll K (Fz hid σ ρ H) ys es) :
    SR K T hid B (L2.upd H a (.lst ys)) σ (ρ.set i s') ∧ Ext hid σ ρ H σ (ρ.set i s') (L2.upd H a (.lst ys)) := by
  have lt := (List.getElem?_eq_some_iff.mp h).1
  have eo : Oa hid σ (ρ.set i s') = Oa hid σ ρ := by
    funext b
    exact propext (or_congr_right (exists_congr fun j => ownAt_mut h hm))
  have ef : Fz hid σ (ρ.set i s') (L2.upd H a (.lst ys)) = Fz hid σ ρ H := by
    show fz (Oa hid σ (ρ.set i s')) _ = fz (Oa hid σ ρ) H
    rw [eo]
    funext b
    by_cases c : Oa hid σ ρ b
    · rw [fz_in c, fz_in c]
    · rw [fz_out c, fz_out c, upd_ne (show b ≠ a from fun z => c (z ▸ Oa_of ho))]
  refine ⟨⟨by simp [S.len], fun j t q => ?_, fun j k b z1 z2 => S.one j k b ((ownAt_mut h hm).mp z1) ((ownAt_mut h hm).mp z2), fun j b z => S.sep j b ((ownAt_mut h hm).mp z), fun b z => ?_, fun j fs q => ?_⟩, ⟨by rw [ef]; exact Same.refl _, fun b z => upd_ne (show b ≠ a from fun c => S.sep i a ho (c ▸ z))⟩⟩
  · rw [ef]
    by_cases c : i = j
    · subst c
      rw [List.getElem?_set, if_pos rfl, if_pos lt] at q
      cases q
      refine ⟨_, ho.1, ?_⟩
      cases s <;> simp [Sl.mut] at hm <;> subst hm
      · exact .own upd_same hr
      · exact .bor upd_same hr
    · rw [List.getElem?_set_ne c] at q
      obtain ⟨o, e, r⟩ := S.rel j t q
      refine ⟨o, e, ?_⟩
      cases r with
      | un => exact .un _
      | val r => exact .val r
      | scr r => exact .scr r
      | fn n => exact .fn n
      | own h1 h2 =>
        have nb : _ ≠ a := fun z => c (S.one i j a ho ⟨z ▸ e, _, .inl q⟩)
        exact .own (by rw [upd_ne nb]; exact h1) h2
      | bor h1 h2 =>
        have nb : _ ≠ a := fun z => c (S.one i j a ho ⟨z ▸ e, _, .inr q⟩)
        exact .bor (by rw [upd_ne nb]; exact h1) h2
  · obtain ⟨o, e⟩ := S.hh b z
    refine ⟨o, ?_⟩
    have n : b ≠ a := fun c => S.sep i a ho (c ▸ z)
    rw [upd_ne n]
    exact e
  · by_cases c : i = j
    · subst c
      rw [List.getElem?_set, if_pos rfl, if_pos lt] at q
      cases s <;> simp [Sl.mut] at hm <;> subst hm
      · cases q
      · exact S.bor i _ h
    · rw [List.getElem?_set_ne c] at q
      exact S.bor j fs q
end
end VL

set_option Elab.async false
set_option linter.all false
set_option maxRecDepth 100000
set_option maxHeartbeats 4000000
/-! V1: the readings that a mirror gives, and the rules of expressions, tests, argument lists. -/
namespace VL
open PySem PySem.Spec PyProof.Rows L2

/-! ### outcomes over a state -/
def Res (K : PySem.W.Frag) (T : VT) (W : WX) (hid : Addr → Prop) (B σ : L2.St) (ρ : R) (H : Hp) {α : Type} (o : Oc α) (k : α → R → Hp → Prop) : Prop :=
  match o with
  | .ok a ρ' => ∀ H', SR K T hid B H' σ ρ' → Ext hid σ ρ H σ ρ' H' → k a ρ' H'
  | .ex c ρ' => ∀ H', SR K T hid B H' σ ρ' → Ext hid σ ρ H σ ρ' H' → W (.ref (T.ea c)) none σ H'
  | .no => False
section
variable {K : PySem.W.Frag} {T : VT} {W : WX} {hid : Addr → Prop} {B σ : L2.St} {ρ ρ1 : R} {H H1 : Hp} {α β : Type}
theorem Res.here {a : α} {k : α → R → Hp → Prop} (S : SR K T hid B H σ ρ) (h : Res K T W hid B σ ρ H (.ok a ρ) k) : k a ρ H := h H S Ext.refl
theorem Res.step {o : Oc α} {k : α → R → Hp → Prop} (E : Ext hid σ ρ H σ ρ1 H1) (h : Res K T W hid B σ ρ H o k) : Res K T W hid B σ ρ1 H1 o k := by
  cases o with
  | ok a ρ' => exact fun H' S' E' => h H' S' (E.trans E')
  | ex c ρ' => exact fun H' S' E' => h H' S' (E.trans E')
  | no => exact h
theorem Res.imp {o : Oc α} {k k' : α → R → Hp → Prop} (h : Res K T W hid B σ ρ H o k) (hk : ∀ a ρ' H', SR K T hid B H' σ ρ' → Ext hid σ ρ H σ ρ' H' → k a ρ' H' → k' a ρ' H') : Res K T W hid B σ ρ H o k' := by
  cases o with
  | ok a ρ' => exact fun H' S' E' => hk a ρ' H' S' E' (h H' S' E')
  | ex c ρ' => exact h
  | no => exact h
theorem Res.bind {o : Oc α} {g : α → R → Oc β} {k : β → R → Hp → Prop} (h : Res K T W hid B σ ρ H (o.bind g) k) :
    Res K T W hid B σ ρ H o fun a ρ1 H1 => Res K T W hid B σ ρ1 H1 (g a ρ1) k := by
  cases o with
  | ok a ρ' => exact fun H' S' E' => Res.step E' h
  | ex c ρ' => exact h
  | no => exact h
theorem Res.opt {o : Option α} {k : α → R → Hp → Prop} (S : SR K T hid B H σ ρ) (h : Res K T W hid B σ ρ H (Oc.opt o ρ) k) : ∃ a, o = some a ∧ ∀ H', Same H H' → k a ρ H' := by
  cases o with
  | none => exact h.elim
  | some a => exact ⟨a, rfl, fun H' e => h H' (S.grow e) (S.ext e)⟩
theorem Res.noex {o : Oc α} {k : α → R → Hp → Prop} {W' : WX} (h : Res K T W hid B σ ρ H o.noex k) : Res K T W' hid B σ ρ H o k := by
  cases o with
  | ok a ρ' => exact h
  | ex c ρ' => exact h.elim
  | no => exact h
end

/-! ### readings -/
section
variable (K : PySem.W.Frag) (T : VT) (W : WX)
def rdE (f : ME) : TE := fun σ H Q => ∃ hid B ρ, SR K T hid B H σ ρ ∧ Res K T W hid B σ ρ H (f ρ) fun d ρ' H' => ∀ v, Rp K (Fz hid σ ρ' H') v d → Q v H'
def rdT (f : MT) : TT := fun σ H Q => ∃ hid B ρ, SR K T hid B H σ ρ ∧ Res K T W hid B σ ρ H (f ρ) fun b _ H' => Q b H'
/-- a list that is new: nobody else has it -/
def rdL (f : ML) : TE := fun σ H Q => ∃ hid B ρ, SR K T hid B H σ ρ ∧ Res K T W hid B σ ρ H (f ρ) fun ds ρ' H' => ∀ a xs, H' a = none → RpAll K (Fz hid σ ρ' H') xs ds → Q (.ref a) (L2.upd H' a (.lst xs))
/-- a list of arguments, all of them values -/
def rdD (f : ML) : TA := fun σ H Q => ∃ hid B ρ, SR K T hid B H σ ρ ∧ Res K T W hid B σ ρ H (f ρ) fun ds ρ' H' => ∀ vs, RpAll K (Fz hid σ ρ' H') vs ds → Q vs H'
end
theorem _root_.L2.PE.weak {X : Cx} {e : Expr} {t t' : TE} (h : PE X e t) (w : ∀ σ H Q, t' σ H Q → t σ H Q) : PE X e t' := ⟨fun pins s σ H Q I q => h.run pins s σ H Q I (w σ H Q q)⟩
theorem _root_.L2.PT.weak {X : Cx} {e : Expr} {t t' : TT} (h : PT X e t) (w : ∀ σ H Q, t' σ H Q → t σ H Q) : PT X e t' := ⟨fun pins s σ H Q I q => h.run pins s σ H Q I (w σ H Q q)⟩
theorem _root_.L2.PW.weak {X : Cx} {e : Expr} {t t' : TT} (h : PW X e t) (w : ∀ σ H Q, t' σ H Q → t σ H Q) : PW X e t' := ⟨fun wh pins s σ H Q I q => h.run wh pins s σ H Q I (w σ H Q q)⟩
theorem _root_.L2.PA.weak {X : Cx} {e : List Expr} {t t' : TA} (h : PA X e t) (w : ∀ σ H Q, t' σ H Q → t σ H Q) : PA X e t' := ⟨fun ps pins s σ H Q I q => h.run ps pins s σ H Q I (w σ H Q q)⟩
theorem _root_.L2.PS.weak {X : Cx} {e : Stmt} {t t' : TS} (h : PS X e t) (w : ∀ D σ H, t' D σ H → t D σ H) : PS X e t' := ⟨fun pins s σ H D I q => h.run pins s σ H D I (w D σ H q)⟩
theorem _root_.L2.PSs.weak {X : Cx} {e : List Stmt} {t t' : TS} (h : PSs X e t) (w : ∀ D σ H, t' D σ H → t D σ H) : PSs X e t' := ⟨fun pins s σ H D I q => h.run pins s σ H D I (w D σ H q)⟩
theorem _root_.L2.PG.weak {X : Cx} {e : Expr} {t t' : TG} (h : PG X e t) (w : ∀ v σ H Q, t' v σ H Q → t v σ H Q) : PG X e t' :=
  ⟨fun pins s σ H v u Q I r q => h.run pins s σ H v u Q I r (w v σ H Q q)⟩
theorem _root_.L2.PI.weak {X : Cx} {tg e : Expr} {t t' : TI} (h : PI X tg e t) (w : ∀ σ H Q, t' σ H Q → t σ H Q) : PI X tg e t' := ⟨fun pins s σ H Q I q => h.run pins s σ H Q I (w σ H Q q)⟩

abbrev XE (X : Cx) (T : VT) (W : WX) (e : Expr) (f : ME) : Prop := PE X e (rdE X.K T W f)
abbrev XT (X : Cx) (T : VT) (W : WX) (e : Expr) (f : MT) : Prop := PT X e (rdT X.K T W f)
abbrev XW (X : Cx) (T : VT) (W : WX) (e : Expr) (f : MT) : Prop := PW X e (rdT X.K T W f)
abbrev XL (X : Cx) (T : VT) (W : WX) (e : Expr) (f : ML) : Prop := PE X e (rdL X.K T W f)
abbrev XD (X : Cx) (T : VT) (W : WX) (es : List Expr) (f : ML) : Prop := PA X es (rdD X.K T W f)

/-! ### what an operation does with data, the heap only growing -/
def Pure1 (K : PySem.W.Frag) (r : V → Hp → VK → Prop) (op : PyData → Option PyData) : Prop :=
  ∀ (O : Addr → Prop) (H : Hp) (x : V) (d res : PyData) (Q : VK), (∀ b, O b → ∃ o, H b = some o) → Rp K (fz O H) x d → op d = some res → (∀ v H', Same H H' → Rp K (fz O H') v res → Q v H') → r x H Q
def Pure2 (K : PySem.W.Frag) (r : R2) (op : PyData → PyData → Option PyData) : Prop :=
  ∀ (O : Addr → Prop) (H : Hp) (x y : V) (d e res : PyData) (Q : VK), (∀ b, O b → ∃ o, H b = some o) → Rp K (fz O H) x d → Rp K (fz O H) y e → op d e = some res → (∀ v H', Same H H' → Rp K (fz O H') v res → Q v H') → r x y H Q
def PureN (K : PySem.W.Frag) (r : List V → Hp → VK → Prop) (op : List PyData → Option PyData) : Prop :=
  ∀ (O : Addr → Prop) (H : Hp) (xs : List V) (ds : List PyData) (res : PyData) (Q : VK), (∀ b, O b → ∃ o, H b = some o) → RpAll K (fz O H) xs ds → op ds = some res → (∀ v H', Same H H' → Rp K (fz O H') v res → Q v H') → r xs H Q
/-- .. that makes a new list -/
def PureL (K : PySem.W.Frag) (r : List V → Hp → VK → Prop) (op : List PyData → Option (List PyData)) : Prop :=
  ∀ (O : Addr → Prop) (H : Hp) (xs : List V) (ds res : List PyData) (Q : VK), (∀ b, O b → ∃ o, H b = some o) → RpAll K (fz O H) xs ds → op ds = some res →
    (∀ H' a ys, Same H H' → H' a = none → RpAll K (fz O H') ys res → Q (.ref a) (L2.upd H' a (.lst ys))) → r xs H Q

/-! ### mirrors of expressions -/
def mVar (i : Nat) : ME := fun ρ => match ρ[i]? with
  | some (.val d) => .ok d ρ
  | _ => .no
/-- an own list is read, and given away -/
def mFrz (i : Nat) : ME := fun ρ => match ρ[i]? with
  | some (.own ds) => .ok (.list ds) (ρ.set i (.val (.list ds)))
  | _ => .no
def mC (d : PyData) : ME := fun ρ => .ok d ρ
def m1 (op : PyData → Option PyData) (f : ME) : ME := fun ρ => (f ρ).bind fun d ρ1 => Oc.opt (op d) ρ1
def m2 (op : PyData → PyData → Option PyData) (f g : ME) : ME := fun ρ => (f ρ).bind fun d ρ1 => (g ρ1).bind fun e ρ2 => Oc.opt (op d e) ρ2
def mN (op : List PyData → Option PyData) (f : ML) : ME := fun ρ => (f ρ).bind fun ds ρ1 => Oc.opt (op ds) ρ1
def mNL (op : List PyData → Option (List PyData)) (f : ML) : ML := fun ρ => (f ρ).bind fun ds ρ1 => Oc.opt (op ds) ρ1
def mNil : ML := fun ρ => .ok [] ρ
def mCons (f : ME) (g : ML) : ML := fun ρ => (f ρ).bind fun d ρ1 => (g ρ1).bind fun ds ρ2 => .ok (d :: ds) ρ2
def mLst (f : ML) : ME := fun ρ => (f ρ).bind fun ds ρ1 => .ok (.list ds) ρ1
def fits (n : Nat) : Bool := decide (n ≤ 16777216)
def mTup (f : ML) : ME := fun ρ => (f ρ).bind fun ds ρ1 => if fits ds.length then .ok (.tuple ds) ρ1 else .no
def mDsp (f : ML) : ML := fun ρ => (f ρ).bind fun ds ρ1 => if fits ds.length then .ok ds ρ1 else .no
def mB (f : ME) : MT := fun ρ => (f ρ).bind fun d ρ1 => match d with
  | .bool b => .ok b ρ1
  | _ => .no
def truD : PyData → Option Bool
  | .none => some false
  | .bool b => some b
  | .int i => some (i != 0)
  | .str x => if fits x.length then some ((x.length : Int) != 0) else none
  | .list ds => some (!ds.isEmpty)
  | .tuple ds => some (!ds.isEmpty)
  | .dict _ => none
def mTru (f : ME) : MT := fun ρ => (f ρ).bind fun d ρ1 => Oc.opt (truD d) ρ1
def mAnd (f g : MT) : MT := fun ρ => (f ρ).bind fun b ρ1 => if b = true then g ρ1 else .ok false ρ1
def mOr (f g : MT) : MT := fun ρ => (f ρ).bind fun b ρ1 => if b = true then .ok true ρ1 else g ρ1
def mNot (f : MT) : MT := fun ρ => (f ρ).bind fun b ρ1 => .ok (!b) ρ1
def mIf (c : MT) (f g : ME) : ME := fun ρ => (c ρ).bind fun b ρ1 => if b = true then f ρ1 else g ρ1
/-- a test's answer as a value -/
def mV (c : MT) : ME := fun ρ => (c ρ).bind fun b ρ1 => .ok (.bool b) ρ1
def mChain (op op' : PyData → PyData → Option PyData) (f g h : ME) : ME := fun ρ => (f ρ).bind fun d ρ1 => (g ρ1).bind fun e ρ2 => match op d e with
  | some (.bool true) => (h ρ2).bind fun c ρ3 => Oc.opt (op' e c) ρ3
  | some (.bool false) => .ok (.bool false) ρ2
  | _ => .no

section
variable {X : Cx} {T : VT} {W : WX}
theorem sz_fits {n : Nat} (h : fits n = true) : n ≤ sizeLine := by rw [sizeLine_eq]; exact of_decide_eq_true h
/-! #### names, constants -/
theorem xv (i : Nat) {x : Str} {pos : Pos} (hN : X.N[i]? = some x := by rfl) (hv : Vis X.env.scope x := by first | exact Or.inl rfl | exact Or.inr (Or.inl rfl) | exact Or.inr (Or.inr rfl)) (hd : (x == ("__debug__" : Str)) = false := by decide)
    (hcd : (x == ("__classdict__" : Str)) = false := by decide) : XE X T W (.Name x pos) (mVar i) := (pe_var hN hv hd hcd).weak fun σ H Q ⟨hid, B, ρ, S, r⟩ => by
  unfold mVar at r
  split at r
  · rename_i d e
    obtain ⟨o, e1, r1⟩ := S.rel i _ e
    cases r1 with
    | val r1 => exact ⟨_, e1, Res.here S r _ r1⟩
  · exact r.elim
theorem xfrz (i : Nat) {x : Str} {pos : Pos} (hN : X.N[i]? = some x := by rfl) (hv : Vis X.env.scope x := by first | exact Or.inl rfl | exact Or.inr (Or.inl rfl) | exact Or.inr (Or.inr rfl)) (hd : (x == ("__debug__" : Str)) = false := by decide)
    (hcd : (x == ("__classdict__" : Str)) = false := by decide) : XE X T W (.Name x pos) (mFrz i) := (pe_var hN hv hd hcd).weak fun σ H Q ⟨hid, B, ρ, S, r⟩ => by
  unfold mFrz at r
  split at r
  · rename_i ds e
    obtain ⟨v, e1, S1, E1, r1⟩ := S.freeze e
    exact ⟨_, e1, r H S1 E1 v r1⟩
  · exact r.elim
theorem xc {e : Expr} {v : V} {d : PyData} (h : PE X e (tC v)) (hr : ∀ F, Rp X.K F v d) : XE X T W e (mC d) := h.weak fun σ H Q ⟨hid, B, ρ, S, r⟩ => Res.here S r v (hr _)
theorem xint {i j pos} : XE X T W (.Constant (.int i) j pos) (mC (.int i)) := xc pe_int fun _ => .int i
theorem xbl {i j pos} : XE X T W (.Constant (.bool i) j pos) (mC (.bool i)) := xc pe_bl fun _ => .bl i
theorem xnon {j pos} : XE X T W (.Constant .none j pos) (mC .none) := xc pe_non fun _ => .non
theorem xstr {i j pos} : XE X T W (.Constant (.str i) j pos) (mC (.str i)) := xc pe_str fun _ => .str i
theorem xglob {x : Str} {v : V} {u : Value} {pos : Pos} {d : PyData} (hg : Gl X x) (hm : X.mg x = some u) (rv : RelV v u) (hr : ∀ F, Rp X.K F v d) (hd : (x == ("__debug__" : Str)) = false := by decide) : XE X T W (.Name x pos) (mC d) :=
  xc (pe_glob hg hm rv hd) hr

/-! #### operations -/
variable {a b c : Expr} {f g h : ME} {pos : Pos}
theorem rd2 {r : R2} {op : PyData → PyData → Option PyData} (hp : Pure2 X.K r op) {σ : L2.St} {H : Hp} {Q : VK} (q : rdE X.K T W (m2 op f g) σ H Q) : tOp r (rdE X.K T W f) (rdE X.K T W g) σ H Q := by
  obtain ⟨hid, B, ρ, S, q⟩ := q
  refine ⟨hid, B, ρ, S, (Res.bind q).imp fun d ρ1 H1 S1 E1 q1 x rx => ⟨hid, B, ρ1, S1, (Res.bind q1).imp fun e ρ2 H2 S2 E2 q2 y ry => ?_⟩⟩
  obtain ⟨res, hres, q3⟩ := Res.opt S2 q2
  exact hp _ H2 x y d e res Q S2.dom (rx.mono E2.same) ry hres fun v H' e2 rv => q3 H' e2 v rv
theorem rd1 {r : V → Hp → VK → Prop} {op : PyData → Option PyData} (hp : Pure1 X.K r op) {σ : L2.St} {H : Hp} {Q : VK} (q : rdE X.K T W (m1 op f) σ H Q) : rdE X.K T W f σ H fun x H1 => r x H1 Q := by
  obtain ⟨hid, B, ρ, S, q⟩ := q
  refine ⟨hid, B, ρ, S, (Res.bind q).imp fun d ρ1 H1 S1 E1 q1 x rx => ?_⟩
  obtain ⟨res, hres, q3⟩ := Res.opt S1 q1
  exact hp _ H1 x d res Q S1.dom rx hres fun v H' e2 rv => q3 H' e2 v rv
theorem rdN {r : List V → Hp → VK → Prop} {op : List PyData → Option PyData} {fs : ML} (hp : PureN X.K r op) {σ : L2.St} {H : Hp} {Q : VK} (q : rdE X.K T W (mN op fs) σ H Q) : rdD X.K T W fs σ H fun xs H1 => r xs H1 Q := by
  obtain ⟨hid, B, ρ, S, q⟩ := q
  refine ⟨hid, B, ρ, S, (Res.bind q).imp fun d ρ1 H1 S1 E1 q1 x rx => ?_⟩
  obtain ⟨res, hres, q3⟩ := Res.opt S1 q1
  exact hp _ H1 x d res Q S1.dom rx hres fun v H' e2 rv => q3 H' e2 v rv
theorem rdNL {r : List V → Hp → VK → Prop} {op : List PyData → Option (List PyData)} {fs : ML} (hp : PureL X.K r op) {σ : L2.St} {H : Hp} {Q : VK} (q : rdL X.K T W (mNL op fs) σ H Q) : rdD X.K T W fs σ H fun xs H1 => r xs H1 Q := by
  obtain ⟨hid, B, ρ, S, q⟩ := q
  refine ⟨hid, B, ρ, S, (Res.bind q).imp fun d ρ1 H1 S1 E1 q1 x rx => ?_⟩
  obtain ⟨res, hres, q3⟩ := Res.opt S1 q1
  exact hp _ H1 x d res Q S1.dom rx hres fun H2 a ys sm ha hy => q3 H2 sm a ys ha hy
theorem xop {o : Operator} {r : R2} {op : PyData → PyData → Option PyData} (ho : OpR X (binaryOp o) r) (hp : Pure2 X.K r op) (ha : XE X T W a f) (hb : XE X T W b g) : XE X T W (.BinOp a o b pos) (m2 op f g) :=
  (pe_op ho ha hb).weak fun σ H Q q => rd2 hp q
theorem xun {o : UnaryOp} {r : V → Hp → VK → Prop} {op : PyData → Option PyData} (ho : UnR X (unaryOp o) r) (hp : Pure1 X.K r op) (ha : XE X T W a f) : XE X T W (.UnaryOp o a pos) (m1 op f) :=
  (pe_un ho ha).weak fun σ H Q q => rd1 hp q
theorem xcmp {o : CmpOp} {r : R2} {op : PyData → PyData → Option PyData} (ho : OpR X (compareOp o) r) (hp : Pure2 X.K r op) (ha : XE X T W a f) (hb : XE X T W b g) (hm : behindInMarks o b = false) : XE X T W (.Compare a [o] [b] pos) (m2 op f g) :=
  (pe_cmpR ho ha hb hm).weak fun σ H Q q => rd2 hp q
theorem rdB {σ : L2.St} {H : Hp} {Q : Bool → Hp → Prop} (q : rdT X.K T W (mB f) σ H Q) : rdE X.K T W f σ H fun x H' => ∃ k, x = .bl k ∧ Q k H' := by
  obtain ⟨hid, B, ρ, S, q⟩ := q
  refine ⟨hid, B, ρ, S, (Res.bind q).imp fun d ρ1 H1 S1 E1 q1 x rx => ?_⟩
  cases d with
  | bool k =>
    cases rx
    exact ⟨k, rfl, Res.here S1 q1⟩
  | _ => exact q1.elim
theorem tcmp {o : CmpOp} {r : R2} {op : PyData → PyData → Option PyData} (ho : OpR X (compareOp o) r) (hp : Pure2 X.K r op) (ha : XE X T W a f) (hb : XE X T W b g) (hm : behindInMarks o b = false) : XT X T W (.Compare a [o] [b] pos) (mB (m2 op f g)) :=
  (pt_cmpR ho ha hb hm).weak fun σ H Q q => by
    have := rdB q
    exact rd2 hp this
theorem tval {e : Expr} (he : XE X T W e f) (hw : ∀ whole, isTrue e X.env whole = (do let v ← whole; standAt e.pos; holding [v] (truthy v)) := by intro _; rfl) : XT X T W e (mB f) :=
  (pt_val he hw).weak fun σ H Q q => rdB q
theorem ttru {e : Expr} (he : XE X T W e f) (hw : ∀ whole, isTrue e X.env whole = (do let v ← whole; standAt e.pos; holding [v] (truthy v)) := by intro _; rfl) : XT X T W e (mTru f) :=
  (pt_truth he hw).weak fun σ H Q q => by
    obtain ⟨hid, B, ρ, S, q⟩ := q
    refine ⟨hid, B, ρ, S, (Res.bind q).imp fun d ρ1 H1 S1 E1 q1 x rx => ?_⟩
    obtain ⟨k, hk, q2⟩ := Res.opt S1 q1
    refine ⟨k, ?_, q2 H1 (Same.refl _)⟩
    cases d with
    | none => cases rx; cases hk; rfl
    | bool b => cases rx; cases hk; rfl
    | int i => cases rx; cases hk; rfl
    | str z =>
      cases rx
      simp only [truD] at hk
      split at hk
      · rename_i hz
        cases hk
        exact ⟨sz_fits hz, rfl⟩
      · cases hk
    | list ds =>
      cases rx with
      | lst h1 h2 =>
        cases hk
        refine .inl ⟨_, SqL.of (fz_le _ _ h1), ?_⟩
        cases h2 <;> rfl
    | tuple ds =>
      cases rx with
      | tup h1 h2 =>
        cases hk
        refine .inr (.inl ⟨_, seqT_same fz_le h1, ?_⟩)
        cases h2 <;> rfl
    | dict _ => cases rx
/-! #### and, or, not, if .. else -/
variable {tf tg : MT} {rest : List Expr}
theorem wand1 (ha : XT X T W a tf) : XW X T W (.BoolOp .And [a] pos) tf := pw_and1 ha
theorem wor1 (ha : XT X T W a tf) : XW X T W (.BoolOp .Or [a] pos) tf := pw_or1 ha
theorem wand (ha : XT X T W a tf) (hb : XW X T W (.BoolOp .And (b :: rest) pos) tg) : XW X T W (.BoolOp .And (a :: b :: rest) pos) (mAnd tf tg) :=
  (pw_and ha hb).weak fun σ H Q ⟨hid, B, ρ, S, q⟩ => ⟨hid, B, ρ, S, (Res.bind q).imp fun k ρ1 H1 S1 E1 q1 => by
    cases k with
    | true => exact (if_pos rfl).mpr ⟨hid, B, ρ1, S1, q1⟩
    | false => exact (if_neg Bool.false_ne_true).mpr (Res.here S1 q1)⟩
theorem wor (ha : XT X T W a tf) (hb : XW X T W (.BoolOp .Or (b :: rest) pos) tg) : XW X T W (.BoolOp .Or (a :: b :: rest) pos) (mOr tf tg) :=
  (pw_or ha hb).weak fun σ H Q ⟨hid, B, ρ, S, q⟩ => ⟨hid, B, ρ, S, (Res.bind q).imp fun k ρ1 H1 S1 E1 q1 => by
    cases k with
    | true => exact (if_pos rfl).mpr (Res.here S1 q1)
    | false => exact (if_neg Bool.false_ne_true).mpr ⟨hid, B, ρ1, S1, q1⟩⟩
theorem tw {e : Expr} (h : XW X T W e tf) : XT X T W e tf := h.pt
theorem tnot (ha : XT X T W a tf) : XT X T W (.UnaryOp .Not a pos) (mNot tf) :=
  (pt_not ha).weak fun σ H Q ⟨hid, B, ρ, S, q⟩ => ⟨hid, B, ρ, S, (Res.bind q).imp fun k ρ1 H1 S1 E1 q1 => Res.here S1 q1⟩
theorem xif {tc : MT} (hc : XT X T W c tc) (ha : XE X T W a f) (hb : XE X T W b g) : XE X T W (.IfExp c a b pos) (mIf tc f g) :=
  (pe_ifExp hc ha hb).weak fun σ H Q ⟨hid, B, ρ, S, q⟩ => ⟨hid, B, ρ, S, (Res.bind q).imp fun k ρ1 H1 S1 E1 q1 => by
    cases k with
    | true => exact (if_pos rfl).mpr ⟨hid, B, ρ1, S1, q1⟩
    | false => exact (if_neg Bool.false_ne_true).mpr ⟨hid, B, ρ1, S1, q1⟩⟩
theorem xone {op} (ha : XE X T W a f) : XE X T W (.BoolOp op [a] pos) f := pe_one ha
def mAndV (f g : ME) : ME := fun ρ => (f ρ).bind fun d ρ1 => match d with
  | .bool true => g ρ1
  | .bool false => .ok (.bool false) ρ1
  | _ => .no
def mOrV (f g : ME) : ME := fun ρ => (f ρ).bind fun d ρ1 => match d with
  | .bool true => .ok (.bool true) ρ1
  | .bool false => g ρ1
  | _ => .no
def mNotV (f : ME) : ME := fun ρ => (f ρ).bind fun d ρ1 => match d with
  | .bool b => .ok (.bool (!b)) ρ1
  | _ => .no
theorem xand (ha : XE X T W a f) (hb : XE X T W (.BoolOp .And (b :: rest) pos) g) : XE X T W (.BoolOp .And (a :: b :: rest) pos) (mAndV f g) :=
  (pe_and ha hb).weak fun σ H Q ⟨hid, B, ρ, S, q⟩ => ⟨hid, B, ρ, S, (Res.bind q).imp fun d ρ1 H1 S1 E1 q1 x rx => by
    cases d with
    | bool k =>
      cases rx
      refine ⟨k, rfl, ?_⟩
      cases k with
      | true => exact (if_pos rfl).mpr ⟨hid, B, ρ1, S1, q1⟩
      | false => exact (if_neg Bool.false_ne_true).mpr (Res.here S1 q1 _ (.bl _))
    | _ => exact q1.elim⟩
theorem xor (ha : XE X T W a f) (hb : XE X T W (.BoolOp .Or (b :: rest) pos) g) : XE X T W (.BoolOp .Or (a :: b :: rest) pos) (mOrV f g) :=
  (pe_or ha hb).weak fun σ H Q ⟨hid, B, ρ, S, q⟩ => ⟨hid, B, ρ, S, (Res.bind q).imp fun d ρ1 H1 S1 E1 q1 x rx => by
    cases d with
    | bool k =>
      cases rx
      refine ⟨k, rfl, ?_⟩
      cases k with
      | true => exact (if_pos rfl).mpr (Res.here S1 q1 _ (.bl _))
      | false => exact (if_neg Bool.false_ne_true).mpr ⟨hid, B, ρ1, S1, q1⟩
    | _ => exact q1.elim⟩
theorem xnot (ha : XE X T W a f) : XE X T W (.UnaryOp .Not a pos) (mNotV f) :=
  (pe_not ha).weak fun σ H Q ⟨hid, B, ρ, S, q⟩ => ⟨hid, B, ρ, S, (Res.bind q).imp fun d ρ1 H1 S1 E1 q1 x rx => by
    cases d with
    | bool k =>
      cases rx
      exact ⟨k, rfl, Res.here S1 q1 _ (.bl _)⟩
    | _ => exact q1.elim⟩
/-! #### chains -/
theorem rdChain {r r' : R2} {op op' : PyData → PyData → Option PyData} (hp : Pure2 X.K r op) (hp' : Pure2 X.K r' op') (hb1 : ∀ d e res, op d e = some res → ∃ k, res = .bool k) {σ : L2.St} {H : Hp} {Q : VK} (q : rdE X.K T W (mChain op op' f g h) σ H Q) : tChain r r' (rdE X.K T W f) (rdE X.K T W g) (rdE X.K T W h) σ H Q := by
  obtain ⟨hid, B, ρ, S, q⟩ := q
  refine ⟨hid, B, ρ, S, (Res.bind q).imp fun d ρ1 H1 S1 E1 q1 x rx => ⟨hid, B, ρ1, S1, (Res.bind q1).imp fun e ρ2 H2 S2 E2 q2 y ry => ?_⟩⟩
  cases hop : op d e with
  | none => rw [hop] at q2; exact q2.elim
  | some res =>
    obtain ⟨k, rfl⟩ := hb1 _ _ _ hop
    rw [hop] at q2
    refine hp _ H2 x y d e _ _ S2.dom (rx.mono E2.same) ry hop fun v H' e2 rv => ?_
    cases rv
    refine ⟨k, rfl, ?_⟩
    have S3 := S2.grow e2
    have E3 := S2.ext e2
    cases k with
    | true =>
      refine (if_pos rfl).mpr ⟨hid, B, ρ2, S3, (Res.bind (Res.step E3 q2)).imp fun c ρ3 H3 S4 E4 q4 z rz => ?_⟩
      obtain ⟨res, hres, q5⟩ := Res.opt S4 q4
      exact hp' _ H3 y z e c res Q S4.dom ((ry.mono E3.same).mono E4.same) rz hres fun v H' e2 rv => q5 H' e2 v rv
    | false => exact (if_neg Bool.false_ne_true).mpr (q2 H' S3 E3 _ (.bl _))
theorem xchain {o o' : CmpOp} {r r' : R2} {op op' : PyData → PyData → Option PyData} (ho : OpR X (compareOp o) r) (ho' : OpR X (compareOp o') r') (hp : Pure2 X.K r op) (hp' : Pure2 X.K r' op') (hb1 : ∀ d e res, op d e = some res → ∃ k, res = .bool k)
    (ha : XE X T W a f) (hb : XE X T W b g) (hc : XE X T W c h) (hm : lastMarks [o, o'] [b, c] = false) : XE X T W (.Compare a [o, o'] [b, c] pos) (mChain op op' f g h) :=
  (pe_chain ho ho' ha hb hc hm).weak fun σ H Q q => rdChain hp hp' hb1 q
/-! #### argument lists, displays -/
variable {es : List Expr} {fs : ML}
theorem dnil : XD X T W [] mNil := pa_nil.weak fun σ H Q ⟨hid, B, ρ, S, q⟩ => Res.here S q [] .nil
theorem dcons (ha : XE X T W a f) (hr : XD X T W es fs) (hs : starEach (a :: es) X.env = (false, eval a X.env) :: starEach es X.env := by rfl) : XD X T W (a :: es) (mCons f fs) :=
  (pa_cons ha hr hs).weak fun σ H Q ⟨hid, B, ρ, S, q⟩ => ⟨hid, B, ρ, S, (Res.bind q).imp fun d ρ1 H1 S1 E1 q1 x rx => ⟨hid, B, ρ1, S1, (Res.bind q1).imp fun ds ρ2 H2 S2 E2 q2 xs rxs =>
    Res.here S2 q2 (x :: xs) (.cons (rx.mono E2.same) rxs)⟩⟩
theorem tup_new {K : PySem.W.Frag} {O : Addr → Prop} {H : Hp} {vs : List V} {ds : List PyData} {p : Addr} (hO : ∀ b, O b → ∃ o, H b = some o) (hp : H p = none) (r : RpAll K (fz O H) vs ds) :
    Same H (L2.upd H p (.tup vs)) ∧ Rp K (fz O (L2.upd H p (.tup vs))) (.ref p) (.tuple ds) := by
  have sm : Same H (L2.upd H p (.tup vs)) := fun b o e => by rw [upd_ne (ne_of_none e hp)]; exact e
  have no : ¬ O p := fun z => by
    obtain ⟨o, e⟩ := hO p z
    rw [hp] at e
    cases e
  exact ⟨sm, .tup (SqT.of ((fz_out no).trans upd_same)) (r.mono (fz_grow sm))⟩
theorem lst_new {K : PySem.W.Frag} {O : Addr → Prop} {H : Hp} {vs : List V} {ds : List PyData} {p : Addr} (hO : ∀ b, O b → ∃ o, H b = some o) (hp : H p = none) (r : RpAll K (fz O H) vs ds) :
    Same H (L2.upd H p (.lst vs)) ∧ Rp K (fz O (L2.upd H p (.lst vs))) (.ref p) (.list ds) := by
  have sm : Same H (L2.upd H p (.lst vs)) := fun b o e => by rw [upd_ne (ne_of_none e hp)]; exact e
  have no : ¬ O p := fun z => by
    obtain ⟨o, e⟩ := hO p z
    rw [hp] at e
    cases e
  exact ⟨sm, .lst ((fz_out no).trans upd_same) (r.mono (fz_grow sm))⟩
theorem xtup {x1} (hd : XD X T W es fs) : XE X T W (.Tuple es x1 pos) (mTup fs) :=
  (pe_tup hd).weak fun σ H Q ⟨hid, B, ρ, S, q⟩ => ⟨hid, B, ρ, S, (Res.bind q).imp fun ds ρ1 H1 S1 E1 q1 xs rxs => by
    by_cases z : fits ds.length = true
    · rw [if_pos z] at q1
      refine ⟨by rw [rxs.length]; exact sz_fits z, fun p hp => ?_⟩
      obtain ⟨sm, r⟩ := tup_new S1.dom hp rxs
      exact q1 _ (S1.grow sm) (S1.ext sm) _ r
    · rw [if_neg z] at q1
      exact q1.elim⟩
theorem ldsp (hd : XD X T W es fs) : XL X T W (.List es pos) (mDsp fs) :=
  (pe_lst hd).weak fun σ H Q ⟨hid, B, ρ, S, q⟩ => ⟨hid, B, ρ, S, (Res.bind q).imp fun ds ρ1 H1 S1 E1 q1 xs rxs => by
    by_cases z : fits ds.length = true
    · rw [if_pos z] at q1
      exact ⟨by rw [rxs.length]; exact sz_fits z, fun p hp => Res.here S1 q1 p xs hp rxs⟩
    · rw [if_neg z] at q1
      exact q1.elim⟩
/-- a new list as a value -/
theorem xl {e : Expr} (hl : XL X T W e fs) : XE X T W e (mLst fs) :=
  hl.weak fun σ H Q ⟨hid, B, ρ, S, q⟩ => ⟨hid, B, ρ, S, (Res.bind q).imp fun ds ρ1 H1 S1 E1 q1 p xs hp rxs => by
    obtain ⟨sm, r⟩ := lst_new S1.dom hp rxs
    exact q1 _ (S1.grow sm) (S1.ext sm) _ r⟩
/-! #### built-ins -/
variable {x : Str} {p : Pos} {id Ty : String} {r : List V → Hp → VK → Prop}
theorem xcb {op : List PyData → Option PyData} (hc : CallR X (.builtin id) r) (hp : PureN X.K r op) (hg : Gl X x) (hm : X.mg x = none) (hv : bootBuiltins x = some (.builtin id)) (ha : XD X T W (a :: es) fs) (hn : x ≠ "__name__" := by decide) (hdb : (x == ("__debug__" : Str)) = false := by decide)
    (he : starEach (a :: es) X.env = (false, eval a X.env) :: starEach es X.env := by rfl) (hpl : (backTo pos (starEach es X.env)).any (·.1) = false := by rfl) : XE X T W (.Call (.Name x p) (a :: es) [] pos) (mN op fs) :=
  (pe_callB hc hg hm hv ha hn hdb he hpl).weak fun σ H Q q => rdN hp q
theorem xct {op : List PyData → Option PyData} (hc : CallR X (.type Ty) r) (hp : PureN X.K r op) (hg : Gl X x) (hm : X.mg x = none) (hv : bootBuiltins x = some (.type Ty)) (ha : XD X T W (a :: es) fs) (hn : x ≠ "__name__" := by decide) (hdb : (x == ("__debug__" : Str)) = false := by decide)
    (he : starEach (a :: es) X.env = (false, eval a X.env) :: starEach es X.env := by rfl) (hpl : (backTo pos (starEach es X.env)).any (·.1) = false := by rfl) : XE X T W (.Call (.Name x p) (a :: es) [] pos) (mN op fs) :=
  (pe_callTy hc hg hm hv ha hn hdb he hpl).weak fun σ H Q q => rdN hp q
theorem lcb {op : List PyData → Option (List PyData)} (hc : CallR X (.builtin id) r) (hp : PureL X.K r op) (hg : Gl X x) (hm : X.mg x = none) (hv : bootBuiltins x = some (.builtin id)) (ha : XD X T W (a :: es) fs) (hn : x ≠ "__name__" := by decide) (hdb : (x == ("__debug__" : Str)) = false := by decide)
    (he : starEach (a :: es) X.env = (false, eval a X.env) :: starEach es X.env := by rfl) (hpl : (backTo pos (starEach es X.env)).any (·.1) = false := by rfl) : XL X T W (.Call (.Name x p) (a :: es) [] pos) (mNL op fs) :=
  (pe_callB hc hg hm hv ha hn hdb he hpl).weak fun σ H Q q => rdNL hp q
theorem lct {op : List PyData → Option (List PyData)} (hc : CallR X (.type Ty) r) (hp : PureL X.K r op) (hg : Gl X x) (hm : X.mg x = none) (hv : bootBuiltins x = some (.type Ty)) (ha : XD X T W (a :: es) fs) (hn : x ≠ "__name__" := by decide) (hdb : (x == ("__debug__" : Str)) = false := by decide)
    (he : starEach (a :: es) X.env = (false, eval a X.env) :: starEach es X.env := by rfl) (hpl : (backTo pos (starEach es X.env)).any (·.1) = false := by rfl) : XL X T W (.Call (.Name x p) (a :: es) [] pos) (mNL op fs) :=
  (pe_callTy hc hg hm hv ha hn hdb he hpl).weak fun σ H Q q => rdNL hp q
end
end VL

set_option Elab.async false
set_option linter.all false
set_option maxRecDepth 100000
set_option maxHeartbeats 4000000
/-! V2: statements, targets, what is walked, loops, comprehensions. -/
namespace VL
open PySem PySem.Spec PyProof.Rows L2

inductive Fl where
  | nx | rt (d : PyData) | bk | ct
abbrev MS := R → Oc Fl
def ResS (K : PySem.W.Frag) (T : VT) (W : WX) (hid : Addr → Prop) (B σ : L2.St) (ρ : R) (H : Hp) (o : Oc Fl) (D : Ends) : Prop :=
  match o with
  | .ok .nx ρ' => ∀ σ' H', SR K T hid B H' σ' ρ' → Ext hid σ ρ H σ' ρ' H' → D.nx σ' H'
  | .ok (.rt d) ρ' => ∀ σ' H' v, SR K T hid B H' σ' ρ' → Ext hid σ ρ H σ' ρ' H' → Rp K (Fz hid σ' ρ' H') v d → D.rt v H'
  | .ok .bk ρ' => ∀ σ' H', SR K T hid B H' σ' ρ' → Ext hid σ ρ H σ' ρ' H' → D.bk σ' H'
  | .ok .ct ρ' => ∀ σ' H', SR K T hid B H' σ' ρ' → Ext hid σ ρ H σ' ρ' H' → D.ct σ' H'
  | .ex c ρ' => ∀ σ' H', SR K T hid B H' σ' ρ' → Ext hid σ ρ H σ' ρ' H' → W (.ref (T.ea c)) none σ' H'
  | .no => False
def rdS (K : PySem.W.Frag) (T : VT) (W : WX) (m : MS) : TS := fun D σ H => ∃ hid B ρ, SR K T hid B H σ ρ ∧ ResS K T W hid B σ ρ H (m ρ) D
abbrev XS (X : Cx) (T : VT) (W : WX) (st : Stmt) (m : MS) : Prop := PS X st (rdS X.K T W m)
abbrev XSs (X : Cx) (T : VT) (W : WX) (st : List Stmt) (m : MS) : Prop := PSs X st (rdS X.K T W m)
section
variable {K : PySem.W.Frag} {T : VT} {W : WX} {hid : Addr → Prop} {B σ σ1 : L2.St} {ρ ρ1 : R} {H H1 : Hp} {α β : Type}
theorem ResS.step {o : Oc Fl} {D : Ends} (E : Ext hid σ ρ H σ1 ρ1 H1) (h : ResS K T W hid B σ ρ H o D) : ResS K T W hid B σ1 ρ1 H1 o D := by
  cases o with
  | ok a ρ' =>
    cases a with
    | nx => exact fun σ' H' S' E' => h σ' H' S' (E.trans E')
    | rt d => exact fun σ' H' v S' E' => h σ' H' v S' (E.trans E')
    | bk => exact fun σ' H' S' E' => h σ' H' S' (E.trans E')
    | ct => exact fun σ' H' S' E' => h σ' H' S' (E.trans E')
  | ex c ρ' => exact fun σ' H' S' E' => h σ' H' S' (E.trans E')
  | no => exact h
/-- an expression's outcome, then a statement's -/
theorem ResS.bindE {o : Oc α} {g : α → R → Oc Fl} {D : Ends} (h : ResS K T W hid B σ ρ H (o.bind g) D) :
    Res K T W hid B σ ρ H o fun a ρ1 H1 => ResS K T W hid B σ ρ1 H1 (g a ρ1) D := by
  cases o with
  | ok a ρ' => exact fun H' S' E' => ResS.step E' h
  | ex c ρ' => exact fun H' S' E' => h σ H' S' E'
  | no => exact h
/-- a statement's outcome, then another's -/
theorem ResS.bindS {o : Oc Fl} {g : Fl → R → Oc Fl} {D D' : Ends} (h : ResS K T W hid B σ ρ H (o.bind g) D)
    (hn : ∀ ρ1 σ1 H1, SR K T hid B H1 σ1 ρ1 → Ext hid σ ρ H σ1 ρ1 H1 → ResS K T W hid B σ1 ρ1 H1 (g .nx ρ1) D → D'.nx σ1 H1)
    (hr : ∀ d ρ1 σ1 H1 v, SR K T hid B H1 σ1 ρ1 → Ext hid σ ρ H σ1 ρ1 H1 → Rp K (Fz hid σ1 ρ1 H1) v d → ResS K T W hid B σ1 ρ1 H1 (g (.rt d) ρ1) D → D'.rt v H1)
    (hb : ∀ ρ1 σ1 H1, SR K T hid B H1 σ1 ρ1 → Ext hid σ ρ H σ1 ρ1 H1 → ResS K T W hid B σ1 ρ1 H1 (g .bk ρ1) D → D'.bk σ1 H1)
    (hc : ∀ ρ1 σ1 H1, SR K T hid B H1 σ1 ρ1 → Ext hid σ ρ H σ1 ρ1 H1 → ResS K T W hid B σ1 ρ1 H1 (g .ct ρ1) D → D'.ct σ1 H1) : ResS K T W hid B σ ρ H o D' := by
  cases o with
  | ok a ρ' =>
    cases a with
    | nx => exact fun σ' H' S' E' => hn ρ' σ' H' S' E' (ResS.step E' h)
    | rt d => exact fun σ' H' v S' E' r => hr d ρ' σ' H' v S' E' r (ResS.step E' h)
    | bk => exact fun σ' H' S' E' => hb ρ' σ' H' S' E' (ResS.step E' h)
    | ct => exact fun σ' H' S' E' => hc ρ' σ' H' S' E' (ResS.step E' h)
  | ex c ρ' => exact h
  | no => exact h
theorem ResS.here {D : Ends} (S : SR K T hid B H σ ρ) (h : ResS K T W hid B σ ρ H (.ok .nx ρ) D) : D.nx σ H := h σ H S Ext.refl
end

/-! ### mirrors of statements -/
def mNx : MS := fun ρ => .ok .nx ρ
def mSeq (m n : MS) : MS := fun ρ => (m ρ).bind fun fl ρ1 => match fl with
  | .nx => n ρ1
  | fl => .ok fl ρ1
def mRet (f : ME) : MS := fun ρ => (f ρ).bind fun d ρ1 => .ok (.rt d) ρ1
def mRetN : MS := fun ρ => .ok (.rt .none) ρ
def mDrop (f : ME) : MS := fun ρ => (f ρ).bind fun _ ρ1 => .ok .nx ρ1
def mBreak : MS := fun ρ => .ok .bk ρ
def mCont : MS := fun ρ => .ok .ct ρ
def mIfS (c : MT) (m n : MS) : MS := fun ρ => (c ρ).bind fun b ρ1 => if b = true then m ρ1 else n ρ1
def mSet (i : Nat) (f : ME) : MS := fun ρ => (f ρ).bind fun d ρ1 => .ok .nx (ρ1.set i (.val d))
def mSetO (i : Nat) (f : ML) : MS := fun ρ => (f ρ).bind fun ds ρ1 => if i < ρ1.length then .ok .nx (ρ1.set i (.own ds)) else .no
def mSet2 (i j : Nat) (f g : ME) : MS := fun ρ => (f ρ).bind fun d ρ1 => (g ρ1).bind fun e ρ2 => .ok .nx ((ρ2.set i (.val d)).set j (.val e))
def mRaise (c : Nat) : MS := fun ρ => .ex c ρ
abbrev MG := PyData → R → Option R
def gNm (i : Nat) : MG := fun d ρ => some (ρ.set i (.val d))
def gSeq : List MG → List PyData → R → Option R
  | [], [], ρ => some ρ
  | g :: gs, d :: ds, ρ => (g d ρ).bind (gSeq gs ds)
  | _, _, _ => none
def gTp (gs : List MG) : MG := fun d ρ => match d with
  | .tuple ds => gSeq gs ds ρ
  | _ => none
def mAsg (g : MG) (f : ME) : MS := fun ρ => (f ρ).bind fun d ρ1 => Oc.opt (g d ρ1) ρ1 |>.bind fun ρ2 _ => .ok .nx ρ2

section
variable {K : PySem.W.Frag} {T : VT} {hid : Addr → Prop} {B σ σ' : L2.St} {ρ ρ' : R} {H : Hp}
/-- a new list goes into a slot, and stays its own -/
theorem SR.putOwn (S : SR K T hid B H σ ρ) {i : Nat} {a : Addr} {xs : List V} {ds : List PyData} (hi : i < ρ.length) (ha : H a = none) (hr : RpAll K (Fz hid σ ρ H) xs ds) :
    SR K T hid B (L2.upd H a (.lst xs)) (σ.set i (some (.ref a))) (ρ.set i (.own ds)) ∧ Ext hid σ ρ H (σ.set i (some (.ref a))) (ρ.set i (.own ds)) (L2.upd H a (.lst xs)) := by
  have iσ : i < σ.length := by rw [S.len]; exact hi
  have cases' : ∀ j b, ownAt (σ.set i (some (.ref a))) (ρ.set i (.own ds)) j b → (j = i ∧ b = a) ∨ (j ≠ i ∧ ownAt σ ρ j b) := fun j b h => by
    obtain ⟨h1, es, h2⟩ := h
    by_cases c : j = i
    · subst c
      rw [List.getElem?_set, if_pos rfl, if_pos iσ] at h1
      cases h1
      exact .inl ⟨rfl, rfl⟩
    · have c' : i ≠ j := fun z => c z.symm
      rw [List.getElem?_set_ne c'] at h1 h2
      exact .inr ⟨c, h1, es, h2⟩
  have nO : ∀ b, Oa hid σ ρ b → b ≠ a := fun b h z => by
    obtain ⟨o, e⟩ := S.dom b h
    rw [z, ha] at e
    cases e
  have sm : Same (Fz hid σ ρ H) (Fz hid (σ.set i (some (.ref a))) (ρ.set i (.own ds)) (L2.upd H a (.lst xs))) := fun b o e => by
    obtain ⟨n, e⟩ := fz_some e
    have nb : b ≠ a := ne_of_none e ha
    have no : ¬ Oa hid (σ.set i (some (.ref a))) (ρ.set i (.own ds)) b := fun z => by
      rcases z with z | ⟨j, z⟩
      · exact n (.inl z)
      · rcases cases' j b z with ⟨_, z⟩ | ⟨_, z⟩
        · exact nb z
        · exact n (.inr ⟨j, z⟩)
    exact (fz_out no).trans ((upd_ne nb).trans e)
  have sm2 : Same H (L2.upd H a (.lst xs)) := fun b o e => by rw [upd_ne (ne_of_none e ha)]; exact e
  refine ⟨⟨by simp [S.len], fun j s e => ?_, fun j k b h1 h2 => ?_, fun j b h => ?_, fun b h => ?_, fun j es e => ?_⟩, sm, fun b h => upd_ne (nO b (.inl h))⟩
  · by_cases c : i = j
    · subst c
      rw [List.getElem?_set, if_pos rfl, if_pos hi] at e
      cases e
      exact ⟨_, by rw [List.getElem?_set, if_pos rfl, if_pos iσ], .own upd_same (hr.mono sm)⟩
    · rw [List.getElem?_set_ne c] at e
      obtain ⟨o, e1, r⟩ := S.rel j s e
      exact ⟨o, by rw [List.getElem?_set_ne c]; exact e1, r.mono sm sm2⟩
  · rcases cases' j b h1 with ⟨e1, e2⟩ | ⟨e1, q1⟩
    · rcases cases' k b h2 with ⟨e3, _⟩ | ⟨_, q2⟩
      · rw [e1, e3]
      · exact absurd e2 (nO b (.inr ⟨k, q2⟩))
    · rcases cases' k b h2 with ⟨_, e2⟩ | ⟨_, q2⟩
      · exact absurd e2 (nO b (.inr ⟨j, q1⟩))
      · exact S.one j k b q1 q2
  · rcases cases' j b h with ⟨_, e2⟩ | ⟨_, q⟩
    · exact fun z => nO b (.inl z) e2
    · exact S.sep j b q
  · obtain ⟨o, e⟩ := S.hh b h
    exact ⟨o, sm2 _ _ e⟩
  · by_cases c : i = j
    · subst c
      rw [List.getElem?_set, if_pos rfl, if_pos hi] at e
      cases e
    · rw [List.getElem?_set_ne c] at e ⊢
      exact S.bor j es e
def Sl.plain : Sl → Bool
  | .own _ => false
  | .bor _ => false
  | _ => true
theorem Sl.plain_not {s : Sl} (h : s.plain = true) : ∀ ds, s ≠ .own ds ∧ s ≠ .bor ds := fun ds => by
  cases s <;> simp [Sl.plain] at h ⊢
/-- slots that are no own lists are exchanged -/
theorem SR.swap (S : SR K T hid B H σ ρ) (hl : σ'.length = ρ'.length)
    (h : ∀ (i : Nat) (s : Sl), ρ'[i]? = some s → (ρ[i]? = some s ∧ σ'[i]? = σ[i]?) ∨ (s.plain = true ∧ (∀ t, ρ[i]? = some t → t.plain = true) ∧ ∃ o, σ'[i]? = some o ∧ SlV K T (Fz hid σ ρ H) H o s))
    (hlen : ρ.length ≤ ρ'.length) : SR K T hid B H σ' ρ' ∧ Oa hid σ' ρ' = Oa hid σ ρ := by
  have hown : ∀ i a, ownAt σ' ρ' i a ↔ ownAt σ ρ i a := fun i a => by
    constructor
    · rintro ⟨h1, ds, h2⟩
      rcases h2 with h2 | h2
      · rcases h i _ h2 with ⟨q1, q2⟩ | ⟨q, _⟩
        · exact ⟨by rw [← q2]; exact h1, ds, .inl q1⟩
        · cases q
      · rcases h i _ h2 with ⟨q1, q2⟩ | ⟨q, _⟩
        · exact ⟨by rw [← q2]; exact h1, ds, .inr q1⟩
        · cases q
    · rintro ⟨h1, ds, h2⟩
      have lt : i < ρ.length := by
        rcases h2 with h2 | h2 <;> exact (List.getElem?_eq_some_iff.mp h2).1
      have e : ∃ s, ρ'[i]? = some s := ⟨_, List.getElem?_eq_getElem (Nat.lt_of_lt_of_le lt hlen)⟩
      obtain ⟨s, e⟩ := e
      rcases h i s e with ⟨q1, q2⟩ | ⟨_, q, _⟩
      · refine ⟨by rw [q2]; exact h1, ds, ?_⟩
        rcases h2 with h2 | h2
        · rw [q1] at h2
          rw [e]
          exact .inl h2
        · rw [q1] at h2
          rw [e]
          exact .inr h2
      · rcases h2 with h2 | h2
        · exact absurd (q _ h2) (by simp [Sl.plain])
        · exact absurd (q _ h2) (by simp [Sl.plain])
  have eo : Oa hid σ' ρ' = Oa hid σ ρ := by
    funext b
    exact propext (or_congr_right (exists_congr fun i => hown i b))
  refine ⟨⟨hl, fun i s e => ?_, fun i j a h1 h2 => S.one i j a ((hown i a).mp h1) ((hown j a).mp h2), fun i a z => S.sep i a ((hown i a).mp z), S.hh, fun i ds e => ?_⟩, eo⟩
  · show ∃ o, σ'[i]? = some o ∧ SlV K T (fz (Oa hid σ' ρ') H) H o s
    rw [eo]
    rcases h i s e with ⟨q1, q2⟩ | ⟨_, _, q⟩
    · obtain ⟨o, e1, r⟩ := S.rel i s q1
      exact ⟨o, q2.trans e1, r⟩
    · exact q
  · rcases h i _ e with ⟨q1, q2⟩ | ⟨q, _⟩
    · rw [q2]
      exact S.bor i ds q1
    · cases q
end

section
variable {X : Cx} {T : VT} {W : WX} {st : Stmt} {sts : List Stmt} {m n : MS} {f g : ME} {fs : ML} {a b e : Expr} {pos : Pos}
theorem snil : XSs X T W [] mNx := pss_nil.weak fun D σ H ⟨hid, B, ρ, S, q⟩ => ResS.here S q
theorem sone (h : XS X T W st m) : XSs X T W [st] m := pss_one h
theorem scons (h1 : XS X T W st m) (h2 : XSs X T W sts n) : XSs X T W (st :: sts) (mSeq m n) :=
  (pss_cons h1 h2).weak fun D σ H ⟨hid, B, ρ, S, q⟩ => ⟨hid, B, ρ, S, ResS.bindS q (fun ρ1 σ1 H1 S1 _ q1 => ⟨hid, B, ρ1, S1, q1⟩) (fun d ρ1 σ1 H1 v S1 _ r q1 => q1 σ1 H1 v S1 Ext.refl r)
    (fun ρ1 σ1 H1 S1 _ q1 => q1 σ1 H1 S1 Ext.refl) (fun ρ1 σ1 H1 S1 _ q1 => q1 σ1 H1 S1 Ext.refl)⟩
theorem spass : XS X T W (.Pass pos) mNx := ps_pass.weak fun D σ H ⟨hid, B, ρ, S, q⟩ => ResS.here S q
theorem sbreak : XS X T W (.Break pos) mBreak := ps_break.weak fun D σ H ⟨hid, B, ρ, S, q⟩ => q σ H S Ext.refl
theorem scontinue : XS X T W (.Continue pos) mCont := ps_continue.weak fun D σ H ⟨hid, B, ρ, S, q⟩ => q σ H S Ext.refl
theorem sret (h : XE X T W e f) : XS X T W (.Return (some e) pos) (mRet f) :=
  (ps_ret h).weak fun D σ H ⟨hid, B, ρ, S, q⟩ => ⟨hid, B, ρ, S, (ResS.bindE q).imp fun d ρ1 H1 S1 E1 q1 v r => q1 σ H1 v S1 Ext.refl r⟩
theorem sretN : XS X T W (.Return none pos) mRetN := ps_retN.weak fun D σ H ⟨hid, B, ρ, S, q⟩ => q σ H .non S Ext.refl .non
theorem sexpr (h : XE X T W e f) (hs : swapsWith e none pos.line X.env = pure false := by rfl) : XS X T W (.Expr e pos) (mDrop f) :=
  (ps_expr h hs).weak fun D σ H ⟨hid, B, ρ, S, q⟩ => ⟨hid, B, ρ, S, (ResS.bindE q).imp fun d ρ1 H1 S1 E1 q1 v r => q1 σ H1 S1 Ext.refl⟩
theorem sif {c : Expr} {xs ys : List Stmt} {tc : MT} (hc : XT X T W c tc) (ha : XSs X T W xs m) (hb : XSs X T W ys n) : XS X T W (.If c xs ys pos) (mIfS tc m n) :=
  (ps_if hc ha hb).weak fun D σ H ⟨hid, B, ρ, S, q⟩ => ⟨hid, B, ρ, S, (ResS.bindE q).imp fun k ρ1 H1 S1 E1 q1 => by
    cases k with
    | true => exact (if_pos rfl).mpr ⟨hid, B, ρ1, S1, q1⟩
    | false => exact (if_neg Bool.false_ne_true).mpr ⟨hid, B, ρ1, S1, q1⟩⟩
theorem sset (i : Nat) {x : Str} {pos' : Pos} (hN : X.N.Nodup) (he : XE X T W e f) (hi : X.N[i]? = some x := by rfl) (hx : Loc X.env.scope x := by first | exact Or.inl rfl | exact Or.inr rfl)
    (hs : swapsWith e (some (.Name x pos')) pos.line X.env = pure false := by rfl) (hf : X.fn x = true ∨ X.env.scope.names.lookup x = some .local := by first | exact .inl rfl | exact .inr rfl) : XS X T W (.Assign [.Name x pos'] e pos) (mSet i f) :=
  (ps_set hN hi hx he hs hf).weak fun D σ H ⟨hid, B, ρ, S, q⟩ => ⟨hid, B, ρ, S, (ResS.bindE q).imp fun d ρ1 H1 S1 E1 q1 v r => by
    obtain ⟨S2, E2⟩ := S1.put (i := i) (Sl.plain_not (s := .val d) rfl) (.val r)
    exact q1 _ _ S2 E2⟩
end

/-! ### targets -/
def rdG (K : PySem.W.Frag) (T : VT) (ts : List Nat) (g : MG) : TG := fun v σ H Q => ∃ hid B ρ d ρ', SR K T hid B H σ ρ ∧ Rp K (Fz hid σ ρ H) v d ∧ g d ρ = some ρ' ∧
  ∀ σ', SR K T hid B H σ' ρ' → Ext hid σ ρ H σ' ρ' H → σ'.length = σ.length → (∀ j : Nat, j ∉ ts → σ'[j]? = σ[j]?) → Q σ' H
def rdGs (K : PySem.W.Frag) (T : VT) (ts : List Nat) (gs : List MG) : TGs := fun vs σ H Q => ∃ hid B ρ ds ρ', SR K T hid B H σ ρ ∧ RpAll K (Fz hid σ ρ H) vs ds ∧ gSeq gs ds ρ = some ρ' ∧
  ∀ σ', SR K T hid B H σ' ρ' → Ext hid σ ρ H σ' ρ' H → σ'.length = σ.length → (∀ j : Nat, j ∉ ts → σ'[j]? = σ[j]?) → Q σ' H
abbrev XG (X : Cx) (T : VT) (e : Expr) (ts : List Nat) (g : MG) : Prop := PG X e (rdG X.K T ts g)
abbrev XGs (X : Cx) (T : VT) (es : List Expr) (ts : List Nat) (gs : List MG) : Prop := PGs X es (rdGs X.K T ts gs)
theorem _root_.L2.PGs.weak {X : Cx} {es : List Expr} {t t' : TGs} (h : PGs X es t) (w : ∀ vs σ H Q, t' vs σ H Q → t vs σ H Q) : PGs X es t' :=
  ⟨fun pins s σ H vs us Q I r q => h.run pins s σ H vs us Q I r (w vs σ H Q q)⟩
section
variable {X : Cx} {T : VT} {W : WX} {pos : Pos}
theorem gnm (i : Nat) {x : Str} (hN : X.N.Nodup) (hi : X.N[i]? = some x := by rfl) (hx : Loc X.env.scope x := by first | exact Or.inl rfl | exact Or.inr rfl)
    (hf : X.fn x = true ∨ X.env.scope.names.lookup x = some .local := by first | exact .inl rfl | exact .inr rfl) : XG X T (.Name x pos) [i] (gNm i) :=
  (pg_name hN hi hx hf).weak fun v σ H Q ⟨hid, B, ρ, d, ρ', S, r, e, q⟩ => by
    cases e
    obtain ⟨S2, E2⟩ := S.put (i := i) (Sl.plain_not (s := .val d) rfl) (.val r)
    exact q _ S2 E2 (List.length_set ..) fun j hj => List.getElem?_set_ne fun z => hj (by simp [z])
theorem gsnil : XGs X T [] [] [] := pgs_nil.weak fun vs σ H Q ⟨hid, B, ρ, ds, ρ', S, r, e, q⟩ => by
  cases r with
  | nil =>
    cases e
    exact ⟨rfl, q σ S Ext.refl rfl fun _ _ => rfl⟩
  | cons r rs => cases e
theorem gscons {e : Expr} {es : List Expr} {ts us : List Nat} {g : MG} {gs : List MG} (h1 : XG X T e ts g) (h2 : XGs X T es us gs)
    (hs : (assignEach (e :: es) X.env).map (·.2) = assign e X.env :: (assignEach es X.env).map (·.2) := by rfl) : XGs X T (e :: es) (ts ++ us) (g :: gs) :=
  (pgs_cons h1 h2 hs).weak fun vs σ H Q ⟨hid, B, ρ, ds, ρ', S, r, e, q⟩ => by
    cases r with
    | nil => cases e
    | @cons v vs d ds r rs =>
      have e' : (g d ρ).bind (gSeq gs ds) = some ρ' := e
      cases h : g d ρ with
      | none => rw [h] at e'; cases e'
      | some ρ1 =>
        rw [h] at e'
        refine ⟨_, _, rfl, hid, B, ρ, d, ρ1, S, r, h, fun σ1 S1 E1 l1 k1 => ⟨hid, B, ρ1, ds, ρ', S1, rs.mono E1.same, e', fun σ2 S2 E2 l2 k2 => q σ2 S2 (E1.trans E2) (l2.trans l1) fun j hj => ?_⟩⟩
        rw [k2 j fun z => hj (List.mem_append_right _ z), k1 j fun z => hj (List.mem_append_left _ z)]
theorem gSeq_length : ∀ {gs : List MG} {ds : List PyData} {ρ ρ' : R}, gSeq gs ds ρ = some ρ' → ds.length = gs.length
  | [], [], _, _, _ => rfl
  | g :: gs, d :: ds, ρ, ρ', h => by
    have h' : (g d ρ).bind (gSeq gs ds) = some ρ' := h
    cases e : g d ρ with
    | none => rw [e] at h'; cases h'
    | some ρ1 =>
      rw [e] at h'
      exact congrArg (· + 1) (gSeq_length h')
  | [], _ :: _, _, _, h => by cases h
  | _ :: _, [], _, _, h => by cases h
theorem gtup {es : List Expr} {k : Nat} {ts : List Nat} {gs : List MG} (hc : X.calm = true) (h : XGs X T es ts gs) (hn : (assignEach es X.env).length = gs.length := by rfl)
    (hst : (assignEach es X.env).findIdx? (·.1) = none := by rfl) : XG X T (.Tuple es k pos) ts (gTp gs) :=
  (pg_tup hc h hn hst).weak fun v σ H Q ⟨hid, B, ρ, d, ρ', S, r, e, q⟩ => by
    cases d with
    | tuple ds =>
      cases r with
      | tup h1 h2 =>
        have e : gSeq gs ds ρ = some ρ' := e
        exact ⟨_, _, rfl, seqT_same fz_le h1, by rw [h2.length]; exact gSeq_length e, hid, B, ρ, ds, ρ', S, h2, e, q⟩
    | _ => cases e
theorem sasg {tg e : Expr} {ts : List Nat} {g : MG} {f : ME} (he : XE X T W e f) (hg : XG X T tg ts g) (hs : swapsWithSole [tg] e pos.line X.env = pure false := by rfl) (hw : swappedStores [tg] e X.env = pure none := by rfl)
    (h1 : (assignEach [tg] X.env).map (·.2) = [assign tg X.env] := by rfl) : XS X T W (.Assign [tg] e pos) (mAsg g f) :=
  (ps_asg he hg hs hw h1).weak fun D σ H ⟨hid, B, ρ, S, q⟩ => ⟨hid, B, ρ, S, (ResS.bindE q).imp fun d ρ1 H1 S1 E1 q1 v r => by
    cases h : g d ρ1 with
    | none => rw [h] at q1; exact q1.elim
    | some ρ2 =>
      rw [h] at q1
      exact ⟨hid, B, ρ1, d, ρ2, S1, r, h, fun σ' S' E' _ _ => q1 σ' H1 S' E'⟩⟩
theorem spar (i j : Nat) {x y : Str} {a b : Expr} {f g : ME} {px py pt : Pos} {kt k2 pt2} (hc : X.calm = true) (hN : X.N.Nodup) (ha : XE X T W a f) (hb : XE X T W b g) (hi : X.N[i]? = some x := by rfl) (hj : X.N[j]? = some y := by rfl) (hij : i ≠ j := by decide)
    (hx : X.env.scope.names.lookup x = some .local := by rfl) (hy : X.env.scope.names.lookup y = some .local := by rfl)
    (hw : swappedStores [.Tuple [.Name x px, .Name y py] kt pt] (.Tuple [a, b] k2 pt2) X.env = pure (some [x, y]) := by rfl)
    (hs : swapsWithSole [.Tuple [.Name x px, .Name y py] kt pt] (.Tuple [a, b] k2 pt2) pos.line X.env = pure false := by rfl)
    (he1 : starEach [a, b] X.env = (false, eval a X.env) :: starEach [b] X.env := by rfl) (he2 : starEach [b] X.env = (false, eval b X.env) :: starEach [] X.env := by rfl) :
    XS X T W (.Assign [.Tuple [.Name x px, .Name y py] kt pt] (.Tuple [a, b] k2 pt2) pos) (mSet2 i j f g) :=
  (ps_par hc hN hi hj hij hx hy (pa_cons ha (pa_cons hb pa_nil he2) he1) hw hs).weak fun D σ H ⟨hid, B, ρ, S, q⟩ =>
    ⟨hid, B, ρ, S, (ResS.bindE q).imp fun d ρ1 H1 S1 E1 q1 v r => ⟨hid, B, ρ1, S1, (ResS.bindE q1).imp fun e ρ2 H2 S2 E2 q2 w r2 => ⟨v, w, rfl, by
      obtain ⟨S3, E3⟩ := S2.put (i := i) (Sl.plain_not (s := .val d) rfl) (.val (r.mono E2.same))
      obtain ⟨S4, E4⟩ := S3.put (i := j) (Sl.plain_not (s := .val e) rfl) (.val (r2.mono E3.same))
      exact q2 _ _ S4 (E3.trans E4)⟩⟩⟩
/-- name = a new list, which stays its own -/
theorem ssetO (i : Nat) {x : Str} {pos' : Pos} {e : Expr} {fs : ML} (hN : X.N.Nodup) (he : XL X T W e fs) (hi : X.N[i]? = some x := by rfl) (hx : Loc X.env.scope x := by first | exact Or.inl rfl | exact Or.inr rfl)
    (hs : swapsWith e (some (.Name x pos')) pos.line X.env = pure false := by rfl) (hf : X.fn x = true ∨ X.env.scope.names.lookup x = some .local := by first | exact .inl rfl | exact .inr rfl) : XS X T W (.Assign [.Name x pos'] e pos) (mSetO i fs) :=
  (ps_set hN hi hx he hs hf).weak fun D σ H ⟨hid, B, ρ, S, q⟩ => ⟨hid, B, ρ, S, (ResS.bindE q).imp fun ds ρ1 H1 S1 E1 q1 a xs ha r => by
    by_cases z : i < ρ1.length
    · rw [if_pos z] at q1
      obtain ⟨S2, E2⟩ := S1.putOwn z ha r
      exact q1 _ _ S2 E2
    · rw [if_neg z] at q1
      exact q1.elim⟩
end

/-! ### what is walked -/
def ItOk (K : PySem.W.Frag) (F0 P : Hp) (J : It) (ds : List PyData) : Prop :=
  Walk J ds.length (fun H => Same P H) fun i H x H' => Same H H' ∧ ∀ (O : Addr → Prop) (d : PyData), ds[i]? = some d → (∀ b, O b → ∃ o, H b = some o) → Same F0 (fz O H) → Rp K (fz O H') x d
def rdI (K : PySem.W.Frag) (T : VT) (W : WX) (f : ML) : TI := fun σ H Rk => ∃ hid B ρ, SR K T hid B H σ ρ ∧ Res K T W hid B σ ρ H (f ρ) fun ds ρ' H' => ∀ J, ItOk K (Fz hid σ ρ' H') (Fz hid σ ρ' H') J ds → Rk J H'
abbrev XI (X : Cx) (T : VT) (W : WX) (tg e : Expr) (f : ML) : Prop := PI X tg e (rdI X.K T W f)
section
variable {X : Cx} {tg l : Expr} {tl : TE} {T : VT} {W : WX}
theorem pi_any (hl : PE X l tl) : PI X tg l fun σ H Rk => tl σ H fun x H1 => (∃ a, x = .ref a ∧ (∃ xs, SqL X.K H1 a xs) ∧ Rk (Itl X.K a) H1) ∨ ∃ a, x = .ref a ∧ (∃ xs, SqT X.K H1 a xs) ∧ Rk (Itt X.K a) H1 := by
  constructor
  intro pins s σ H Rk I h
  refine thn (hl.run pins s σ H _ I h) fun v s1 ⟨x, H1, I1, r1, q1⟩ => ?_
  rcases q1 with ⟨a, rfl, ⟨xs, hq⟩, q⟩ | ⟨a, rfl, ⟨xs, hq⟩, q⟩
  · cases r1
    obtain ⟨its, rv, p, hz⟩ := I1.list hq
    refine wpAny_pyIter_list p.isList ⟨s1.heap.objs.size, [s1.heap.objs.size], _, _, H1, rfl, I1.kept (t' := s1.toks) fun b o e => Heap.get?_push_of_some _ e, turn_list a _, ⟨_, Heap.get?_push_size _ rfl, rfl, rfl⟩, fun b hb => ?_, q⟩
    rw [List.mem_singleton.mp hb]
    exact I1.fpOk (Nat.le_refl _) I1.fresh
  · cases r1
    obtain ⟨its, rv, p, hz⟩ := I1.tuple hq
    refine wpAny_pyIter_tuple (show s1.heap.IsTuple a its.toArray from p) ⟨s1.heap.objs.size, [s1.heap.objs.size], _, _, H1, rfl, I1.kept (t' := s1.toks) fun b o e => Heap.get?_push_of_some _ e, turn_tuple a _, ⟨_, Heap.get?_push_size _ rfl, rfl, rfl⟩, fun b hb => ?_, q⟩
    rw [List.mem_singleton.mp hb]
    exact I1.fpOk (Nat.le_refl _) I1.fresh
def seqD : PyData → Option (List PyData)
  | .list ds => some ds
  | .tuple ds => some ds
  | _ => none
def mIt (f : ME) : ML := fun ρ => (f ρ).bind fun d ρ1 => Oc.opt (seqD d) ρ1
theorem itl_ok {K : PySem.W.Frag} {F0 : Hp} {a : Addr} {xs : List V} {ds : List PyData} (h1 : F0 a = some (.lst xs)) (h2 : RpAll K F0 xs ds) : ItOk K F0 F0 (Itl K a) ds := by
  show Walk _ ds.length _ _
  rw [← h2.length]
  refine walk_list.mono (fun H e => SqL.of (e _ _ h1)) fun i H x H' hi hG ⟨e1, e2⟩ => ?_
  subst e1
  refine ⟨Same.refl _, fun O d hd hO hF => ?_⟩
  obtain ⟨v, e3, r⟩ := h2.get hd
  rw [e2] at e3
  cases e3
  exact r.mono hF
theorem itt_ok {K : PySem.W.Frag} {F0 : Hp} {a : Addr} {xs : List V} {ds : List PyData} (h1 : SqT K F0 a xs) (h2 : RpAll K F0 xs ds) : ItOk K F0 F0 (Itt K a) ds := by
  show Walk _ ds.length _ _
  rw [← h2.length]
  refine walk_tup.mono (fun H e => seqT_same e h1) fun i H x H' hi hG ⟨e1, e2⟩ => ?_
  subst e1
  refine ⟨Same.refl _, fun O d hd hO hF => ?_⟩
  obtain ⟨v, e3, r⟩ := h2.get hd
  rw [e2] at e3
  cases e3
  exact r.mono hF
theorem iany {f : ME} (h : XE X T W l f) : XI X T W tg l (mIt f) := (pi_any h).weak fun σ H Rk ⟨hid, B, ρ, S, q⟩ => ⟨hid, B, ρ, S, (Res.bind q).imp fun d ρ1 H1 S1 E1 q1 x rx => by
  obtain ⟨ds, hd, q2⟩ := Res.opt S1 q1
  have q3 := q2 H1 (Same.refl _)
  cases rx with
  | lst h1 h2 =>
    cases hd
    exact .inl ⟨_, rfl, ⟨_, SqL.of (fz_le _ _ h1)⟩, q3 _ (itl_ok h1 h2)⟩
  | tup h1 h2 =>
    cases hd
    exact .inr ⟨_, rfl, ⟨_, seqT_same fz_le h1⟩, q3 _ (itt_ok h1 h2)⟩
  | _ => cases hd⟩
/-- sign by sign -/
def signsD : PyData → Option (List PyData)
  | .str x => some (x.cps.toList.map fun c => .str ⟨#[c]⟩)
  | _ => none
def mItS (f : ME) : ML := fun ρ => (f ρ).bind fun d ρ1 => Oc.opt (signsD d) ρ1
theorem istr {f : ME} (h : XE X T W l f) : XI X T W tg l (mItS f) := (pi_str h).weak fun σ H Rk ⟨hid, B, ρ, S, q⟩ => ⟨hid, B, ρ, S, (Res.bind q).imp fun d ρ1 H1 S1 E1 q1 x rx => by
  obtain ⟨ds, hd, q2⟩ := Res.opt S1 q1
  have q3 := q2 H1 (Same.refl _)
  cases rx with
  | str z =>
    cases hd
    refine ⟨z, rfl, q3 _ ?_⟩
    show Walk _ (List.length _) _ _
    rw [List.length_map, Array.length_toList]
    refine walk_str.mono (fun _ _ => trivial) fun i H x H' hi hG ⟨e1, c, e2, e3⟩ => ?_
    subst e1 e3
    refine ⟨Same.refl _, fun O d hd hO hF => ?_⟩
    rw [List.getElem?_map, Array.getElem?_toList, e2] at hd
    cases hd
    exact .str _
  | _ => cases hd⟩
def rng1 (i : Int) : Bool := decide (i.natAbs ≤ 4611686018427387903)
theorem rng1_ok {i : Int} (h : rng1 i = true) : -(2 ^ 62) ≤ i ∧ i < 2 ^ 62 := by
  have z : i.natAbs ≤ 4611686018427387903 := of_decide_eq_true h
  constructor <;> omega
def rngD (lo : Int) (n : Nat) : List PyData := (List.range n).map fun i => .int (lo + (i : Nat))
def range1D : List PyData → Option (List PyData)
  | [.int j] => if rng1 j then some (rngD 0 j.toNat) else none
  | _ => none
def range2D : List PyData → Option (List PyData)
  | [.int i, .int j] => if rng1 i && rng1 j then some (rngD i (j - i).toNat) else none
  | _ => none
def mItA (op : List PyData → Option (List PyData)) (fs : ML) : ML := fun ρ => (fs ρ).bind fun ds ρ1 => Oc.opt (op ds) ρ1
theorem range1_of {K : PySem.W.Frag} {F : Hp} {ds es : List PyData} {xs : List V} (h : range1D ds = some es) (r : RpAll K F xs ds) : ∃ j : Int, xs = [.int j] ∧ (-(2 ^ 62) ≤ j ∧ j < 2 ^ 62) ∧ es = rngD 0 j.toNat := by
  unfold range1D at h
  split at h
  · split at h
    · rename_i j hj
      cases h
      cases r with
      | cons r1 r2 => cases r1; cases r2; exact ⟨_, rfl, rng1_ok hj, rfl⟩
    · cases h
  · cases h
theorem range2_of {K : PySem.W.Frag} {F : Hp} {ds es : List PyData} {xs : List V} (h : range2D ds = some es) (r : RpAll K F xs ds) :
    ∃ i j : Int, xs = [.int i, .int j] ∧ (-(2 ^ 62) ≤ i ∧ i < 2 ^ 62 ∧ -(2 ^ 62) ≤ j ∧ j < 2 ^ 62) ∧ es = rngD i (j - i).toNat := by
  unfold range2D at h
  split at h
  · split at h
    · rename_i i j hj
      cases h
      obtain ⟨h1, h2⟩ := (Bool.and_eq_true _ _).mp hj
      cases r with
      | cons r1 r2 =>
        cases r1
        cases r2 with
        | cons r3 r4 =>
          cases r3; cases r4
          exact ⟨_, _, rfl, ⟨(rng1_ok h1).1, (rng1_ok h1).2, rng1_ok h2⟩, rfl⟩
    · cases h
  · cases h
theorem itr_ok {K : PySem.W.Frag} {F0 : Hp} (lo : Int) (n : Nat) : ItOk K F0 F0 (Itr lo n) (rngD lo n) := by
  show Walk _ (List.length _) _ _
  have e : (rngD lo n).length = n := by simp [rngD]
  rw [e]
  refine walk_range.mono (fun _ _ => trivial) fun i H x H' hi hG ⟨e1, e2⟩ => ?_
  subst e1 e2
  refine ⟨Same.refl _, fun O d hd hO hF => ?_⟩
  unfold rngD at hd
  rw [List.getElem?_map, List.getElem?_range hi] at hd
  cases hd
  exact .int _
variable {a b : Expr} {fs : ML} {p pos : Pos}
theorem irng1 (hg : Gl X "range") (hm : X.mg "range" = none) (ha : XD X T W [a] fs) (hs : starEach [a] X.env = [(false, eval a X.env)] := by rfl) : XI X T W tg (.Call (.Name "range" p) [a] [] pos) (mItA range1D fs) :=
  (pi_range1 hg hm ha hs).weak fun σ H Rk ⟨hid, B, ρ, S, q⟩ => ⟨hid, B, ρ, S, (Res.bind q).imp fun ds ρ1 H1 S1 E1 q1 xs rxs => by
    obtain ⟨es, hd, q2⟩ := Res.opt S1 q1
    obtain ⟨j, rfl, hj, rfl⟩ := range1_of hd rxs
    exact ⟨_, rfl, hj.1, hj.2, q2 H1 (Same.refl _) _ (itr_ok 0 _)⟩⟩
theorem irng2 (hg : Gl X "range") (hm : X.mg "range" = none) (ha : XD X T W [a, b] fs) (hs : starEach [a, b] X.env = [(false, eval a X.env), (false, eval b X.env)] := by rfl) (hs2 : starEach [b] X.env = [(false, eval b X.env)] := by rfl) :
    XI X T W tg (.Call (.Name "range" p) [a, b] [] pos) (mItA range2D fs) :=
  (pi_range2 hg hm ha hs hs2).weak fun σ H Rk ⟨hid, B, ρ, S, q⟩ => ⟨hid, B, ρ, S, (Res.bind q).imp fun ds ρ1 H1 S1 E1 q1 xs rxs => by
    obtain ⟨es, hd, q2⟩ := Res.opt S1 q1
    obtain ⟨i, j, rfl, hj, rfl⟩ := range2_of hd rxs
    exact ⟨_, _, rfl, hj, q2 H1 (Same.refl _) _ (itr_ok i _)⟩⟩
end

/-! ### loops -/
def loopS (g : MG) (m : MS) : List PyData → MS
  | [], ρ => .ok .nx ρ
  | d :: ds, ρ => match g d ρ with
    | none => .no
    | some ρ1 => (m ρ1).bind fun fl ρ2 => match fl with
      | .nx => loopS g m ds ρ2
      | .ct => loopS g m ds ρ2
      | .bk => .ok .nx ρ2
      | .rt d => .ok (.rt d) ρ2
def mFor (fs : ML) (g : MG) (m : MS) : MS := fun ρ => (fs ρ).bind fun ds ρ1 => loopS g m ds ρ1
def whileS (c : MT) (m : MS) : Nat → MS
  | 0, _ => .no
  | n + 1, ρ => (c ρ).bind fun b ρ1 => if b = true then (m ρ1).bind fun fl ρ2 => match fl with
      | .nx => whileS c m n ρ2
      | .ct => whileS c m n ρ2
      | .bk => .ok .nx ρ2
      | .rt d => .ok (.rt d) ρ2
    else .ok .nx ρ1
open Classical in
noncomputable def mWhile (c : MT) (m : MS) : MS := fun ρ => if h : ∃ n, whileS c m n ρ ≠ .no then whileS c m (Classical.choose h) ρ else .no
section
variable {X : Cx} {T : VT} {W : WX} {pos : Pos}
theorem sfor {tg iter : Expr} {body : List Stmt} {ts : List Nat} {fs : ML} {g : MG} {m : MS} (hp : PassesOwn (model X.prog X.w) X.A X.env X.xe) (hc : X.calm = true) (hi : XI X T W tg iter fs) (hg : XG X T tg ts g) (hb : XSs X T W body m)
    (hs : ∀ x, foldedSetIterable iter X.env x = pure x := by intro _; rfl) : XS X T W (.For tg iter body [] pos) (mFor fs g m) :=
  (ps_for hp hc hi hg hb hs).weak fun D σ H ⟨hid, B, ρ, S, q⟩ => ⟨hid, B, ρ, S, (ResS.bindE q).imp fun ds ρ1 H1 S1 E1 q1 J hJ => by
    refine for_it hJ (fun i σ' H' => ∃ ρ', SR X.K T hid B H' σ' ρ' ∧ Ext hid σ ρ1 H1 σ' ρ' H' ∧ ResS X.K T W hid B σ' ρ' H' (loopS g m (ds.drop i) ρ') D) ⟨ρ1, S1, Ext.refl, q1⟩ (fun i σ' H' _ ⟨ρ', _, E', _⟩ => E'.same.trans fz_le) ?_ ?_
    · rintro i x σ' H' H2 hi ⟨ρ', S', E', q'⟩ ⟨sm, hy⟩
      have hd : ds[i]? = some ds[i] := List.getElem?_eq_getElem hi
      have rx := hy (Oa hid σ' ρ') _ hd S'.dom E'.same
      rw [List.drop_eq_getElem_cons hi] at q'
      have q'' : ResS X.K T W hid B σ' ρ' H' (match g ds[i] ρ' with
        | none => .no
        | some ρ1 => (m ρ1).bind fun fl ρ2 => match fl with
          | .nx => loopS g m (ds.drop (i + 1)) ρ2
          | .ct => loopS g m (ds.drop (i + 1)) ρ2
          | .bk => .ok .nx ρ2
          | .rt d => .ok (.rt d) ρ2) D := q'
      cases hgd : g ds[i] ρ' with
      | none => rw [hgd] at q''; exact q''.elim
      | some ρ2 =>
        rw [hgd] at q''
        have S2 := S'.grow sm
        have E2 := S'.ext sm
        refine ⟨hid, B, ρ', _, ρ2, S2, rx, hgd, fun σ2 S3 E3 _ _ => ⟨hid, B, ρ2, S3, ?_⟩⟩
        have E4 := (E'.trans E2).trans E3
        refine ResS.bindS (ResS.step (E2.trans E3) q'') (fun ρ4 σ4 H4 S4 E5 q4 => ?_) (fun d ρ4 σ4 H4 v S4 E5 r q4 => ?_) (fun ρ4 σ4 H4 S4 E5 q4 => ?_) (fun ρ4 σ4 H4 S4 E5 q4 => ?_)
        · exact ⟨ρ4, S4, E4.trans E5, q4⟩
        · exact q4 σ4 H4 v S4 Ext.refl r
        · exact ResS.here S4 q4
        · exact ⟨ρ4, S4, E4.trans E5, q4⟩
    · rintro σ' H' ⟨ρ', S', E', q'⟩
      rw [List.drop_length] at q'
      exact ResS.here S' q'⟩
theorem swhile {c : Expr} {body : List Stmt} {tc : MT} {m : MS} (hp : PassesOwn (model X.prog X.w) X.A X.env X.xe) (hc : XT X T W c tc) (hb : XSs X T W body m) : XS X T W (.While c body [] pos) (mWhile tc m) :=
  (ps_while hp hc hb).weak fun D σ H ⟨hid, B, ρ, S, q⟩ => by
    unfold mWhile at q
    split at q
    · rename_i h
      refine ⟨fun n σ' H' => ∃ ρ', SR X.K T hid B H' σ' ρ' ∧ ResS X.K T W hid B σ' ρ' H' (whileS tc m n ρ') D, ⟨_, ρ, S, q⟩, ?_⟩
      rintro n σ' H' ⟨ρ', S', q'⟩
      cases n with
      | zero => exact q'.elim
      | succ n =>
        refine ⟨hid, B, ρ', S', (ResS.bindE q').imp fun b ρ1 H1 S1 E1 q1 => ?_⟩
        cases b with
        | false => exact (if_neg Bool.false_ne_true).mpr (ResS.here S1 q1)
        | true =>
          refine (if_pos rfl).mpr ⟨fun σ2 H2 => ∃ ρ2, SR X.K T hid B H2 σ2 ρ2 ∧ ResS X.K T W hid B σ2 ρ2 H2 (whileS tc m n ρ2) D, fun σ2 H2 w => ⟨n, Nat.lt_succ_self n, w⟩, hid, B, ρ1, S1, ?_⟩
          exact ResS.bindS q1 (fun ρ4 σ4 H4 S4 E5 q4 => ⟨ρ4, S4, q4⟩) (fun d ρ4 σ4 H4 v S4 E5 r q4 => q4 σ4 H4 v S4 Ext.refl r) (fun ρ4 σ4 H4 S4 E5 q4 => ResS.here S4 q4) (fun ρ4 σ4 H4 S4 E5 q4 => ⟨ρ4, S4, q4⟩)
    · exact q.elim
end
/-- a while's outcome by any number of turns that is enough -/
theorem whileS_mono {c : MT} {m : MS} : ∀ {n k : Nat} {ρ : R}, n ≤ k → whileS c m n ρ ≠ .no → whileS c m k ρ = whileS c m n ρ
  | 0, _, _, _, h => absurd rfl h
  | n + 1, 0, _, hk, _ => absurd hk (by omega)
  | n + 1, k + 1, ρ, hk, h => by
    have h' : (c ρ).bind (fun b ρ1 => if b = true then (m ρ1).bind fun fl ρ2 => match fl with
      | .nx => whileS c m n ρ2
      | .ct => whileS c m n ρ2
      | .bk => .ok .nx ρ2
      | .rt d => .ok (.rt d) ρ2
    else .ok .nx ρ1) ≠ .no := h
    show (c ρ).bind (fun b ρ1 => if b = true then (m ρ1).bind fun fl ρ2 => match fl with
      | .nx => whileS c m k ρ2
      | .ct => whileS c m k ρ2
      | .bk => .ok .nx ρ2
      | .rt d => .ok (.rt d) ρ2
    else .ok .nx ρ1) = (c ρ).bind (fun b ρ1 => if b = true then (m ρ1).bind fun fl ρ2 => match fl with
      | .nx => whileS c m n ρ2
      | .ct => whileS c m n ρ2
      | .bk => .ok .nx ρ2
      | .rt d => .ok (.rt d) ρ2
    else .ok .nx ρ1)
    cases hc : c ρ with
    | no => rfl
    | ex _ _ => rfl
    | ok b ρ1 =>
      rw [hc] at h'
      simp only [Oc.bind] at h' ⊢
      cases b with
      | false => rfl
      | true =>
        simp only [if_true] at h' ⊢
        cases hm : m ρ1 with
        | no => rfl
        | ex _ _ => rfl
        | ok fl ρ2 =>
          rw [hm] at h'
          simp only at h' ⊢
          cases fl with
          | nx => exact whileS_mono (by omega) h'
          | ct => exact whileS_mono (by omega) h'
          | bk => rfl
          | rt d => rfl
theorem mWhile_of {c : MT} {m : MS} {n : Nat} {ρ : R} (h : whileS c m n ρ ≠ .no) : mWhile c m ρ = whileS c m n ρ := by
  unfold mWhile
  have e : ∃ n, whileS c m n ρ ≠ .no := ⟨n, h⟩
  rw [dif_pos e]
  have h2 := Classical.choose_spec e
  rcases Nat.le_total n (Classical.choose e) with l | l
  · exact whileS_mono l h
  · exact (whileS_mono l h2).symm
end VL

set_option Elab.async false
set_option linter.all false
set_option maxRecDepth 100000
set_option maxHeartbeats 4000000
/-! V3: list comprehensions; what a def promises by its mirror; calls. -/
namespace VL
open PySem PySem.Spec PyProof.Rows L2

/-! ### list comprehensions -/
def wipeR (ρ : R) : List Nat → R
  | [] => ρ
  | v :: vs => (wipeR ρ vs).set v .un
def wipeOk (ρ : R) (vs : List Nat) : Bool := vs.all fun v => match ρ[v]? with
  | some s => s.plain
  | none => true
def restR (ρ0 ρ : R) : List Nat → R
  | [] => ρ
  | v :: vs => (restR ρ0 ρ vs).set v (ρ0.getD v .un)
def lcLoop (g : MG) (t : MT) (f : ME) (vs : List Nat) : List PyData → R → List PyData → Oc (List PyData)
  | [], ρ, acc => .ok acc ρ
  | d :: ds, ρ, acc => match g d ρ with
    | none => .no
    | some ρ1 => (t ρ1).bind fun b ρ2 => if b = true then (f ρ2).bind fun y ρ3 => if fits (acc.length + 1) && wipeOk ρ3 vs then lcLoop g t f vs ds (wipeR ρ3 vs) (acc ++ [y]) else .no
      else if wipeOk ρ2 vs then lcLoop g t f vs ds (wipeR ρ2 vs) acc else .no
def mLc (fs : ML) (g : MG) (t : MT) (f : ME) (vs : List Nat) : ML := fun ρ => (fs ρ).bind fun ds ρ1 =>
  if wipeOk ρ1 vs then (lcLoop g t f vs ds (wipeR ρ1 vs) []).noex.bind fun ys ρ2 => .ok ys (restR ρ1 ρ2 vs) else .no
abbrev W0 : WX := fun _ _ _ _ => False
theorem wipeR_length (ρ : R) : ∀ vs, (wipeR ρ vs).length = ρ.length
  | [] => rfl
  | v :: vs => by unfold wipeR; rw [List.length_set, wipeR_length ρ vs]
theorem restR_length (ρ0 ρ : R) : ∀ vs, (restR ρ0 ρ vs).length = ρ.length
  | [] => rfl
  | v :: vs => by unfold restR; rw [List.length_set, restR_length ρ0 ρ vs]
theorem wipeR_out (ρ : R) {i : Nat} : ∀ {vs : List Nat}, i ∉ vs → (wipeR ρ vs)[i]? = ρ[i]?
  | [], _ => rfl
  | v :: vs, h => by
    unfold wipeR
    rw [List.getElem?_set_ne fun z => h (by simp [z])]
    exact wipeR_out ρ fun z => h (List.mem_cons_of_mem _ z)
theorem wipeR_in (ρ : R) {i : Nat} : ∀ {vs : List Nat}, i ∈ vs → i < ρ.length → (wipeR ρ vs)[i]? = some .un
  | v :: vs, h, l => by
    unfold wipeR
    by_cases c : v = i
    · subst c
      rw [List.getElem?_set, if_pos rfl, if_pos (by rw [wipeR_length]; exact l)]
    · rw [List.getElem?_set_ne c]
      exact wipeR_in ρ ((List.mem_cons.mp h).resolve_left fun z => c z.symm) l
theorem restR_out (ρ0 ρ : R) {i : Nat} : ∀ {vs : List Nat}, i ∉ vs → (restR ρ0 ρ vs)[i]? = ρ[i]?
  | [], _ => rfl
  | v :: vs, h => by
    unfold restR
    rw [List.getElem?_set_ne fun z => h (by simp [z])]
    exact restR_out ρ0 ρ fun z => h (List.mem_cons_of_mem _ z)
theorem restR_in (ρ0 ρ : R) {i : Nat} : ∀ {vs : List Nat}, i ∈ vs → i < ρ.length → (restR ρ0 ρ vs)[i]? = some (ρ0.getD i .un)
  | v :: vs, h, l => by
    unfold restR
    by_cases c : v = i
    · subst c
      rw [List.getElem?_set, if_pos rfl, if_pos (by rw [restR_length]; exact l)]
    · rw [List.getElem?_set_ne c]
      exact restR_in ρ0 ρ ((List.mem_cons.mp h).resolve_left fun z => c z.symm) l
theorem wipe_out' {σ : L2.St} {i : Nat} : ∀ {vs : List Nat}, i ∉ vs → (wipe σ vs)[i]? = σ[i]?
  | [], _ => rfl
  | v :: vs, h => by
    unfold wipe
    rw [List.getElem?_set_ne fun z => h (by simp [z])]
    exact wipe_out' fun z => h (List.mem_cons_of_mem _ z)
theorem wipe_in {σ : L2.St} {i : Nat} : ∀ {vs : List Nat}, i ∈ vs → i < σ.length → (wipe σ vs)[i]? = some none
  | v :: vs, h, l => by
    unfold wipe
    by_cases c : v = i
    · subst c
      rw [List.getElem?_set, if_pos rfl, if_pos (by rw [wipe_length]; exact l)]
    · rw [List.getElem?_set_ne c]
      exact wipe_in ((List.mem_cons.mp h).resolve_left fun z => c z.symm) l
theorem wipe_eq {σ σ2 : L2.St} {vs : List Nat} (hl : σ2.length = σ.length) (h : ∀ j : Nat, j ∉ vs → σ2[j]? = σ[j]?) : wipe σ2 vs = wipe σ vs := by
  refine List.ext_getElem? fun i => ?_
  by_cases c : i ∈ vs
  · by_cases l : i < σ.length
    · rw [wipe_in c l, wipe_in c (by rw [hl]; exact l)]
    · rw [List.getElem?_eq_none (by rw [wipe_length]; omega), List.getElem?_eq_none (by rw [wipe_length]; omega)]
  · rw [wipe_out' c, wipe_out' c, h i c]
theorem wipe_wipe (σ : L2.St) (vs : List Nat) : wipe (wipe σ vs) vs = wipe σ vs := wipe_eq (wipe_length _ _) fun j h => wipe_out' h
section
variable {K : PySem.W.Frag} {T : VT} {hid : Addr → Prop} {B σ : L2.St} {ρ ρ0 : R} {H : Hp} {D : Addr} {xs : List V}
/-- the slots of a block's own names are forgotten -/
theorem SR.wiped (S : SR K T hid B H σ ρ) {vs : List Nat} (h : ∀ (v : Nat) (s : Sl), v ∈ vs → ρ[v]? = some s → s.plain = true) : SR K T hid B H (wipe σ vs) (wipeR ρ vs) ∧ Oa hid (wipe σ vs) (wipeR ρ vs) = Oa hid σ ρ := by
  refine S.swap (by rw [wipe_length, wipeR_length]; exact S.len) (fun i s e => ?_) (by rw [wipeR_length]; exact Nat.le_refl _)
  have lt : i < ρ.length := by
    have q := (List.getElem?_eq_some_iff.mp e).1
    rw [wipeR_length] at q
    exact q
  by_cases c : i ∈ vs
  · rw [wipeR_in ρ c lt] at e
    cases e
    exact .inr ⟨rfl, fun t ht => h i t c ht, _, wipe_in c (by rw [S.len]; exact lt), .un _⟩
  · rw [wipeR_out ρ c] at e
    exact .inl ⟨e, wipe_out' c⟩
/-- a list that is being made is out of sight -/
def hidD (hid : Addr → Prop) (D : Addr) : Addr → Prop := fun b => hid b ∨ b = D
theorem Oa_hidD : Oa (hidD hid D) σ ρ = fun b => Oa hid σ ρ b ∨ b = D := by
  funext b
  refine propext ⟨fun h => ?_, fun h => ?_⟩
  · rcases h with (h | h) | h
    · exact .inl (.inl h)
    · exact .inr h
    · exact .inl (.inr h)
  · rcases h with (h | h) | h
    · exact .inl (.inl h)
    · exact .inr h
    · exact .inl (.inr h)
theorem Fz_hidD {o : HO} (hD : H D = none) : Fz (hidD hid D) σ ρ (L2.upd H D o) = Fz hid σ ρ H := by
  show fz _ _ = fz _ _
  rw [Oa_hidD]
  funext b
  by_cases c : b = D
  · subst c
    rw [fz_in (.inr rfl)]
    by_cases q : Oa hid σ ρ b
    · rw [fz_in q]
    · rw [fz_out q, hD]
  · by_cases q : Oa hid σ ρ b
    · rw [fz_in q, fz_in (.inl q)]
    · rw [fz_out q, fz_out fun z => z.elim q c, upd_ne c]
theorem SR.hide (S : SR K T hid B H σ ρ) {o : HO} (hD : H D = none) : SR K T (hidD hid D) B (L2.upd H D o) σ ρ := by
  have nO : ∀ b, Oa hid σ ρ b → b ≠ D := fun b h z => by
    obtain ⟨u, e⟩ := S.dom b h
    rw [z, hD] at e
    cases e
  have sm : Same H (L2.upd H D o) := fun b u e => by rw [upd_ne (ne_of_none e hD)]; exact e
  refine ⟨S.len, fun i s e => ?_, S.one, fun i a h z => ?_, fun b h => ?_, S.bor⟩
  · obtain ⟨u, e1, r⟩ := S.rel i s e
    refine ⟨u, e1, ?_⟩
    rw [Fz_hidD hD]
    exact r.mono (Same.refl _) sm
  · rcases z with z | z
    · exact S.sep i a h z
    · exact nO a (.inr ⟨i, h⟩) z
  · rcases h with h | h
    · obtain ⟨u, e⟩ := S.hh b h
      exact ⟨u, sm _ _ e⟩
    · subst h
      exact ⟨o, upd_same⟩
open Classical in
noncomputable def cut (H : Hp) (D : Addr) : Hp := fun b => if b = D then none else H b
theorem cut_at : cut H D D = none := by unfold cut; rw [if_pos rfl]
theorem cut_ne {b : Addr} (h : b ≠ D) : cut H D b = H b := by unfold cut; rw [if_neg h]
theorem upd_cut {o : HO} : L2.upd (cut H D) D o = L2.upd H D o := by
  funext b
  by_cases c : b = D
  · subst c; rw [upd_same, upd_same]
  · rw [upd_ne c, upd_ne c, cut_ne c]
theorem upd_self {o : HO} (h : H D = some o) : L2.upd H D o = H := by
  funext b
  by_cases c : b = D
  · subst c; rw [upd_same, h]
  · rw [upd_ne c]
theorem Fz_cut {o : HO} (hD : H D = some o) : Fz (hidD hid D) σ ρ H = Fz hid σ ρ (cut H D) := by
  have e : Fz (hidD hid D) σ ρ (L2.upd (cut H D) D o) = Fz hid σ ρ (cut H D) := Fz_hidD cut_at
  rw [upd_cut, upd_self hD] at e
  exact e
theorem SR.unhide (S : SR K T (hidD hid D) B H σ ρ) (hn : ¬ hid D) : SR K T hid B (cut H D) σ ρ := by
  obtain ⟨o, hD⟩ := S.hh D (.inr rfl)
  refine ⟨S.len, fun i s e => ?_, S.one, fun i a h z => S.sep i a h (.inl z), fun b h => ?_, S.bor⟩
  · obtain ⟨u, e1, r⟩ := S.rel i s e
    refine ⟨u, e1, ?_⟩
    rw [← Fz_cut hD]
    cases r with
    | un => exact .un _
    | val r => exact .val r
    | scr r => exact .scr r
    | fn n => exact .fn n
    | own h1 h2 =>
      have n : _ ≠ D := fun z => S.sep i _ ⟨e1, _, .inl e⟩ (.inr z)
      exact .own (by rw [cut_ne n]; exact h1) h2
    | bor h1 h2 =>
      have n : _ ≠ D := fun z => S.sep i _ ⟨e1, _, .inr e⟩ (.inr z)
      exact .bor (by rw [cut_ne n]; exact h1) h2
  · obtain ⟨u, e⟩ := S.hh b (.inl h)
    exact ⟨u, (cut_ne (show b ≠ D from fun z => hn (z ▸ h))).trans e⟩
end
section
variable {X : Cx} {T : VT} {W : WX} {pos : Pos}
theorem llc {tg iter elt : Expr} {ifs : List Expr} {scope : Scope} {ts : List Nat} {fs : ML} {g : MG} {t : MT} {f : ME} (own : List (Str × Nat)) (hc : X.calm = true) (hN : X.N.Nodup) (hi : XI X T W tg iter fs) (ok : BlkOk X.N X.env.scope scope own)
    (hg : ∀ (s : Shared) (H : Hp) (C : Addr) (cl : List (Str × Addr)) (fp : List Addr), XG (X.blk s H scope (compEnvC scope cl C X.env) fp) T tg ts g)
    (ht : ∀ (s : Shared) (H : Hp) (C : Addr) (cl : List (Str × Addr)) (fp : List Addr), PTs (X.blk s H scope (compEnvC scope cl C X.env) fp) ifs (rdT X.K T W0 t))
    (he : ∀ (s : Shared) (H : Hp) (C : Addr) (cl : List (Str × Addr)) (fp : List Addr), XE (X.blk s H scope (compEnvC scope cl C X.env) fp) T W0 elt f) (hts : ∀ v ∈ ts, v ∈ own.map (·.2)) (hs : ∀ x, foldedSetIterable iter X.env x = pure x := by intro _; rfl) :
    XL X T W (.ListComp elt [⟨tg, iter, ifs, 0⟩] scope pos) (mLc fs g t f (own.map (·.2))) := by
  refine (pe_lc (g := rdG X.K T ts g) (tt := rdT X.K T W0 t) (te := rdE X.K T W0 f) hc hN hi ok hg ht he hs).weak fun σ H Q ⟨hid, B, ρ, S, q⟩ => ⟨hid, B, ρ, S, (Res.bind q).imp fun ds ρ1 H1 S1 E1 q1 J hJ D hD => ?_⟩
  exact llc_core (own.map (·.2)) hts S1 q1 hJ (fun b o e => .inl e) hD
where
  llc_core {K : PySem.W.Frag} {T : VT} {W : WX} {hid : Addr → Prop} {B σ : L2.St} {ρ1 : R} {H1 : Hp} {Q : VK} {ts : List Nat} {g : MG} {t : MT} {f : ME} {ds : List PyData} {J : It} {D : Addr} {P : Hp} (vs : List Nat) (hts : ∀ v ∈ ts, v ∈ vs) (S1 : SR K T hid B H1 σ ρ1)
      (q1 : Res K T W hid B σ ρ1 H1 (if wipeOk ρ1 vs then (lcLoop g t f vs ds (wipeR ρ1 vs) []).noex.bind fun ys ρ2 => .ok ys (restR ρ1 ρ2 vs) else .no) fun ds ρ' H' => ∀ a xs, H' a = none → RpAll K (Fz hid σ ρ' H') xs ds → Q (.ref a) (L2.upd H' a (.lst xs)))
      (hJ : ItOk K (Fz hid σ ρ1 H1) P J ds) (hP : ∀ b o, P b = some o → (Fz hid σ ρ1 H1) b = some o ∨ (hid b ∧ H1 b = some o)) (hD : H1 D = none) : ∃ W : Nat → Nat → Hp → Prop, (∃ m, W 0 m (L2.upd H1 D (.lst []))) ∧ ∀ i m H, W i m H →
      (J.stop i H ∧ Q (.ref D) H) ∨ (J.go i H ∧ ∃ Nx : Hp → Prop, (∀ H', Nx H' → ∃ m', m' < m ∧ W (i + 1) m' H') ∧ ∀ x H', J.yld i H x H' → rdG K T ts g x (wipe σ vs) H' fun σ2 H2 => wipe σ2 vs = wipe σ vs ∧ rdT K T W0 t σ2 H2 fun b H3 =>
        if b = true then rdE K T W0 f σ2 H3 fun y H4 => ∃ acc, H4 D = some (.lst acc) ∧ acc.length < sizeLine ∧ Nx (L2.upd H4 D (.lst (acc ++ [y]))) else Nx H3) := by
    by_cases hw : wipeOk ρ1 vs = true
    · rw [if_pos hw] at q1
      have plain : ∀ (v : Nat) (s : Sl), v ∈ vs → ρ1[v]? = some s → s.plain = true := fun v s hv e => by
        have z := List.all_eq_true.mp hw v hv
        rw [e] at z
        exact z
      obtain ⟨Sw, Ow⟩ := S1.wiped plain
      have nhD : ¬ hid D := fun z => by
        obtain ⟨o, e⟩ := S1.hh D z
        rw [hD] at e
        cases e
      have Ew : Ext hid σ ρ1 H1 (wipe σ vs) (wipeR ρ1 vs) H1 := ⟨by
        show Same (fz _ _) (fz _ _)
        rw [Ow]
        exact Same.refl _, fun _ _ => rfl⟩
      -- what is wanted behind the last turn
      let Fin : Oc (List PyData) → Prop := fun o => match o with
        | .ok ys ρ2 => ∀ H2 xs, SR K T hid B H2 (wipe σ vs) ρ2 → (∀ v s, v ∈ vs → ρ2[v]? = some s → s = .un) → Ext hid σ ρ1 H1 (wipe σ vs) ρ2 H2 → H2 D = none → RpAll K (Fz hid (wipe σ vs) ρ2 H2) xs ys → Q (.ref D) (L2.upd H2 D (.lst xs))
        | _ => False
      have fin0 : Fin (lcLoop g t f vs ds (wipeR ρ1 vs) []) := by
        cases hl : lcLoop g t f vs ds (wipeR ρ1 vs) [] with
        | no => rw [hl] at q1; exact q1.elim
        | ex c ρ' => rw [hl] at q1; exact q1.elim
        | ok ys ρ2 =>
          rw [hl] at q1
          intro H2 xs S2 un2 E2 hD2 hxs
          have ln : ρ2.length = ρ1.length := by rw [← S2.len, wipe_length, S1.len]
          obtain ⟨S3, O3⟩ := S2.swap (σ' := σ) (ρ' := restR ρ1 ρ2 vs) (by rw [restR_length, ln]; exact S1.len) (fun i s e => by
            have lt : i < ρ2.length := by
              have z := (List.getElem?_eq_some_iff.mp e).1
              rw [restR_length] at z
              exact z
            by_cases c : i ∈ vs
            · rw [restR_in ρ1 ρ2 c lt] at e
              have e1 : ρ1[i]? = some ρ1[i] := List.getElem?_eq_getElem (by omega)
              have e2 : ρ1.getD i .un = ρ1[i] := by rw [List.getD_eq_getElem?_getD, e1]; rfl
              rw [e2] at e
              cases e
              obtain ⟨o, e3, r⟩ := S1.rel i _ e1
              have pl := plain i _ c e1
              refine .inr ⟨pl, fun u hu => by rw [un2 i u c hu]; rfl, o, e3, ?_⟩
              generalize ρ1[i] = s at r pl
              cases r with
              | un => exact .un _
              | val r => exact .val (r.mono E2.same)
              | own => cases pl
              | bor => cases pl
              | scr r => exact .scr (E2.same.seq r)
              | fn n => exact .fn n
            · rw [restR_out ρ1 ρ2 c] at e
              exact .inl ⟨e, (wipe_out' c).symm⟩) (by rw [restR_length]; exact Nat.le_refl _)
          have E3 : Ext hid σ ρ1 H1 σ (restR ρ1 ρ2 vs) H2 := ⟨by
            show Same _ (fz _ _)
            rw [O3]
            exact E2.same, E2.keep⟩
          refine q1 H2 S3 E3 D xs hD2 ?_
          show RpAll K (fz _ _) _ _
          rw [O3]
          exact hxs
      have bindF : ∀ {α : Type} {o : Oc α} {k : α → R → Oc (List PyData)} {B2 σ2 : L2.St} {ρ2 : R} {H2 : Hp} {h2 : Addr → Prop}, Fin (o.bind k) → Res K T W0 h2 B2 σ2 ρ2 H2 o fun a ρ3 H3 => Fin (k a ρ3) := fun {α o k B2 σ2 ρ2 H2 h2} z => by
        cases o with
        | ok a ρ' => exact fun _ _ _ => z
        | ex c ρ' => exact z.elim
        | no => exact z
      refine lc_it hJ (fun i H' => ∃ ρ' acc xs H'', H' = L2.upd H'' D (.lst xs) ∧ H'' D = none ∧ SR K T hid B H'' (wipe σ vs) ρ' ∧ (∀ v s, v ∈ vs → ρ'[v]? = some s → s = .un) ∧ Ext hid σ ρ1 H1 (wipe σ vs) ρ' H'' ∧ RpAll K (Fz hid (wipe σ vs) ρ' H'') xs acc ∧
          Fin (lcLoop g t f vs (ds.drop i) ρ' acc)) ⟨wipeR ρ1 vs, [], [], H1, rfl, hD, Sw, fun v s hv e => ?_, Ew, .nil, fin0⟩ ?_ ?_ ?_
      · have lt : v < ρ1.length := by
          have z := (List.getElem?_eq_some_iff.mp e).1
          rw [wipeR_length] at z
          exact z
        rw [wipeR_in ρ1 hv lt] at e
        exact (Option.some.inj e).symm
      · rintro i H' hi ⟨ρ', acc, xs, H'', rfl, hD'', S', un', E', r', z⟩
        intro b o e
        have e2 : H'' b = some o := by
          rcases hP b o e with h | ⟨h, h2⟩
          · exact fz_le b o (E'.same b o h)
          · rw [E'.keep b h]
            exact h2
        rw [upd_ne (ne_of_none e2 hD'')]
        exact e2
      · rintro i x H' H3 hi ⟨ρ', acc, xs, H'', rfl, hD'', S', un', E', r', z⟩ ⟨sm, hy⟩
        have hd : ds[i]? = some ds[i] := List.getElem?_eq_getElem hi
        have Sh : SR K T (hidD hid D) B (L2.upd H'' D (.lst xs)) (wipe σ vs) ρ' := S'.hide hD''
        have F1 : Same (Fz hid σ ρ1 H1) (Fz (hidD hid D) (wipe σ vs) ρ' (L2.upd H'' D (.lst xs))) := by
          rw [Fz_hidD hD'']
          exact E'.same
        have rx := hy (Oa (hidD hid D) (wipe σ vs) ρ') _ hd Sh.dom F1
        rw [List.drop_eq_getElem_cons hi] at z
        have z' : Fin (match g ds[i] ρ' with
          | none => .no
          | some ρ1 => (t ρ1).bind fun b ρ2 => if b = true then (f ρ2).bind fun y ρ3 => if fits (acc.length + 1) && wipeOk ρ3 vs then lcLoop g t f vs (ds.drop (i + 1)) (wipeR ρ3 vs) (acc ++ [y]) else .no
            else if wipeOk ρ2 vs then lcLoop g t f vs (ds.drop (i + 1)) (wipeR ρ2 vs) acc else .no) := z
        cases hgd : g ds[i] ρ' with
        | none => rw [hgd] at z'; exact z'.elim
        | some ρ2 =>
          rw [hgd] at z'
          have S2 := Sh.grow sm
          have E2 := Sh.ext sm
          refine ⟨hidD hid D, B, ρ', _, ρ2, S2, rx, hgd, fun σ2 S3 E3 len2 ag => ?_⟩
          have we : wipe σ2 vs = wipe σ vs := by
            rw [← wipe_wipe σ vs]
            exact wipe_eq len2 fun j hj => ag j fun z => hj (hts j z)
          -- a turn's end
          have next : ∀ {ρx : R} {Hx : Hp} {acc' : List PyData} {xs' : List V}, SR K T (hidD hid D) B Hx σ2 ρx → Ext (hidD hid D) σ2 ρ2 H3 σ2 ρx Hx → wipeOk ρx vs = true → RpAll K (Fz (hidD hid D) σ2 ρx Hx) xs' acc' →
              Fin (lcLoop g t f vs (ds.drop (i + 1)) (wipeR ρx vs) acc') → ∃ ρ' acc xs H'', L2.upd Hx D (.lst xs') = L2.upd H'' D (.lst xs) ∧ H'' D = none ∧ SR K T hid B H'' (wipe σ vs) ρ' ∧ (∀ v s, v ∈ vs → ρ'[v]? = some s → s = .un) ∧ Ext hid σ ρ1 H1 (wipe σ vs) ρ' H'' ∧
                RpAll K (Fz hid (wipe σ vs) ρ' H'') xs acc ∧ Fin (lcLoop g t f vs (ds.drop (i + 1)) ρ' acc) := fun {ρx Hx acc' xs'} Sx Ex hok hr hf => by
            have plain' : ∀ (v : Nat) (s : Sl), v ∈ vs → ρx[v]? = some s → s.plain = true := fun v s hv e => by
              have z := List.all_eq_true.mp hok v hv
              rw [e] at z
              exact z
            obtain ⟨o, hDx⟩ := Sx.hh D (.inr rfl)
            obtain ⟨Sy, Oy⟩ := (Sx.unhide nhD).wiped plain'
            rw [we] at Sy Oy
            have Eall := (E2.trans E3).trans Ex
            have Fe : Fz (hidD hid D) σ2 ρx Hx = Fz hid (wipe σ vs) (wipeR ρx vs) (cut Hx D) := by
              rw [Fz_cut hDx]
              show fz _ _ = fz _ _
              rw [Oy]
            refine ⟨wipeR ρx vs, acc', xs', cut Hx D, upd_cut.symm, cut_at, Sy, fun v s hv e => ?_, ⟨?_, fun b hb => ?_⟩, ?_, hf⟩
            · have lt : v < ρx.length := by
                have z := (List.getElem?_eq_some_iff.mp e).1
                rw [wipeR_length] at z
                exact z
              rw [wipeR_in ρx hv lt] at e
              exact (Option.some.inj e).symm
            · rw [← Fe]
              exact F1.trans Eall.same
            · have nb : b ≠ D := fun z => nhD (z ▸ hb)
              rw [cut_ne nb, Eall.keep b (.inl hb), upd_ne nb]
              exact E'.keep b hb
            · rw [← Fe]
              exact hr
          have atD : ∀ {ρx : R} {Hx : Hp}, Ext (hidD hid D) σ2 ρ2 H3 σ2 ρx Hx → Hx D = some (.lst xs) := fun {ρx Hx} Ex => by
            rw [((E2.trans E3).trans Ex).keep D (.inr rfl), upd_same]
          have rxs : ∀ {ρx : R} {Hx : Hp}, Ext (hidD hid D) σ2 ρ2 H3 σ2 ρx Hx → RpAll K (Fz (hidD hid D) σ2 ρx Hx) xs acc := fun {ρx Hx} Ex => by
            refine RpAll.mono ((E2.trans E3).trans Ex).same _ ?_
            rw [Fz_hidD hD'']
            exact r'
          refine ⟨we, hidD hid D, B, ρ2, S3, (bindF z').imp fun b ρ3 H4 S4 E4 z4 => ?_⟩
          cases b with
          | true =>
            refine (if_pos rfl).mpr ⟨hidD hid D, B, ρ3, S4, (bindF z4).imp fun y ρ4 H5 S5 E5 z5 yv ry => ?_⟩
            by_cases hk : (fits (acc.length + 1) && wipeOk ρ4 vs) = true
            · rw [if_pos hk] at z5
              obtain ⟨k1, k2⟩ := (Bool.and_eq_true _ _).mp hk
              have Ex := E4.trans E5
              refine ⟨xs, atD Ex, ?_, ?_⟩
              · rw [(rxs Ex).length]
                exact sz_fits k1
              · exact next S5 Ex k2 (RpAll.append (rxs Ex) (.cons ry .nil)) z5
            · rw [if_neg hk] at z5
              exact z5.elim
          | false =>
            refine (if_neg Bool.false_ne_true).mpr ?_
            have z4 : Fin (if wipeOk ρ3 vs then lcLoop g t f vs (ds.drop (i + 1)) (wipeR ρ3 vs) acc else .no) := z4
            by_cases hk : wipeOk ρ3 vs = true
            · rw [if_pos hk] at z4
              have w := next S4 E4 hk (rxs E4) z4
              rw [upd_self (atD E4)] at w
              exact w
            · rw [if_neg hk] at z4
              exact z4.elim
      · rintro H' ⟨ρ', acc, xs, H'', rfl, hD'', S', un', E', r', z⟩
        rw [List.drop_length] at z
        exact z H'' xs S' un' E' hD'' r'
    · rw [if_neg hw] at q1
      exact q1.elim
end
end VL

set_option Elab.async false
set_option linter.all false
set_option maxRecDepth 100000
set_option maxHeartbeats 4000000
/-! V4: what a def promises by its mirror; calls; own lists read and changed. -/
namespace VL
open PySem PySem.Spec PyProof.Rows L2

/-! ### promises -/
def noOwn (as : List Sl) : Prop := ∀ (i : Nat) (ds : List PyData), as[i]? ≠ some (.own ds)
def spM (K : PySem.W.Frag) (T : VT) (m : Mir) : Sp := fun vs H Q E => ∃ (hid : Addr → Prop) (as : List Sl), SR K T hid (vs.map some) H (vs.map some) as ∧
  match m as with
  | .ok d as' => ∀ v H', SR K T hid (vs.map some) H' (vs.map some) as' → Ext hid (vs.map some) as H (vs.map some) as' H' → Rp K (Fz hid (vs.map some) as' H') v d → Q v H'
  | .ex c as' => ∀ H', SR K T hid (vs.map some) H' (vs.map some) as' → Ext hid (vs.map some) as H (vs.map some) as' H' → E (.ref (T.ea c)) none H'
  | .no => False
def Sl.fin : Sl → Sl
  | .bor ds => .bor ds
  | _ => .un
def finR : Nat → R → List Sl
  | 0, _ => []
  | n + 1, [] => .un :: finR n []
  | n + 1, s :: ρ => s.fin :: finR n ρ
theorem finR_length : ∀ (n : Nat) (ρ : R), (finR n ρ).length = n
  | 0, _ => rfl
  | n + 1, [] => congrArg (· + 1) (finR_length n [])
  | n + 1, s :: ρ => congrArg (· + 1) (finR_length n ρ)
theorem finR_get : ∀ {n : Nat} {ρ : R} {i : Nat} {s : Sl}, (finR n ρ)[i]? = some s → i < n ∧ (s = .un ∨ ∃ ds, s = .bor ds ∧ ρ[i]? = some (.bor ds))
  | 0, _, _, _, h => by simp [finR] at h
  | n + 1, [], 0, s, h => by
    simp [finR] at h
    exact ⟨Nat.succ_pos _, .inl h.symm⟩
  | n + 1, t :: ρ, 0, s, h => by
    simp [finR] at h
    refine ⟨Nat.succ_pos _, ?_⟩
    cases t <;> subst h <;> first | exact .inl rfl | exact .inr ⟨_, rfl, rfl⟩
  | n + 1, [], i + 1, s, h => by
    have q : (finR n [])[i]? = some s := by simpa [finR] using h
    obtain ⟨h1, h2⟩ := finR_get q
    refine ⟨Nat.succ_lt_succ h1, h2.imp_right fun ⟨ds, e, z⟩ => ?_⟩
    simp at z
  | n + 1, t :: ρ, i + 1, s, h => by
    have q : (finR n ρ)[i]? = some s := by simpa [finR] using h
    obtain ⟨h1, h2⟩ := finR_get q
    exact ⟨Nat.succ_lt_succ h1, h2.imp_right fun ⟨ds, e, z⟩ => ⟨ds, e, by simpa using z⟩⟩
def noOwnB (as : List Sl) : Bool := as.all fun s => match s with
  | .own _ => false
  | _ => true
/-- n parameters, k further names -/
def mFn (n k : Nat) (m : MS) : Mir := fun as => if as.length = n ∧ noOwnB as = true then match m (as ++ List.replicate k .un) with
    | .ok (.rt d) ρ => .ok d (finR n ρ)
    | .ok .nx ρ => .ok .none (finR n ρ)
    | .ok _ _ => .no
    | .ex c ρ => .ex c (finR n ρ)
    | .no => .no
  else .no
section
variable {K : PySem.W.Frag} {T : VT} {hid : Addr → Prop} {B σ : L2.St} {ρ : R} {H : Hp}
theorem SR.entry {vs : List V} {as : List Sl} {N : List Str} {k : Nat} (S : SR K T hid (vs.map some) H (vs.map some) as) (hN : N.length = vs.length + k) :
    SR K T hid (L2.start N vs) H (L2.start N vs) (as ++ List.replicate k .un) ∧ Oa hid (L2.start N vs) (as ++ List.replicate k .un) = Oa hid (vs.map some) as := by
  have ln : as.length = vs.length := by rw [← S.len, List.length_map]
  have es : L2.start N vs = vs.map some ++ List.replicate k none := by
    unfold L2.start
    rw [show N.length - vs.length = k by omega]
  have hown : ∀ i a, ownAt (vs.map some ++ List.replicate k none) (as ++ List.replicate k .un) i a ↔ ownAt (vs.map some) as i a := fun i a => by
    unfold ownAt
    by_cases c : i < vs.length
    · rw [List.getElem?_append_left (by simpa using c), List.getElem?_append_left (by omega)]
    · have e1 : (as ++ List.replicate k Sl.un)[i]? = (List.replicate k Sl.un)[i - as.length]? := List.getElem?_append_right (by omega)
      have e2 : as[i]? = none := List.getElem?_eq_none (by omega)
      rw [e1, e2]
      constructor
      · rintro ⟨_, ds, h | h⟩
        · exact absurd (List.eq_of_mem_replicate (List.mem_of_getElem? h)) (by simp)
        · exact absurd (List.eq_of_mem_replicate (List.mem_of_getElem? h)) (by simp)
      · rintro ⟨_, ds, h | h⟩ <;> cases h
  have eo : Oa hid (vs.map some ++ List.replicate k none) (as ++ List.replicate k .un) = Oa hid (vs.map some) as := by
    funext b
    exact propext (or_congr_right (exists_congr fun i => hown i b))
  rw [es]
  refine ⟨⟨by simp [ln], fun i s e => ?_, fun i j a h1 h2 => S.one i j a ((hown i a).mp h1) ((hown j a).mp h2), fun i a h => S.sep i a ((hown i a).mp h), S.hh, fun i ds e => rfl⟩, eo⟩
  show ∃ o, _ ∧ SlV K T (fz (Oa hid _ _) H) H o s
  rw [eo]
  by_cases c : i < as.length
  · rw [List.getElem?_append_left c] at e
    obtain ⟨o, e1, r⟩ := S.rel i s e
    exact ⟨o, by rw [List.getElem?_append_left (by simp; omega)]; exact e1, r⟩
  · have e1 : (as ++ List.replicate k Sl.un)[i]? = (List.replicate k Sl.un)[i - as.length]? := List.getElem?_append_right (by omega)
    rw [e1] at e
    have es : s = .un := List.eq_of_mem_replicate (List.mem_of_getElem? e)
    subst es
    have lt : i - as.length < k := by
      have z := (List.getElem?_eq_some_iff.mp e).1
      rw [List.length_replicate] at z
      exact z
    refine ⟨none, ?_, .un _⟩
    rw [List.getElem?_append_right (by simp; omega), List.getElem?_replicate]
    simp
    omega
theorem SR.leave {vs : List V} {N : List Str} {n : Nat} (S : SR K T hid (L2.start N vs) H σ ρ) (hn : vs.length = n) :
    SR K T hid (vs.map some) H (vs.map some) (finR n ρ) ∧ Same (Fz hid σ ρ H) (Fz hid (vs.map some) (finR n ρ) H) := by
  have get : ∀ (i : Nat) (s : Sl), (finR n ρ)[i]? = some s → i < n ∧ (s = .un ∨ ∃ ds, s = .bor ds ∧ ρ[i]? = some (.bor ds)) := fun i s e => finR_get e
  have st : ∀ (i : Nat), i < n → (L2.start N vs)[i]? = (vs.map some)[i]? := fun i c => by
    unfold L2.start
    rw [List.getElem?_append_left (by simp; omega)]
  have own : ∀ i a, ownAt (vs.map some) (finR n ρ) i a → ownAt σ ρ i a := fun i a ⟨h1, ds, h2⟩ => by
    rcases h2 with h2 | h2
    · obtain ⟨_, h | ⟨es, h, _⟩⟩ := get i _ h2
      · cases h
      · cases h
    · obtain ⟨c, h | ⟨es, h, h3⟩⟩ := get i _ h2
      · cases h
      · cases h
        refine ⟨?_, ds, .inr h3⟩
        rw [← S.bor i ds h3, st i c]
        exact h1
  have sm : Same (Fz hid σ ρ H) (Fz hid (vs.map some) (finR n ρ) H) := fz_less fun b h => by
    rcases h with h | ⟨i, h⟩
    · exact .inl h
    · exact .inr ⟨i, own i b h⟩
  refine ⟨⟨by rw [List.length_map, finR_length]; exact hn, fun i s e => ?_, fun i j a h1 h2 => S.one i j a (own i a h1) (own j a h2), fun i a h => S.sep i a (own i a h), S.hh, fun i ds e => rfl⟩, sm⟩
  obtain ⟨c, h | ⟨ds, h, h3⟩⟩ := get i s e
  · subst h
    have lt : i < vs.length := by omega
    exact ⟨some vs[i], by rw [List.getElem?_map, List.getElem?_eq_getElem lt]; rfl, .un _⟩
  · subst h
    obtain ⟨o, e1, r⟩ := S.rel i _ h3
    refine ⟨o, ?_, r.mono sm (Same.refl _)⟩
    rw [← st i c, S.bor i ds h3]
    exact e1
end
section
variable {P : Program} {w : World} {K : PySem.W.Frag} {T : VT} {mg : Str → Option Value} {base : Heap}
abbrev WOf (E : XK) : WX := fun cls d _ H => E cls d H
/-- THE RULE for a def: it computes what its mirror does -/
theorem fn_ok {x qual : Str} {st : Stmt} {f : Addr} {fd : FuncData} {N ps : List Str} {k : Nat} {m : MS} (F : Fun K x qual st f fd) (S : FnScope N ps (defScope st)) (kk : Nat) (hk : N.length = ps.length + kk)
    (hbody : ∀ (cdv : Value) (A : Around) (outer : List Env) (s : Shared) (H : Hp) (E : XK), Room k (A.deeper (envOfC qual (defScope st) s.heap.objs.size f cdv)) →
      XSs (cxOf (L2.CX P w) P w K mg base N qual (defScope st) f cdv A outer s H E) T (WOf E) (defBody st) m) : FnOk P w K mg base (L2.CX P w) (k + 1) f fd ps (spM K T (mFn ps.length kk m)) := by
  have len : ∀ vs H Q E, spM K T (mFn ps.length kk m) vs H Q E → vs.length = ps.length := fun vs H Q E h => by
    obtain ⟨hid, as, S0, h⟩ := h
    have l := S0.len
    rw [List.length_map] at l
    unfold mFn at h
    by_cases c : as.length = ps.length ∧ noOwnB as = true
    · omega
    · rw [if_neg c] at h
      exact h.elim
  refine F.okX S len fun cdv A outer s H vs Q E hr h => ⟨_, hbody cdv A outer s H E hr, ?_⟩
  have ln := len _ _ _ _ h
  obtain ⟨hid, as, S0, h⟩ := h
  have l := S0.len
  rw [List.length_map] at l
  obtain ⟨S1, O1⟩ := S0.entry (N := N) (k := kk) (by omega)
  show ∃ hid B ρ, SR K T hid B H (L2.start N vs) ρ ∧ ResS K T (WOf E) hid B (L2.start N vs) ρ H (m ρ) _
  refine ⟨hid, L2.start N vs, as ++ List.replicate kk .un, S1, ?_⟩
  unfold mFn at h
  by_cases c : as.length = ps.length ∧ noOwnB as = true
  · rw [if_pos c] at h
    have e0 : Fz hid (L2.start N vs) (as ++ List.replicate kk .un) H = Fz hid (vs.map some) as H := by
      show fz _ _ = fz _ _
      rw [O1]
    have ext : ∀ {σ' : L2.St} {ρ' : R} {H' : Hp}, SR K T hid (L2.start N vs) H' σ' ρ' → Ext hid (L2.start N vs) (as ++ List.replicate kk .un) H σ' ρ' H' → Same (Fz hid σ' ρ' H') (Fz hid (vs.map some) (finR ps.length ρ') H') →
        Ext hid (vs.map some) as H (vs.map some) (finR ps.length ρ') H' := fun {σ' ρ' H'} S' E' sm => ⟨by rw [← e0]; exact E'.same.trans sm, E'.keep⟩
    cases hm : m (as ++ List.replicate kk .un) with
    | no => rw [hm] at h; exact h.elim
    | ex cc ρ' =>
      rw [hm] at h
      intro σ' H' S' E'
      obtain ⟨S2, sm⟩ := S'.leave ln
      exact h H' S2 (ext S' E' sm)
    | ok fl ρ' =>
      rw [hm] at h
      cases fl with
      | bk => exact h.elim
      | ct => exact h.elim
      | nx =>
        intro σ' H' S' E'
        obtain ⟨S2, sm⟩ := S'.leave ln
        exact h .non H' S2 (ext S' E' sm) .non
      | rt d =>
        intro σ' H' v S' E' r
        obtain ⟨S2, sm⟩ := S'.leave ln
        exact h v H' S2 (ext S' E' sm) (r.mono sm)
  · rw [if_neg c] at h
    exact h.elim
end
end VL

set_option Elab.async false
set_option linter.all false
set_option maxRecDepth 100000
set_option maxHeartbeats 4000000
/-! V5: calls of the program's own defs, their lists handed over. -/
namespace VL
open PySem PySem.Spec PyProof.Rows L2

inductive AV where
  | v (d : PyData) | b (j : Nat) | r (j : Nat) | f (n : Nat)
abbrev MA := R → Oc (List AV)
def AVr (K : PySem.W.Frag) (T : VT) (hid : Addr → Prop) (σ : L2.St) (ρ : R) (H : Hp) (x : V) : AV → Prop
  | .v d => Rp K (Fz hid σ ρ H) x d
  | .b j => σ[j]? = some (some x)
  | .r j => σ[j]? = some (some x)
  | .f n => x = .ref (T.fa n)
def Sl.isRef : Sl → Bool
  | .scr _ => true
  | .fn _ => true
  | _ => false
def toSl (ρ : R) : List AV → Option (List Sl)
  | [] => some []
  | .v d :: as => (toSl ρ as).map (.val d :: ·)
  | .b j :: as => match ρ[j]? with
    | some (.own ds) => (toSl ρ as).map (.bor ds :: ·)
    | some (.bor ds) => (toSl ρ as).map (.bor ds :: ·)
    | _ => none
  | .r j :: as => match ρ[j]? with
    | some (.scr ns) => (toSl ρ as).map (.scr ns :: ·)
    | some (.fn n) => (toSl ρ as).map (.fn n :: ·)
    | _ => none
  | .f n :: as => (toSl ρ as).map (.fn n :: ·)
def bs : List AV → List Nat
  | [] => []
  | .b j :: as => j :: bs as
  | .v _ :: as => bs as
  | .r _ :: as => bs as
  | .f _ :: as => bs as
def back : List AV → List Sl → R → Option R
  | [], _, ρ => some ρ
  | .b j :: avs, .bor ds :: as, ρ => match ρ[j]? with
    | some (.own _) => back avs as (ρ.set j (.own ds))
    | some (.bor _) => back avs as (ρ.set j (.bor ds))
    | _ => none
  | .v _ :: avs, _ :: as, ρ => back avs as ρ
  | .r _ :: avs, _ :: as, ρ => back avs as ρ
  | .f _ :: avs, _ :: as, ρ => back avs as ρ
  | _, _, _ => none
def mCall (m : Mir) (fa : MA) : ME := fun ρ => (fa ρ).bind fun avs ρ1 => if (bs avs).Nodup then match toSl ρ1 avs with
    | none => .no
    | some as => match m as with
      | .ok d as' => match back avs as' ρ1 with
        | some ρ2 => .ok d ρ2
        | none => .no
      | .ex c as' => match back avs as' ρ1 with
        | some ρ2 => .ex c ρ2
        | none => .no
      | .no => .no
  else .no
def mANil : MA := fun ρ => .ok [] ρ
def mAv (f : ME) (g : MA) : MA := fun ρ => (f ρ).bind fun d ρ1 => (g ρ1).bind fun as ρ2 => .ok (.v d :: as) ρ2
def hasB (ρ : R) (j : Nat) : Bool := match ρ[j]? with
  | some (.own _) => true
  | some (.bor _) => true
  | _ => false
def hasR (ρ : R) (j : Nat) : Bool := match ρ[j]? with
  | some (.scr _) => true
  | some (.fn _) => true
  | _ => false
def mAb (j : Nat) (g : MA) : MA := fun ρ => if hasB ρ j then (g ρ).bind fun as ρ2 => .ok (.b j :: as) ρ2 else .no
def mAr (j : Nat) (g : MA) : MA := fun ρ => if hasR ρ j then (g ρ).bind fun as ρ2 => .ok (.r j :: as) ρ2 else .no

def AvS (ρ : R) : AV → Sl → Prop
  | .v d, s => s = .val d
  | .b j, s => ∃ t ds, ρ[j]? = some t ∧ t.held = some ds ∧ s = .bor ds
  | .r j, s => ρ[j]? = some s ∧ s.isRef = true
  | .f n, s => s = .fn n
theorem toSl_get {ρ : R} : ∀ {avs : List AV} {as : List Sl}, toSl ρ avs = some as → as.length = avs.length ∧ ∀ (i : Nat) (s : Sl), as[i]? = some s → ∃ av, avs[i]? = some av ∧ AvS ρ av s
  | [], as, h => by
    cases h
    exact ⟨rfl, fun i s e => by simp at e⟩
  | av :: avs, as, h => by
    have key : ∃ s0 as0, toSl ρ avs = some as0 ∧ as = s0 :: as0 ∧ AvS ρ av s0 := by
      cases av with
      | v d =>
        cases e : toSl ρ avs with
        | none => simp [toSl, e] at h
        | some as0 => simp [toSl, e] at h; exact ⟨_, as0, rfl, h.symm, rfl⟩
      | b j =>
        unfold toSl at h
        split at h
        · rename_i ds hj
          cases e : toSl ρ avs with
          | none => simp [e] at h
          | some as0 => simp [e] at h; exact ⟨_, as0, rfl, h.symm, _, ds, hj, rfl, rfl⟩
        · rename_i ds hj
          cases e : toSl ρ avs with
          | none => simp [e] at h
          | some as0 => simp [e] at h; exact ⟨_, as0, rfl, h.symm, _, ds, hj, rfl, rfl⟩
        · cases h
      | r j =>
        unfold toSl at h
        split at h
        · rename_i ds hj
          cases e : toSl ρ avs with
          | none => simp [e] at h
          | some as0 => simp [e] at h; exact ⟨_, as0, rfl, h.symm, hj, rfl⟩
        · rename_i ds hj
          cases e : toSl ρ avs with
          | none => simp [e] at h
          | some as0 => simp [e] at h; exact ⟨_, as0, rfl, h.symm, hj, rfl⟩
        · cases h
      | f n =>
        cases e : toSl ρ avs with
        | none => simp [toSl, e] at h
        | some as0 => simp [toSl, e] at h; exact ⟨_, as0, rfl, h.symm, rfl⟩
    obtain ⟨s0, as0, h1, rfl, h2⟩ := key
    obtain ⟨l, g⟩ := toSl_get h1
    refine ⟨congrArg (· + 1) l, fun i s e => ?_⟩
    cases i with
    | zero => simp at e; subst e; exact ⟨av, rfl, h2⟩
    | succ i => obtain ⟨w, e1, e2⟩ := g i s (by simpa using e); exact ⟨w, by simpa using e1, e2⟩
theorem bs_mem : ∀ {avs : List AV} {j : Nat}, j ∈ bs avs ↔ ∃ i : Nat, avs[i]? = some (AV.b j)
  | [], j => by simp [bs]
  | av :: avs, j => by
    have ih := bs_mem (avs := avs) (j := j)
    constructor
    · intro h
      cases av with
      | b k =>
        rcases List.mem_cons.mp h with h | h
        · subst h; exact ⟨0, rfl⟩
        · obtain ⟨i, e⟩ := ih.mp h; exact ⟨i + 1, by simpa using e⟩
      | v d => obtain ⟨i, e⟩ := ih.mp h; exact ⟨i + 1, by simpa using e⟩
      | r d => obtain ⟨i, e⟩ := ih.mp h; exact ⟨i + 1, by simpa using e⟩
      | f d => obtain ⟨i, e⟩ := ih.mp h; exact ⟨i + 1, by simpa using e⟩
    · rintro ⟨i, e⟩
      cases i with
      | zero => simp at e; subst e; exact List.mem_cons_self
      | succ i =>
        have h := ih.mpr ⟨i, by simpa using e⟩
        cases av with
        | b k => exact List.mem_cons_of_mem _ h
        | v d => exact h
        | r d => exact h
        | f d => exact h
theorem bs_one : ∀ {avs : List AV} {i k j : Nat}, (bs avs).Nodup → avs[i]? = some (.b j) → avs[k]? = some (.b j) → i = k
  | [], i, k, j, _, h, _ => by simp at h
  | av :: avs, i, k, j, nd, h1, h2 => by
    have tail : (bs avs).Nodup := by
      cases av with
      | b l => exact (List.nodup_cons.mp nd).2
      | v d => exact nd
      | r d => exact nd
      | f d => exact nd
    cases i with
    | zero =>
      cases k with
      | zero => rfl
      | succ k =>
        simp at h1
        subst h1
        exact absurd (bs_mem.mpr ⟨k, by simpa using h2⟩) (List.nodup_cons.mp nd).1
    | succ i =>
      cases k with
      | zero =>
        simp at h2
        subst h2
        exact absurd (bs_mem.mpr ⟨i, by simpa using h1⟩) (List.nodup_cons.mp nd).1
      | succ k => exact congrArg (· + 1) (bs_one tail (by simpa using h1) (by simpa using h2))
theorem back_get : ∀ {avs : List AV} {as : List Sl} {ρ ρ2 : R}, (bs avs).Nodup → back avs as ρ = some ρ2 → (ρ2.length = ρ.length) ∧ ∀ j : Nat, (j ∉ bs avs → ρ2[j]? = ρ[j]?) ∧
    (∀ i : Nat, avs[i]? = some (.b j) → ∃ ds t t', as[i]? = some (.bor ds) ∧ ρ[j]? = some t ∧ t.mut ds = some t' ∧ ρ2[j]? = some t')
  | [], as, ρ, ρ2, _, h => by
    cases h
    exact ⟨rfl, fun j => ⟨fun _ => rfl, fun i e => by simp at e⟩⟩
  | .v d :: avs, [], ρ, ρ2, _, h => by cases h
  | .r d :: avs, [], ρ, ρ2, _, h => by cases h
  | .f d :: avs, [], ρ, ρ2, _, h => by cases h
  | .b d :: avs, [], ρ, ρ2, _, h => by cases h
  | .v d :: avs, s :: as, ρ, ρ2, nd, h => by
    obtain ⟨l, g⟩ := back_get (avs := avs) (as := as) (ρ := ρ) (ρ2 := ρ2) nd h
    refine ⟨l, fun j => ⟨(g j).1, fun i e => ?_⟩⟩
    cases i with
    | zero => simp at e
    | succ i => exact (g j).2 i (by simpa using e)
  | .r d :: avs, s :: as, ρ, ρ2, nd, h => by
    obtain ⟨l, g⟩ := back_get (avs := avs) (as := as) (ρ := ρ) (ρ2 := ρ2) nd h
    refine ⟨l, fun j => ⟨(g j).1, fun i e => ?_⟩⟩
    cases i with
    | zero => simp at e
    | succ i => exact (g j).2 i (by simpa using e)
  | .f d :: avs, s :: as, ρ, ρ2, nd, h => by
    obtain ⟨l, g⟩ := back_get (avs := avs) (as := as) (ρ := ρ) (ρ2 := ρ2) nd h
    refine ⟨l, fun j => ⟨(g j).1, fun i e => ?_⟩⟩
    cases i with
    | zero => simp at e
    | succ i => exact (g j).2 i (by simpa using e)
  | .b k :: avs, s :: as, ρ, ρ2, nd, h => by
    obtain ⟨nk, nt⟩ := List.nodup_cons.mp (show (k :: bs avs).Nodup from nd)
    have key : ∃ ds t t', s = .bor ds ∧ ρ[k]? = some t ∧ t.mut ds = some t' ∧ back avs as (ρ.set k t') = some ρ2 := by
      cases s with
      | bor ds =>
        unfold back at h
        split at h
        · rename_i hj; exact ⟨ds, _, _, rfl, hj, rfl, h⟩
        · rename_i hj; exact ⟨ds, _, _, rfl, hj, rfl, h⟩
        · cases h
      | _ => cases h
    obtain ⟨ds, t, t', rfl, hk, hm, h'⟩ := key
    obtain ⟨l, g⟩ := back_get nt h'
    have lt := (List.getElem?_eq_some_iff.mp hk).1
    refine ⟨by rw [l, List.length_set], fun j => ⟨fun hj => ?_, fun i e => ?_⟩⟩
    · have hj2 : j ≠ k ∧ j ∉ bs avs := ⟨fun z => hj (by simp [bs, z]), fun z => hj (by simp [bs, z])⟩
      rw [(g j).1 hj2.2, List.getElem?_set_ne fun z => hj2.1 z.symm]
    · cases i with
      | zero =>
        simp at e
        subst e
        refine ⟨ds, t, t', rfl, hk, hm, ?_⟩
        rw [(g k).1 nk, List.getElem?_set, if_pos rfl, if_pos lt]
      | succ i =>
        have e' : avs[i]? = some (.b j) := by simpa using e
        obtain ⟨es, u, u', e1, e2, e3, e4⟩ := (g j).2 i e'
        have njk : k ≠ j := fun z => nk (z ▸ bs_mem.mpr ⟨i, e'⟩)
        rw [List.getElem?_set_ne njk] at e2
        exact ⟨es, u, u', by simpa using e1, e2, e3, e4⟩
theorem paired_at {α β : Type} {F : α → β → Prop} : ∀ {xs : List α} {ys : List β}, Paired F xs ys → ∀ {i : Nat} {y : β}, ys[i]? = some y → ∃ x, xs[i]? = some x ∧ F x y
  | _, _, .nil, i, y, e => by simp at e
  | _, _, .cons r t, 0, y, e => by simp at e; subst e; exact ⟨_, rfl, r⟩
  | _, _, .cons r t, i + 1, y, e => by
    obtain ⟨x, h1, h2⟩ := paired_at t (i := i) (y := y) (by simpa using e)
    exact ⟨x, by simpa using h1, h2⟩
theorem mut_held {s s' : Sl} {ds : List PyData} (h : s.mut ds = some s') : s'.held = some ds ∧ ∃ es, s.held = some es := by
  cases s <;> simp [Sl.mut] at h <;> subst h <;> exact ⟨rfl, _, rfl⟩
section
variable {K : PySem.W.Frag} {T : VT} {hid : Addr → Prop} {B σ : L2.St} {ρ ρ2 : R} {H H' : Hp} {vs : List V} {avs : List AV} {as as' : List Sl}
/-- what a callee must leave alone: all that is hidden from the caller or its own, but what is handed over -/
def hidC (hid : Addr → Prop) (σ : L2.St) (ρ : R) (avs : List AV) : Addr → Prop := fun b => Oa hid σ ρ b ∧ ¬ ∃ j, j ∈ bs avs ∧ ownAt σ ρ j b
theorem own_call (S : SR K T hid B H σ ρ) (A : Paired (AVr K T hid σ ρ H) vs avs) (hs : toSl ρ avs = some as) {i : Nat} {a : Addr} : ownAt (vs.map some) as i a ↔ ∃ j, avs[i]? = some (.b j) ∧ ownAt σ ρ j a := by
  obtain ⟨l, g⟩ := toSl_get hs
  constructor
  · rintro ⟨h1, ds, h2⟩
    have key : ∃ j t es, avs[i]? = some (.b j) ∧ ρ[j]? = some t ∧ t.held = some es := by
      rcases h2 with h2 | h2
      · obtain ⟨av, e, q⟩ := g i _ h2
        cases av with
        | v d => cases q
        | b j => obtain ⟨t, es, _, _, z⟩ := q; cases z
        | r j => cases q.2
        | f n => cases q
      · obtain ⟨av, e, q⟩ := g i _ h2
        cases av with
        | v d => cases q
        | b j => obtain ⟨t, es, q1, q2, z⟩ := q; exact ⟨j, t, es, e, q1, q2⟩
        | r j => cases q.2
        | f n => cases q
    obtain ⟨j, t, es, e, q1, q2⟩ := key
    obtain ⟨x, e1, q⟩ := paired_at A e
    have q : σ[j]? = some (some x) := q
    rw [List.getElem?_map, e1] at h1
    have ex : x = .ref a := by simpa using h1
    subst ex
    refine ⟨j, e, q, es, ?_⟩
    cases t <;> simp [Sl.held] at q2 <;> subst q2 <;> first | exact .inl q1 | exact .inr q1
  · rintro ⟨j, e, h1, ds, h2⟩
    obtain ⟨x, e1, q⟩ := paired_at A e
    have q : σ[j]? = some (some x) := q
    rw [h1] at q
    cases q
    have lt : i < as.length := by
      rw [l]
      exact (List.getElem?_eq_some_iff.mp e).1
    obtain ⟨av, e2, q2⟩ := g i _ (List.getElem?_eq_getElem lt)
    rw [e] at e2
    cases e2
    obtain ⟨t, es, _, _, z⟩ := q2
    refine ⟨by rw [List.getElem?_map, e1]; rfl, es, .inr ?_⟩
    rw [List.getElem?_eq_getElem lt, z]
theorem Oa_call (S : SR K T hid B H σ ρ) (A : Paired (AVr K T hid σ ρ H) vs avs) (hs : toSl ρ avs = some as) : Oa (hidC hid σ ρ avs) (vs.map some) as = Oa hid σ ρ := by
  funext b
  refine propext ⟨fun h => ?_, fun h => ?_⟩
  · rcases h with h | ⟨i, h⟩
    · exact h.1
    · obtain ⟨j, _, q⟩ := (own_call S A hs).mp h
      exact .inr ⟨j, q⟩
  · by_cases c : ∃ j, j ∈ bs avs ∧ ownAt σ ρ j b
    · obtain ⟨j, hj, q⟩ := c
      obtain ⟨i, e⟩ := bs_mem.mp hj
      exact .inr ⟨i, (own_call S A hs).mpr ⟨j, e, q⟩⟩
    · exact .inl ⟨h, c⟩
theorem SR.call (S : SR K T hid B H σ ρ) (A : Paired (AVr K T hid σ ρ H) vs avs) (nd : (bs avs).Nodup) (hs : toSl ρ avs = some as) : SR K T (hidC hid σ ρ avs) (vs.map some) H (vs.map some) as := by
  obtain ⟨l, g⟩ := toSl_get hs
  have eo := Oa_call S A hs
  refine ⟨by rw [List.length_map, l]; exact Paired.length A, fun i s e => ?_, fun i k a h1 h2 => ?_, fun i a h z => ?_, fun b h => S.dom b h.1, fun i ds e => rfl⟩
  · obtain ⟨av, e1, q⟩ := g i s e
    obtain ⟨x, e2, q2⟩ := paired_at A e1
    refine ⟨some x, by rw [List.getElem?_map, e2]; rfl, ?_⟩
    show SlV K T (fz (Oa _ _ _) H) H _ _
    rw [eo]
    cases av with
    | v d =>
      have q : s = .val d := q
      subst q
      exact .val q2
    | b j =>
      obtain ⟨t, ds, q1, q3, rfl⟩ := q
      obtain ⟨a, xs, h1, _, h2, h3⟩ := S.own_of q1 q3
      have q2 : σ[j]? = some (some x) := q2
      rw [h1] at q2
      cases q2
      exact .bor h2 h3
    | r j =>
      obtain ⟨q1, q3⟩ := q
      have q2 : σ[j]? = some (some x) := q2
      obtain ⟨o, h1, r⟩ := S.rel j s q1
      rw [q2] at h1
      cases h1
      exact r
    | f n =>
      have q : s = .fn n := q
      have q2 : x = .ref (T.fa n) := q2
      subst q q2
      exact .fn n
  · obtain ⟨j, e1, q1⟩ := (own_call S A hs).mp h1
    obtain ⟨j', e2, q2⟩ := (own_call S A hs).mp h2
    cases S.one j j' a q1 q2
    exact bs_one nd e1 e2
  · obtain ⟨j, e1, q1⟩ := (own_call S A hs).mp h
    exact z.2 ⟨j, bs_mem.mpr ⟨i, e1⟩, q1⟩
theorem SR.called (S : SR K T hid B H σ ρ) (A : Paired (AVr K T hid σ ρ H) vs avs) (nd : (bs avs).Nodup) (hs : toSl ρ avs = some as) (hb : back avs as' ρ = some ρ2) (S' : SR K T (hidC hid σ ρ avs) (vs.map some) H' (vs.map some) as')
    (E' : Ext (hidC hid σ ρ avs) (vs.map some) as H (vs.map some) as' H') : SR K T hid B H' σ ρ2 ∧ Ext hid σ ρ H σ ρ2 H' ∧ Same (Fz (hidC hid σ ρ avs) (vs.map some) as' H') (Fz hid σ ρ2 H') := by
  obtain ⟨l, g⟩ := back_get nd hb
  have hown : ∀ j a, ownAt σ ρ2 j a ↔ ownAt σ ρ j a := fun j a => by
    unfold ownAt
    refine and_congr_right fun _ => ?_
    by_cases c : j ∈ bs avs
    · obtain ⟨i, e⟩ := bs_mem.mp c
      obtain ⟨ds, t, t', _, e1, e2, e3⟩ := (g j).2 i e
      rw [e1, e3]
      cases t <;> simp [Sl.mut] at e2 <;> subst e2 <;> simp
    · rw [(g j).1 c]
  have eo2 : Oa hid σ ρ2 = Oa hid σ ρ := by
    funext b
    exact propext (or_congr_right (exists_congr fun j => hown j b))
  have eo := Oa_call S A hs
  have less : ∀ b, Oa hid σ ρ2 b → Oa (hidC hid σ ρ avs) (vs.map some) as' b := fun b h => by
    rw [eo2] at h
    by_cases c : ∃ j, j ∈ bs avs ∧ ownAt σ ρ j b
    · obtain ⟨j, hj, q⟩ := c
      obtain ⟨i, e⟩ := bs_mem.mp hj
      obtain ⟨ds, t, t', e0, e1, e2, e3⟩ := (g j).2 i e
      have o1 := (own_call S A hs).mpr ⟨j, e, q⟩
      exact .inr ⟨i, o1.1, ds, .inr e0⟩
    · exact .inl ⟨h, c⟩
  have sm2 : Same (Fz (hidC hid σ ρ avs) (vs.map some) as' H') (Fz hid σ ρ2 H') := fz_less less
  have sm : Same (Fz hid σ ρ H) (Fz hid σ ρ2 H') := by
    have z := E'.same
    have e : Fz (hidC hid σ ρ avs) (vs.map some) as H = Fz hid σ ρ H := by
      show fz _ _ = fz _ _
      rw [eo]
    rw [e] at z
    exact z.trans sm2
  have keep : ∀ b, Oa hid σ ρ b → (¬ ∃ j, j ∈ bs avs ∧ ownAt σ ρ j b) → H' b = H b := fun b h n => E'.keep b ⟨h, n⟩
  have keepH : ∀ b, hid b → H' b = H b := fun b h => keep b (.inl h) fun ⟨j, _, q⟩ => S.sep j b q h
  refine ⟨⟨by rw [l]; exact S.len, fun j s e => ?_, fun i j a h1 h2 => S.one i j a ((hown i a).mp h1) ((hown j a).mp h2), fun i a h => S.sep i a ((hown i a).mp h), fun b h => ?_, fun j ds e => ?_⟩, ⟨sm, keepH⟩, sm2⟩
  · by_cases c : j ∈ bs avs
    · obtain ⟨i, ei⟩ := bs_mem.mp c
      obtain ⟨ds, t, t', e0, e1, e2, e3⟩ := (g j).2 i ei
      rw [e] at e3
      cases e3
      obtain ⟨o, h1, r⟩ := S'.rel i _ e0
      cases r with
      | bor r1 r2 =>
        rename_i a xs
        obtain ⟨x, ex, qx⟩ := paired_at A ei
        have qx : σ[j]? = some (some x) := qx
        rw [List.getElem?_map, ex] at h1
        have exx : x = .ref a := by simpa using h1
        subst exx
        refine ⟨_, qx, ?_⟩
        cases t <;> simp [Sl.mut] at e2 <;> subst e2
        · exact .own r1 (r2.mono sm2)
        · exact .bor r1 (r2.mono sm2)
    · rw [(g j).1 c] at e
      obtain ⟨o, h1, r⟩ := S.rel j s e
      refine ⟨o, h1, ?_⟩
      have free : ∀ a, ownAt σ ρ j a → H' a = H a := fun a q => keep a (.inr ⟨j, q⟩) fun ⟨k, hk, qk⟩ => c (S.one k j a qk q ▸ hk)
      cases r with
      | un => exact .un _
      | val r => exact .val (r.mono sm)
      | scr r => exact .scr (sm.seq r)
      | fn n => exact .fn n
      | own r1 r2 => exact .own (by rw [free _ ⟨h1, _, .inl e⟩]; exact r1) (r2.mono sm)
      | bor r1 r2 => exact .bor (by rw [free _ ⟨h1, _, .inr e⟩]; exact r1) (r2.mono sm)
  · obtain ⟨o, e⟩ := S.hh b h
    exact ⟨o, by rw [keepH b h]; exact e⟩
  · by_cases c : j ∈ bs avs
    · obtain ⟨i, ei⟩ := bs_mem.mp c
      obtain ⟨es, t, t', e0, e1, e2, e3⟩ := (g j).2 i ei
      rw [e] at e3
      cases e3
      cases t <;> simp [Sl.mut] at e2
      exact S.bor j _ e1
    · rw [(g j).1 c] at e
      exact S.bor j ds e
end

/-! ### the rules -/
def rdA (K : PySem.W.Frag) (T : VT) (W : WX) (f : MA) : TA := fun σ H Q => ∃ hid B ρ, SR K T hid B H σ ρ ∧ Res K T W hid B σ ρ H (f ρ) fun avs ρ' H' => ∀ vs, Paired (AVr K T hid σ ρ' H') vs avs → Q vs H'
abbrev XA (X : Cx) (T : VT) (W : WX) (es : List Expr) (f : MA) : Prop := PA X es (rdA X.K T W f)
section
variable {X : Cx} {T : VT} {W : WX} {pos : Pos} {a : Expr} {es : List Expr} {f : ME} {fa : MA}
theorem anil : XA X T W [] mANil := pa_nil.weak fun σ H Q ⟨hid, B, ρ, S, q⟩ => Res.here S q [] .nil
theorem avr_mono {K : PySem.W.Frag} {T : VT} {hid : Addr → Prop} {σ : L2.St} {ρ ρ' : R} {H H' : Hp} {x : V} {av : AV} (E : Ext hid σ ρ H σ ρ' H') (h : AVr K T hid σ ρ H x av) : AVr K T hid σ ρ' H' x av := by
  cases av with
  | v d => exact Rp.mono E.same d h
  | b j => exact h
  | r j => exact h
  | f n => exact h
theorem av (ha : XE X T W a f) (hr : XA X T W es fa) (hs : starEach (a :: es) X.env = (false, eval a X.env) :: starEach es X.env := by rfl) : XA X T W (a :: es) (mAv f fa) :=
  (pa_cons ha hr hs).weak fun σ H Q ⟨hid, B, ρ, S, q⟩ => ⟨hid, B, ρ, S, (Res.bind q).imp fun d ρ1 H1 S1 E1 q1 x rx => ⟨hid, B, ρ1, S1, (Res.bind q1).imp fun ds ρ2 H2 S2 E2 q2 xs rxs =>
    Res.here S2 q2 (x :: xs) (.cons (rx.mono E2.same) rxs)⟩⟩
theorem has_v {K : PySem.W.Frag} {hid : Addr → Prop} {B σ : L2.St} {ρ : R} {H : Hp} {i : Nat} {s : Sl} (S : SR K T hid B H σ ρ) (h : ρ[i]? = some s) (hs : s ≠ .un) : ∃ v, σ[i]? = some (some v) := by
  obtain ⟨o, e, r⟩ := S.rel i s h
  cases r with
  | un => exact absurd rfl hs
  | val _ => exact ⟨_, e⟩
  | own _ _ => exact ⟨_, e⟩
  | bor _ _ => exact ⟨_, e⟩
  | scr _ => exact ⟨_, e⟩
  | fn _ => exact ⟨_, e⟩
theorem ab (i : Nat) {x : Str} {p : Pos} (hr : XA X T W es fa) (hN : X.N[i]? = some x := by rfl) (hv : Vis X.env.scope x := by first | exact Or.inl rfl | exact Or.inr (Or.inl rfl) | exact Or.inr (Or.inr rfl)) (hd : (x == ("__debug__" : Str)) = false := by decide)
    (hcd : (x == ("__classdict__" : Str)) = false := by decide) (hs : starEach (.Name x p :: es) X.env = (false, eval (.Name x p) X.env) :: starEach es X.env := by rfl) : XA X T W (.Name x p :: es) (mAb i fa) :=
  (pa_cons (pe_var hN hv hd hcd) hr hs).weak fun σ H Q ⟨hid, B, ρ, S, q⟩ => by
    unfold mAb at q
    by_cases c : hasB ρ i = true
    · rw [if_pos c] at q
      have hv : ∃ v, σ[i]? = some (some v) := by
        unfold hasB at c
        split at c
        · rename_i e; exact has_v S e (by simp)
        · rename_i e; exact has_v S e (by simp)
        · cases c
      obtain ⟨v, e⟩ := hv
      exact ⟨v, e, hid, B, ρ, S, (Res.bind q).imp fun ds ρ2 H2 S2 E2 q2 xs rxs => Res.here S2 q2 (v :: xs) (.cons e rxs)⟩
    · rw [if_neg c] at q
      exact q.elim
theorem ar (i : Nat) {x : Str} {p : Pos} (hr : XA X T W es fa) (hN : X.N[i]? = some x := by rfl) (hv : Vis X.env.scope x := by first | exact Or.inl rfl | exact Or.inr (Or.inl rfl) | exact Or.inr (Or.inr rfl)) (hd : (x == ("__debug__" : Str)) = false := by decide)
    (hcd : (x == ("__classdict__" : Str)) = false := by decide) (hs : starEach (.Name x p :: es) X.env = (false, eval (.Name x p) X.env) :: starEach es X.env := by rfl) : XA X T W (.Name x p :: es) (mAr i fa) :=
  (pa_cons (pe_var hN hv hd hcd) hr hs).weak fun σ H Q ⟨hid, B, ρ, S, q⟩ => by
    unfold mAr at q
    by_cases c : hasR ρ i = true
    · rw [if_pos c] at q
      have hv : ∃ v, σ[i]? = some (some v) := by
        unfold hasR at c
        split at c
        · rename_i e; exact has_v S e (by simp)
        · rename_i e; exact has_v S e (by simp)
        · cases c
      obtain ⟨v, e⟩ := hv
      exact ⟨v, e, hid, B, ρ, S, (Res.bind q).imp fun ds ρ2 H2 S2 E2 q2 xs rxs => Res.here S2 q2 (v :: xs) (.cons e rxs)⟩
    · rw [if_neg c] at q
      exact q.elim
theorem rdCall {m : Mir} {σ : L2.St} {H : Hp} {Q : VK} (q : rdE X.K T W (mCall m fa) σ H Q) : tCallS (spM X.K T m) (WE W) (rdA X.K T W fa) σ H Q := by
  obtain ⟨hid, B, ρ, S, q⟩ := q
  refine ⟨hid, B, ρ, S, (Res.bind q).imp fun avs ρ1 H1 S1 E1 q1 vs A => ?_⟩
  by_cases nd : (bs avs).Nodup
  · rw [if_pos nd] at q1
    cases hs : toSl ρ1 avs with
    | none => rw [hs] at q1; exact q1.elim
    | some as =>
      rw [hs] at q1
      refine ⟨hidC hid σ ρ1 avs, as, S1.call A nd hs, ?_⟩
      have q1 : Res X.K T W hid B σ ρ1 H1 (match m as with
        | .ok d as' => match back avs as' ρ1 with
          | some ρ2 => .ok d ρ2
          | none => .no
        | .ex c as' => match back avs as' ρ1 with
          | some ρ2 => .ex c ρ2
          | none => .no
        | .no => .no) (fun d ρ' H' => ∀ v, Rp X.K (Fz hid σ ρ' H') v d → Q v H') := q1
      cases hm : m as with
      | no => rw [hm] at q1; exact q1.elim
      | ok d as' =>
        rw [hm] at q1
        intro v H' S' E' r
        have q1 : Res X.K T W hid B σ ρ1 H1 (match back avs as' ρ1 with
          | some ρ2 => .ok d ρ2
          | none => .no) (fun d ρ' H' => ∀ v, Rp X.K (Fz hid σ ρ' H') v d → Q v H') := q1
        cases hb : back avs as' ρ1 with
        | none => rw [hb] at q1; exact q1.elim
        | some ρ2 =>
          rw [hb] at q1
          obtain ⟨S2, E2, sm⟩ := S1.called A nd hs hb S' E'
          exact q1 H' S2 E2 v (r.mono sm)
      | ex c as' =>
        rw [hm] at q1
        intro H' S' E'
        have q1 : Res X.K T W hid B σ ρ1 H1 (match back avs as' ρ1 with
          | some ρ2 => .ex c ρ2
          | none => .no) (fun d ρ' H' => ∀ v, Rp X.K (Fz hid σ ρ' H') v d → Q v H') := q1
        cases hb : back avs as' ρ1 with
        | none => rw [hb] at q1; exact q1.elim
        | some ρ2 =>
          rw [hb] at q1
          obtain ⟨S2, E2, sm⟩ := S1.called A nd hs hb S' E'
          exact q1 H' S2 E2
  · rw [if_neg nd] at q1
    exact q1.elim
/-- a def handed over by name -/
def mAf (n : Nat) (g : MA) : MA := fun ρ => (g ρ).bind fun as ρ2 => .ok (.f n :: as) ρ2
theorem af (n : Nat) {x : Str} {p : Pos} (hg : Gl X x) (hm : X.mg x = some (.ref (T.fa n))) (hr : XA X T W es fa) (hd : (x == ("__debug__" : Str)) = false := by decide) (hs : starEach (.Name x p :: es) X.env = (false, eval (.Name x p) X.env) :: starEach es X.env := by rfl) : XA X T W (.Name x p :: es) (mAf n fa) :=
  (pa_cons (pe_glob (v := .ref (T.fa n)) hg hm rfl hd) hr hs).weak fun σ H Q ⟨hid, B, ρ, S, q⟩ => ⟨hid, B, ρ, S, (Res.bind q).imp fun ds ρ2 H2 S2 E2 q2 xs rxs => Res.here S2 q2 (.ref (T.fa n) :: xs) (.cons rfl rxs)⟩
/-- a call of the def that a slot holds -/
def mCallL (j : Nat) (ms : List (Nat × Mir)) (fa : MA) : ME := fun ρ => match ρ[j]? with
  | some (.fn n) => match ms.lookup n with
    | some m => mCall m fa ρ
    | none => .no
  | _ => .no
/-- a def that a slot may hold -/
structure FnD (P : Program) (w : World) (K : PySem.W.Frag) (mg : Str → Option Value) (base : Heap) (T : VT) (k : Nat) (n : Nat) (m : Mir) : Prop where
  ex : ∃ fd ps, PySem.W.keepIn K (.ref (T.fa n)) = true ∧ Binds K fd ps [] ∧ FnOk P w K mg base (L2.CX P w) k (T.fa n) fd ps (spM K T m)
def LkOk (P : Program) (w : World) (K : PySem.W.Frag) (mg : Str → Option Value) (base : Heap) (T : VT) (k : Nat) (ms : List (Nat × Mir)) : Prop := ∀ n m, ms.lookup n = some m → ∃ k', k' ≤ k ∧ FnD P w K mg base T k' n m
theorem lk_nil {P : Program} {w : World} {K : PySem.W.Frag} {mg : Str → Option Value} {base : Heap} {k : Nat} : LkOk P w K mg base T k [] := fun _ _ h => by cases h
theorem lk_cons {P : Program} {w : World} {K : PySem.W.Frag} {mg : Str → Option Value} {base : Heap} {k k' n : Nat} {m : Mir} {ms : List (Nat × Mir)} (D : FnD P w K mg base T k' n m) (hk : k' ≤ k) (h : LkOk P w K mg base T k ms) : LkOk P w K mg base T k ((n, m) :: ms) := fun i m' e => by
  rw [List.lookup_cons] at e
  by_cases c : (i == n) = true
  · simp only [c] at e
    cases e
    have : i = n := by simpa using c
    subst this
    exact ⟨k', hk, D⟩
  · have c' : (i == n) = false := by simpa using c
    simp only [c'] at e
    exact h i m' e
theorem xcallL (j : Nat) {x : Str} {p : Pos} {k : Nat} {ms : List (Nat × Mir)} (hms : LkOk X.prog X.w X.K X.mg X.base T k ms) (hr : Room k X.A) (tk : Takes X W) (ha : XA X T W (a :: es) fa) (hN : X.N[j]? = some x := by rfl)
    (hv : Vis X.env.scope x := by first | exact Or.inl rfl | exact Or.inr (Or.inl rfl) | exact Or.inr (Or.inr rfl)) (hdb : (x == ("__debug__" : Str)) = false := by decide) (hcd : (x == ("__classdict__" : Str)) = false := by decide)
    (he : starEach (a :: es) X.env = (false, eval a X.env) :: starEach es X.env := by rfl) (hpl : (backTo pos (starEach es X.env)).any (·.1) = false := by rfl) : XE X T W (.Call (.Name x p) (a :: es) [] pos) (mCallL j ms fa) := by
  refine ⟨fun pins s σ H Q I q => ?_⟩
  obtain ⟨hid, B, ρ, S, q⟩ := q
  unfold mCallL at q
  split at q
  · rename_i n hn
    split at q
    · rename_i m hm
      obtain ⟨k', hk', D⟩ := hms n m hm
      obtain ⟨fd, ps, h2, h3, h4⟩ := D.ex
      obtain ⟨o, hσ, r⟩ := S.rel j _ hn
      cases r
      have z := rdCall (X := X) (T := T) (W := W) (Q := Q) ⟨hid, B, ρ, S, q⟩
      refine wpAny_Call_Name_kw (thn ((pe_var (pos := p) hN hv hdb hcd).run pins s σ H (fun v H1 => v = .ref (T.fa n) ∧ H1 = H) I ⟨.ref (T.fa n), hσ, rfl, rfl⟩) fun u s1 ⟨v, H1, I1, r1, q1⟩ => ?_)
      obtain ⟨rfl, rfl⟩ := q1
      cases r1
      refine PySem.W.callWith_K (h₀ := X.base) I.ok.mod.kin h2 (thn (ha.run pos pins s1 σ _ _ I1 z) fun us s2 ⟨vs, H2, I2, r, q⟩ => ⟨I2.kIn, ?_⟩) he hpl
      exact run_fnS h4 (hr.mono hk') h3 (passAt tk σ) I2 r q
    · exact q.elim
  · exact q.elim
variable {k : Nat} {fp : Addr} {fd : FuncData} {ps : List Str} {m : Mir} {x : Str} {p : Pos}
theorem xcall (F : FnOk X.prog X.w X.K X.mg X.base (L2.CX X.prog X.w) k fp fd ps (spM X.K T m)) (hr : Room k X.A) (hg : Gl X x) (hm : X.mg x = some (.ref fp)) (hk : PySem.W.keepIn X.K (.ref fp) = true) (hb : Binds X.K fd ps []) (tk : Takes X W)
    (ha : XA X T W (a :: es) fa) (hdb : (x == ("__debug__" : Str)) = false := by decide) (he : starEach (a :: es) X.env = (false, eval a X.env) :: starEach es X.env := by rfl) (hpl : (backTo pos (starEach es X.env)).any (·.1) = false := by rfl) :
    XE X T W (.Call (.Name x p) (a :: es) [] pos) (mCall m fa) := (pe_callS F hr hg hm hk hb (fun σ => passAt tk σ) ha hdb he hpl).weak fun σ H Q q => rdCall q
end
end VL

set_option Elab.async false
set_option linter.all false
set_option maxRecDepth 100000
set_option maxHeartbeats 4000000
/-! V6: operations on data: arithmetic, comparisons, subscripts, slices, len, isinstance, all, any, ranges, copies. -/
namespace VL
open PySem PySem.Spec PyProof.Rows L2

/-! ### arithmetic and + -/
def addD : PyData → PyData → Option PyData
  | .int i, .int j => some (.int (i + j))
  | .str a, .str b => if fits (a.length + b.length) then some (.str (a ++ b)) else none
  | .list a, .list b => if fits (a.length + b.length) then some (.list (a ++ b)) else none
  | .tuple a, .tuple b => if fits (a.length + b.length) then some (.tuple (a ++ b)) else none
  | _, _ => none
def subD : PyData → PyData → Option PyData
  | .int i, .int j => some (.int (i - j))
  | _, _ => none
def mulI : PyData → PyData → Option PyData
  | .int i, .int j => if decide (i.natAbs.log2 + j.natAbs.log2 < 1000000) then some (.int (i * j)) else none
  | _, _ => none
def divD : PyData → PyData → Option PyData
  | .int i, .int j => if decide (0 < j ∧ j.natAbs.log2 < 9000) then some (.int (i / j)) else none
  | _, _ => none
def modD : PyData → PyData → Option PyData
  | .int i, .int j => if decide (j ≠ 0) then some (.int (i.fmod j)) else none
  | _, _ => none
def powD : PyData → PyData → Option PyData
  | .int i, .int j => if decide (0 ≤ j ∧ j ≤ 1000000 ∧ i.natAbs < 2 ^ 64) then some (.int (i ^ j.toNat)) else none
  | _, _ => none
def negD : PyData → Option PyData
  | .int i => some (.int (-i))
  | _ => none
section
variable {K : PySem.W.Frag}
theorem rp_int {F : Hp} {x : V} {i : Int} (h : Rp K F x (.int i)) : x = .int i := by cases h; rfl
theorem rp_str {F : Hp} {x : V} {i : Str} (h : Rp K F x (.str i)) : x = .str i := by cases h; rfl
theorem rp_bl {F : Hp} {x : V} {i : Bool} (h : Rp K F x (.bool i)) : x = .bl i := by cases h; rfl
theorem pure_ii {op : PyData → PyData → Option PyData} {C : Int → Int → Prop} {g : Int → Int → Int} (h : ∀ d e res, op d e = some res → ∃ i j, d = .int i ∧ e = .int j ∧ C i j ∧ res = .int (g i j)) : Pure2 K (rI C fun i j => .int (g i j)) op := by
  intro O H x y d e res Q hO rx ry ho q
  obtain ⟨i, j, rfl, rfl, hc, rfl⟩ := h _ _ _ ho
  exact ⟨i, j, rp_int rx, rp_int ry, hc, q _ H (Same.refl _) (.int _)⟩
theorem pure_ii0 {op : PyData → PyData → Option PyData} {g : Int → Int → Int} (h : ∀ d e res, op d e = some res → ∃ i j, d = .int i ∧ e = .int j ∧ res = .int (g i j)) : Pure2 K (rI0 fun i j => .int (g i j)) op := by
  intro O H x y d e res Q hO rx ry ho q
  obtain ⟨i, j, rfl, rfl, rfl⟩ := h _ _ _ ho
  exact ⟨i, j, rp_int rx, rp_int ry, q _ H (Same.refl _) (.int _)⟩
theorem pure_ib0 {op : PyData → PyData → Option PyData} {g : Int → Int → Bool} (h : ∀ d e res, op d e = some res → ∃ i j, d = .int i ∧ e = .int j ∧ res = .bool (g i j)) : Pure2 K (rI0 fun i j => .bl (g i j)) op := by
  intro O H x y d e res Q hO rx ry ho q
  obtain ⟨i, j, rfl, rfl, rfl⟩ := h _ _ _ ho
  exact ⟨i, j, rp_int rx, rp_int ry, q _ H (Same.refl _) (.bl _)⟩
theorem pure_sub : Pure2 K (rI0 fun i j => .int (i - j)) subD := pure_ii0 fun d e res h => by
  unfold subD at h
  split at h
  · cases h; exact ⟨_, _, rfl, rfl, rfl⟩
  · cases h
theorem pure_mul : Pure2 K (rI CMulW fun i j => .int (i * j)) mulI := pure_ii fun d e res h => by
  unfold mulI at h
  split at h
  · split at h
    · rename_i i j hc; cases h; exact ⟨_, _, rfl, rfl, of_decide_eq_true (p := i.natAbs.log2 + j.natAbs.log2 < 1000000) hc, rfl⟩
    · cases h
  · cases h
theorem pure_div : Pure2 K (rI CDivW fun i j => .int (i / j)) divD := pure_ii fun d e res h => by
  unfold divD at h
  split at h
  · split at h
    · rename_i i j hc; cases h; exact ⟨_, _, rfl, rfl, of_decide_eq_true (p := 0 < j ∧ j.natAbs.log2 < 9000) hc, rfl⟩
    · cases h
  · cases h
theorem pure_mod : Pure2 K (rI (fun _ j => j ≠ 0) fun i j => .int (i.fmod j)) modD := pure_ii fun d e res h => by
  unfold modD at h
  split at h
  · split at h
    · rename_i i j hc; cases h; exact ⟨_, _, rfl, rfl, of_decide_eq_true hc, rfl⟩
    · cases h
  · cases h
theorem pure_pow : Pure2 K (rI CPow fun i j => .int (i ^ j.toNat)) powD := pure_ii fun d e res h => by
  unfold powD at h
  split at h
  · split at h
    · rename_i i j hc; cases h; exact ⟨_, _, rfl, rfl, of_decide_eq_true (p := 0 ≤ j ∧ j ≤ 1000000 ∧ i.natAbs < 2 ^ 64) hc, rfl⟩
    · cases h
  · cases h
theorem pure_neg : Pure1 K (rU fun i => .int (-i)) negD := by
  intro O H x d res Q hO rx ho q
  unfold negD at ho
  split at ho
  · cases ho; exact ⟨_, rp_int rx, q _ H (Same.refl _) (.int _)⟩
  · cases ho
theorem rp_lst {F : Hp} {x : V} {ds : List PyData} (h : Rp K F x (.list ds)) : ∃ a xs, x = .ref a ∧ F a = some (.lst xs) ∧ RpAll K F xs ds := by
  cases h with
  | lst h1 h2 => exact ⟨_, _, rfl, h1, h2⟩
theorem rp_tup {F : Hp} {x : V} {ds : List PyData} (h : Rp K F x (.tuple ds)) : ∃ a xs, x = .ref a ∧ SqT K F a xs ∧ RpAll K F xs ds := by
  cases h with
  | tup h1 h2 => exact ⟨_, _, rfl, h1, h2⟩
theorem rpall_nil {F : Hp} {xs : List V} {ds : List PyData} (h : RpAll K F xs ds) : xs = [] ↔ ds = [] := by
  cases h <;> simp
def rAddD (K : PySem.W.Frag) : R2 := fun x y H Q => rI0 (fun i j => .int (i + j)) x y H Q ∨ (∃ i j, x = .str i ∧ y = .str j ∧ i.length + j.length ≤ sizeLine ∧ Q (.str (i ++ j)) H) ∨ rCat x y H Q ∨ rCatA K x y H Q
theorem op_addD {X : Cx} : OpR X (binaryOp .Add) (rAddD X.K) := op_add.or (op_add_str.or (op_cat.or op_catA))
theorem pure_add : Pure2 K (rAddD K) addD := by
  intro O H x y d e res Q hO rx ry ho q
  unfold addD at ho
  split at ho
  · cases ho; exact .inl ⟨_, _, rp_int rx, rp_int ry, q _ H (Same.refl _) (.int _)⟩
  · split at ho
    · rename_i hz; cases ho; exact .inr (.inl ⟨_, _, rp_str rx, rp_str ry, sz_fits hz, q _ H (Same.refl _) (.str _)⟩)
    · cases ho
  · split at ho
    · rename_i hz
      cases ho
      obtain ⟨a, xs, rfl, h1, h2⟩ := rp_lst rx
      obtain ⟨b, ys, rfl, h3, h4⟩ := rp_lst ry
      refine .inr (.inr (.inl ⟨a, b, xs, ys, rfl, rfl, fz_le _ _ h1, fz_le _ _ h3, by rw [h2.length, h4.length]; exact sz_fits hz, fun p hp => ?_⟩))
      obtain ⟨sm, r⟩ := lst_new hO hp (h2.append h4)
      exact q _ _ sm r
    · cases ho
  · split at ho
    · rename_i hz
      cases ho
      obtain ⟨a, xs, rfl, h1, h2⟩ := rp_tup rx
      obtain ⟨b, ys, rfl, h3, h4⟩ := rp_tup ry
      refine .inr (.inr (.inr ⟨a, b, xs, ys, rfl, rfl, seqT_same fz_le h1, seqT_same fz_le h3, by rw [h2.length, h4.length]; exact sz_fits hz, fun e => ?_, fun _ e => ?_, fun _ _ p hp => ?_⟩))
      · have e' := (rpall_nil h2).mp e
        subst e'
        exact q _ H (Same.refl _) ry
      · have e' := (rpall_nil h4).mp e
        subst e'
        rw [List.append_nil] at q
        exact q _ H (Same.refl _) rx
      · obtain ⟨sm, r⟩ := tup_new hO hp (h2.append h4)
        exact q _ _ sm r
    · cases ho
  · cases ho

/-! ### comparisons -/
def okD (d : PyData) : Bool := d.plain && decide (d.depth ≤ 60)
def eqD (d e : PyData) : Option PyData := if okD d && okD e then some (.bool (PyData.eqv d e)) else none
def neD (d e : PyData) : Option PyData := if okD d && okD e then some (.bool (!PyData.eqv d e)) else none
def rEqP (K : PySem.W.Frag) (f : Bool → Bool) : R2 := fun x y H Q => ∃ d e, Dp K H x d ∧ Dp K H y e ∧ okD d = true ∧ okD e = true ∧ Q (.bl (f (PyData.eqv d e))) H
theorem okD_plain {d : PyData} (h : okD d = true) : d.plain = true := ((Bool.and_eq_true _ _).mp h).1
theorem okD_depth {d : PyData} (h : okD d = true) : d.depth ≤ 60 := of_decide_eq_true ((Bool.and_eq_true _ _).mp h).2
theorem op_eqP {X : Cx} (hu : X.A.units + 64 < cLine) : OpR X (compareOp .Eq) (rEqP X.K id) := by
  intro pins s σ H x y v u Q I rx ry h
  obtain ⟨d, e, hd, he, sd, se, q⟩ := h
  obtain ⟨as, r1⟩ := Dp.reads I d x v hd rx
  obtain ⟨bs, r2⟩ := Dp.reads I e y u he ry
  have z := okD_depth sd
  exact SeqAt.eq_plain r1 r2 (okD_plain sd) (okD_plain se) (by omega) ⟨.bl _, H, I, rfl, q⟩
theorem op_neP {X : Cx} (hu : X.A.units + 64 < cLine) : OpR X (compareOp .NotEq) (rEqP X.K not) := by
  intro pins s σ H x y v u Q I rx ry h
  obtain ⟨d, e, hd, he, sd, se, q⟩ := h
  obtain ⟨as, r1⟩ := Dp.reads I d x v hd rx
  obtain ⟨bs, r2⟩ := Dp.reads I e y u he ry
  have z := okD_depth sd
  exact SeqAt.ne_plain r1 r2 (okD_plain sd) (okD_plain se) (by omega) ⟨.bl _, H, I, rfl, q⟩
theorem dpOf {O : Addr → Prop} {H : Hp} {x : V} {d : PyData} (r : Rp K (fz O H) x d) : Dp K H x d := Rp.dp d (r.mono fz_le)
theorem pure_eq : Pure2 K (rEqP K id) eqD := by
  intro O H x y d e res Q hO rx ry ho q
  unfold eqD at ho
  split at ho
  · rename_i hz
    cases ho
    obtain ⟨z1, z2⟩ := (Bool.and_eq_true _ _).mp hz
    exact ⟨d, e, dpOf rx, dpOf ry, z1, z2, q _ H (Same.refl _) (.bl _)⟩
  · cases ho
theorem pure_ne : Pure2 K (rEqP K not) neD := by
  intro O H x y d e res Q hO rx ry ho q
  unfold neD at ho
  split at ho
  · rename_i hz
    cases ho
    obtain ⟨z1, z2⟩ := (Bool.and_eq_true _ _).mp hz
    exact ⟨d, e, dpOf rx, dpOf ry, z1, z2, q _ H (Same.refl _) (.bl _)⟩
  · cases ho
def ltD : PyData → PyData → Option PyData
  | .int i, .int j => some (.bool (decide (i < j)))
  | _, _ => none
def leD : PyData → PyData → Option PyData
  | .int i, .int j => some (.bool (decide (i ≤ j)))
  | _, _ => none
def gtD : PyData → PyData → Option PyData
  | .int i, .int j => some (.bool (decide (j < i)))
  | _, _ => none
def geD : PyData → PyData → Option PyData
  | .int i, .int j => some (.bool (decide (j ≤ i)))
  | _, _ => none
theorem pure_lt : Pure2 K (rI0 fun i j => .bl (decide (i < j))) ltD := pure_ib0 fun d e res h => by
  unfold ltD at h
  split at h
  · cases h; exact ⟨_, _, rfl, rfl, rfl⟩
  · cases h
theorem pure_le : Pure2 K (rI0 fun i j => .bl (decide (i ≤ j))) leD := pure_ib0 fun d e res h => by
  unfold leD at h
  split at h
  · cases h; exact ⟨_, _, rfl, rfl, rfl⟩
  · cases h
theorem pure_gt : Pure2 K (rI0 fun i j => .bl (decide (j < i))) gtD := pure_ib0 fun d e res h => by
  unfold gtD at h
  split at h
  · cases h; exact ⟨_, _, rfl, rfl, rfl⟩
  · cases h
theorem pure_ge : Pure2 K (rI0 fun i j => .bl (decide (j ≤ i))) geD := pure_ib0 fun d e res h => by
  unfold geD at h
  split at h
  · cases h; exact ⟨_, _, rfl, rfl, rfl⟩
  · cases h
theorem le_bool {d e res : PyData} (h : leD d e = some res) : ∃ k, res = .bool k := by
  unfold leD at h
  split at h
  · cases h; exact ⟨_, rfl⟩
  · cases h
theorem lt_bool {d e res : PyData} (h : ltD d e = some res) : ∃ k, res = .bool k := by
  unfold ltD at h
  split at h
  · cases h; exact ⟨_, rfl⟩
  · cases h
def isNoneD : PyData → Bool
  | .none => true
  | _ => false
def isD (d e : PyData) : Option PyData := if isNoneD e then some (.bool (isNoneD d)) else none
def isntD (d e : PyData) : Option PyData := if isNoneD e then some (.bool (!isNoneD d)) else none
theorem isNone_rp {F : Hp} {x : V} {d : PyData} (r : Rp K F x d) : decide (x = .non) = isNoneD d := by
  cases r <;> simp [isNoneD]
theorem isNone_eq {d : PyData} (h : isNoneD d = true) : d = .none := by
  cases d <;> simp [isNoneD] at h ⊢
theorem pure_is : Pure2 K (fun x y H Q => y = .non ∧ Q (.bl (decide (x = .non))) H) isD := by
  intro O H x y d e res Q hO rx ry ho q
  unfold isD at ho
  split at ho
  · rename_i hz
    cases ho
    have e' := isNone_eq hz
    subst e'
    cases ry
    exact ⟨rfl, by rw [isNone_rp rx]; exact q _ H (Same.refl _) (.bl _)⟩
  · cases ho
theorem pure_isnt : Pure2 K (fun x y H Q => y = .non ∧ Q (.bl (!decide (x = .non))) H) isntD := by
  intro O H x y d e res Q hO rx ry ho q
  unfold isntD at ho
  split at ho
  · rename_i hz
    cases ho
    have e' := isNone_eq hz
    subst e'
    cases ry
    exact ⟨rfl, by rw [isNone_rp rx]; exact q _ H (Same.refl _) (.bl _)⟩
  · cases ho
/-! in, not in -/
def inSeq (f : Bool → Bool) (d : PyData) (es : List PyData) : Option PyData := if okD d && PyData.plainAll es then some (.bool (f (es.any fun y => PyData.eqv y d))) else none
def inD (f : Bool → Bool) (d e : PyData) : Option PyData := match e with
  | .list es => inSeq f d es
  | .tuple es => inSeq f d es
  | .str z => match d with
    | .str i => some (.bool (f (!(Builtin.Str.occurrences z i 0 z.length 1).isEmpty)))
    | _ => none
  | _ => none
def rInP (K : PySem.W.Frag) (f : Bool → Bool) : R2 := fun x y H Q => ∃ d es, Dp K H x d ∧ (Dp K H y (.list es) ∨ Dp K H y (.tuple es)) ∧ okD d = true ∧ PyData.plainAll es = true ∧ Q (.bl (f (es.any fun z => PyData.eqv z d))) H
theorem op_inP {X : Cx} (hu : X.A.units + 64 < cLine) : OpR X (compareOp .In) (rInP X.K id) := by
  intro pins s σ H x y v u Q I rx ry h
  obtain ⟨d, es, hd, he, sd, se, q⟩ := h
  obtain ⟨as, r1⟩ := Dp.reads I d x v hd rx
  have z := okD_depth sd
  rcases he with he | he
  · obtain ⟨bs, r2⟩ := Dp.reads I _ y u he ry
    exact SeqAt.in_list_data r2 r1 se (okD_plain sd) (by omega) ⟨.bl _, H, I, rfl, q⟩
  · obtain ⟨bs, r2⟩ := Dp.reads I _ y u he ry
    exact SeqAt.in_tuple_data r2 r1 se (okD_plain sd) (by omega) ⟨.bl _, H, I, rfl, q⟩
theorem op_notinP {X : Cx} (hu : X.A.units + 64 < cLine) : OpR X (compareOp .NotIn) (rInP X.K not) := by
  intro pins s σ H x y v u Q I rx ry h
  obtain ⟨d, es, hd, he, sd, se, q⟩ := h
  obtain ⟨as, r1⟩ := Dp.reads I d x v hd rx
  have z := okD_depth sd
  rcases he with he | he
  · obtain ⟨bs, r2⟩ := Dp.reads I _ y u he ry
    exact SeqAt.notIn_list_data r2 r1 se (okD_plain sd) (by omega) ⟨.bl _, H, I, rfl, q⟩
  · obtain ⟨bs, r2⟩ := Dp.reads I _ y u he ry
    exact SeqAt.notIn_tuple_data r2 r1 se (okD_plain sd) (by omega) ⟨.bl _, H, I, rfl, q⟩
def rInA (K : PySem.W.Frag) : R2 := fun x y H Q => rInP K id x y H Q ∨ ∃ i j, x = .str i ∧ y = .str j ∧ Q (.bl (!(Builtin.Str.occurrences j i 0 j.length 1).isEmpty)) H
def rNotInA (K : PySem.W.Frag) : R2 := fun x y H Q => rInP K not x y H Q ∨ ∃ i j, x = .str i ∧ y = .str j ∧ Q (.bl (!(!(Builtin.Str.occurrences j i 0 j.length 1).isEmpty))) H
theorem op_inA {X : Cx} (hu : X.A.units + 64 < cLine) : OpR X (compareOp .In) (rInA X.K) := (op_inP hu).or op_in_str
theorem op_notinA {X : Cx} (hu : X.A.units + 64 < cLine) : OpR X (compareOp .NotIn) (rNotInA X.K) := (op_notinP hu).or op_notin_str
theorem pure_in : Pure2 K (rInA K) (inD id) := by
  intro O H x y d e res Q hO rx ry ho q
  unfold inD at ho
  split at ho
  · unfold inSeq at ho
    split at ho
    · rename_i hz
      cases ho
      obtain ⟨z1, z2⟩ := (Bool.and_eq_true _ _).mp hz
      exact .inl ⟨d, _, dpOf rx, .inl (dpOf ry), z1, z2, q _ H (Same.refl _) (.bl _)⟩
    · cases ho
  · unfold inSeq at ho
    split at ho
    · rename_i hz
      cases ho
      obtain ⟨z1, z2⟩ := (Bool.and_eq_true _ _).mp hz
      exact .inl ⟨d, _, dpOf rx, .inr (dpOf ry), z1, z2, q _ H (Same.refl _) (.bl _)⟩
    · cases ho
  · split at ho
    · cases ho
      exact .inr ⟨_, _, rp_str rx, rp_str ry, q _ H (Same.refl _) (.bl _)⟩
    · cases ho
  · cases ho
theorem pure_notin : Pure2 K (rNotInA K) (inD not) := by
  intro O H x y d e res Q hO rx ry ho q
  unfold inD at ho
  split at ho
  · unfold inSeq at ho
    split at ho
    · rename_i hz
      cases ho
      obtain ⟨z1, z2⟩ := (Bool.and_eq_true _ _).mp hz
      exact .inl ⟨d, _, dpOf rx, .inl (dpOf ry), z1, z2, q _ H (Same.refl _) (.bl _)⟩
    · cases ho
  · unfold inSeq at ho
    split at ho
    · rename_i hz
      cases ho
      obtain ⟨z1, z2⟩ := (Bool.and_eq_true _ _).mp hz
      exact .inl ⟨d, _, dpOf rx, .inr (dpOf ry), z1, z2, q _ H (Same.refl _) (.bl _)⟩
    · cases ho
  · split at ho
    · cases ho
      exact .inr ⟨_, _, rp_str rx, rp_str ry, q _ H (Same.refl _) (.bl _)⟩
    · cases ho
  · cases ho

/-! ### subscripts and slices -/
def ixD (d e : PyData) : Option PyData := match d, e with
  | .list ds, .int i => atI ds i
  | .tuple ds, .int i => atI ds i
  | .str z, .int i => if fits z.length then (atI z.cps.toList i).map fun c => .str ⟨#[c]⟩ else none
  | _, _ => none
theorem rpall_at {F : Hp} {xs : List V} {ds : List PyData} {i : Int} {d : PyData} (h : RpAll K F xs ds) (e : atI ds i = some d) : ∃ v, atI xs i = some v ∧ Rp K F v d := by
  unfold atI at e ⊢
  rw [h.length]
  cases z : ixN ds.length i with
  | none => rw [z] at e; cases e
  | some j =>
    rw [z] at e
    exact h.get e
theorem pure_ix : Pure2 K (rIx K) ixD := by
  intro O H x y d e res Q hO rx ry ho q
  unfold ixD at ho
  split at ho
  · obtain ⟨a, xs, rfl, h1, h2⟩ := rp_lst rx
    obtain ⟨v, e1, r⟩ := rpall_at h2 ho
    exact .inl ⟨a, xs, _, v, rfl, rp_int ry, SqL.of (fz_le _ _ h1), e1, q _ H (Same.refl _) r⟩
  · obtain ⟨a, xs, rfl, h1, h2⟩ := rp_tup rx
    obtain ⟨v, e1, r⟩ := rpall_at h2 ho
    exact .inr (.inl ⟨a, xs, _, v, rfl, rp_int ry, seqT_same fz_le h1, e1, q _ H (Same.refl _) r⟩)
  · split at ho
    · rename_i z i hz
      cases e1 : atI z.cps.toList i with
      | none => rw [e1] at ho; cases ho
      | some c =>
        rw [e1] at ho
        cases ho
        exact .inr (.inr ⟨z, i, c, rp_str rx, rp_int ry, sz_fits hz, e1, q _ H (Same.refl _) (.str _)⟩)
    · cases ho
  · cases ho
def cutD (ds : List PyData) (lo hi : Option Int) : List PyData := (ds.drop (HT.sIx ds.length 0 lo)).take (HT.sIx ds.length ds.length hi - HT.sIx ds.length 0 lo)
def slD (d : PyData) (lo hi : Option Int) : Option PyData := match d with
  | .list ds => some (.list (cutD ds lo hi))
  | .tuple ds => some (.tuple (cutD ds lo hi))
  | .str z => if fits z.length then some (.str (cutS z lo hi)) else none
  | _ => none
theorem rpall_cut {F : Hp} {xs : List V} {ds : List PyData} {lo hi : Option Int} (h : RpAll K F xs ds) : RpAll K F (cutV xs lo hi) (cutD ds lo hi) := by
  unfold cutV cutD
  rw [h.length]
  exact (h.drop _).take _
def rSlD (K : PySem.W.Frag) : V → Option Int → Option Int → Hp → VK → Prop := fun x lo hi H Q => rSlL K x lo hi H Q ∨ rSlA K x lo hi H Q ∨ rSlS x lo hi H Q
theorem sl_any {X : Cx} : SlR X (rSlD X.K) := sl_list.or (sl_tupA.or sl_str)
theorem pure_sl {O : Addr → Prop} {H : Hp} {x : V} {d res : PyData} {lo hi : Option Int} {Q : VK} (hO : ∀ b, O b → ∃ o, H b = some o) (rx : Rp K (fz O H) x d) (ho : slD d lo hi = some res) (q : ∀ v H', Same H H' → Rp K (fz O H') v res → Q v H') : rSlD K x lo hi H Q := by
  unfold slD at ho
  split at ho
  · cases ho
    obtain ⟨a, xs, rfl, h1, h2⟩ := rp_lst rx
    refine .inl ⟨a, xs, rfl, SqL.of (fz_le _ _ h1), fun p hp => ?_⟩
    obtain ⟨sm, r⟩ := lst_new hO hp (rpall_cut (lo := lo) (hi := hi) h2)
    exact q _ _ sm r
  · cases ho
    obtain ⟨a, xs, rfl, h1, h2⟩ := rp_tup rx
    refine .inr (.inl ⟨a, xs, rfl, seqT_same fz_le h1, fun w => ?_, fun _ p hp => ?_⟩)
    · refine q _ H (Same.refl _) ?_
      rename_i ds
      have e : cutD ds lo hi = ds := by
        unfold cutD
        rw [h2.length] at w
        rw [w.1, w.2]
        simp
      rw [e]
      exact rx
    · obtain ⟨sm, r⟩ := tup_new hO hp (rpall_cut (lo := lo) (hi := hi) h2)
      exact q _ _ sm r
  · split at ho
    · rename_i hz
      cases ho
      exact .inr (.inr ⟨_, rp_str rx, sz_fits hz, q _ H (Same.refl _) (.str _)⟩)
    · cases ho
  · cases ho
end
/-- a slice's part -/
abbrev MO := R → Oc (Option Int)
def mPn : MO := fun ρ => .ok none ρ
def mPs (f : ME) : MO := fun ρ => (f ρ).bind fun d ρ1 => match d with
  | .int i => .ok (some i) ρ1
  | _ => .no
def rdO (K : PySem.W.Frag) (T : VT) (W : WX) (f : MO) : TO := fun σ H Q => ∃ hid B ρ, SR K T hid B H σ ρ ∧ Res K T W hid B σ ρ H (f ρ) fun o ρ' H' => Q o H'
theorem _root_.L2.PO.weak {X : Cx} {e : Option Expr} {t t' : TO} (h : PO X e t) (w : ∀ σ H Q, t' σ H Q → t σ H Q) : PO X e t' := ⟨fun pins s σ H Q I q => h.run pins s σ H Q I (w σ H Q q)⟩
abbrev XO (X : Cx) (T : VT) (W : WX) (e : Option Expr) (f : MO) : Prop := PO X e (rdO X.K T W f)
def mSl (f : ME) (lo hi : MO) : ME := fun ρ => (f ρ).bind fun d ρ1 => (lo ρ1).bind fun l ρ2 => (hi ρ2).bind fun h ρ3 => Oc.opt (slD d l h) ρ3
section
variable {X : Cx} {T : VT} {W : WX} {pos p2 : Pos} {e a b : Expr} {lo hi : Option Expr} {f g : ME} {ml mh : MO}
theorem opn : XO X T W none mPn := po_none.weak fun σ H Q ⟨hid, B, ρ, S, q⟩ => Res.here S q
theorem ops (h : XE X T W e f) : XO X T W (some e) (mPs f) := (po_some h).weak fun σ H Q ⟨hid, B, ρ, S, q⟩ => ⟨hid, B, ρ, S, (Res.bind q).imp fun d ρ1 H1 S1 E1 q1 x rx => by
  cases d with
  | int i => exact ⟨i, rp_int rx, Res.here S1 q1⟩
  | _ => exact q1.elim⟩
theorem xsl (he : XE X T W e f) (hl : XO X T W lo ml) (hu : XO X T W hi mh) : XE X T W (.Subscript e (.Slice lo hi none p2) pos) (mSl f ml mh) :=
  (pe_slice sl_any he hl hu).weak fun σ H Q ⟨hid, B, ρ, S, q⟩ => ⟨hid, B, ρ, S, (Res.bind q).imp fun d ρ1 H1 S1 E1 q1 x rx => ⟨hid, B, ρ1, S1, (Res.bind q1).imp fun l ρ2 H2 S2 E2 q2 => ⟨hid, B, ρ2, S2, (Res.bind q2).imp fun h ρ3 H3 S3 E3 q3 => by
    obtain ⟨res, hr, q4⟩ := Res.opt S3 q3
    exact pure_sl S3.dom (rx.mono (E2.trans E3).same) hr fun v H' sm rv => q4 H' sm v rv⟩⟩⟩
theorem xix (ha : XE X T W a f) (hb : XE X T W b g) (hs : PlainIx b := by exact fun _ _ => rfl) : XE X T W (.Subscript a b pos) (m2 ixD f g) :=
  (pe_ix ix_seq ha hb hs).weak fun σ H Q q => rd2 pure_ix q
end
end VL

set_option Elab.async false
set_option linter.all false
set_option maxRecDepth 100000
set_option maxHeartbeats 4000000
/-! V7: built-ins over data, raising, own lists read and changed, the script. -/
namespace VL
open PySem PySem.Spec PyProof.Rows L2
section
variable {K : PySem.W.Frag}
/-! ### len, all, any, abs, max, min, int, sums -/
def lenD : List PyData → Option PyData
  | [.str z] => if fits z.length then some (.int (z.length : Nat)) else none
  | [.list ds] => some (.int (ds.length : Nat))
  | [.tuple ds] => some (.int (ds.length : Nat))
  | _ => none
theorem rp1 {F : Hp} {xs : List V} {d : PyData} (h : RpAll K F xs [d]) : ∃ x, xs = [x] ∧ Rp K F x d := by
  cases h with
  | cons r t => cases t; exact ⟨_, rfl, r⟩
theorem rp2 {F : Hp} {xs : List V} {d e : PyData} (h : RpAll K F xs [d, e]) : ∃ x y, xs = [x, y] ∧ Rp K F x d ∧ Rp K F y e := by
  cases h with
  | cons r t =>
    obtain ⟨y, rfl, r2⟩ := rp1 t
    exact ⟨_, y, rfl, r, r2⟩
theorem pure_len : PureN K (fun xs H Q => ∃ x n, xs = [x] ∧ LenV K x H n ∧ Q (.int n) H) lenD := by
  intro O H xs ds res Q hO rx ho q
  unfold lenD at ho
  split at ho
  · split at ho
    · rename_i hz
      cases ho
      obtain ⟨x, rfl, r⟩ := rp1 rx
      cases rp_str r
      exact ⟨_, _, rfl, ⟨sz_fits hz, rfl⟩, q _ H (Same.refl _) (.int _)⟩
    · cases ho
  · cases ho
    obtain ⟨x, rfl, r⟩ := rp1 rx
    obtain ⟨a, ys, rfl, h1, h2⟩ := rp_lst r
    exact ⟨_, _, rfl, .inl ⟨ys, SqL.of (fz_le _ _ h1), rfl⟩, by rw [h2.length]; exact q _ H (Same.refl _) (.int _)⟩
  · cases ho
    obtain ⟨x, rfl, r⟩ := rp1 rx
    obtain ⟨a, ys, rfl, h1, h2⟩ := rp_tup r
    exact ⟨_, _, rfl, .inr ⟨ys, seqT_same fz_le h1, rfl⟩, by rw [h2.length]; exact q _ H (Same.refl _) (.int _)⟩
  · cases ho
def boolsD : List PyData → Option (List Bool)
  | [] => some []
  | .bool b :: ds => (boolsD ds).map (b :: ·)
  | _ => none
def intsD : List PyData → Option (List Int)
  | [] => some []
  | .int b :: ds => (intsD ds).map (b :: ·)
  | _ => none
def strsD : List PyData → Option (List Str)
  | [] => some []
  | .str b :: ds => (strsD ds).map (b :: ·)
  | _ => none
theorem boolsD_of : ∀ {ds : List PyData} {bs : List Bool}, boolsD ds = some bs → ds = bs.map PyData.bool
  | [], bs, h => by cases h; rfl
  | d :: ds, bs, h => by
    cases d with
    | bool b =>
      cases e : boolsD ds with
      | none => simp [boolsD, e] at h
      | some cs => simp [boolsD, e] at h; subst h; rw [boolsD_of e]; rfl
    | _ => cases h
theorem intsD_of : ∀ {ds : List PyData} {bs : List Int}, intsD ds = some bs → ds = bs.map PyData.int
  | [], bs, h => by cases h; rfl
  | d :: ds, bs, h => by
    cases d with
    | int b =>
      cases e : intsD ds with
      | none => simp [intsD, e] at h
      | some cs => simp [intsD, e] at h; subst h; rw [intsD_of e]; rfl
    | _ => cases h
theorem strsD_of : ∀ {ds : List PyData} {bs : List Str}, strsD ds = some bs → ds = bs.map PyData.str
  | [], bs, h => by cases h; rfl
  | d :: ds, bs, h => by
    cases d with
    | str b =>
      cases e : strsD ds with
      | none => simp [strsD, e] at h
      | some cs => simp [strsD, e] at h; subst h; rw [strsD_of e]; rfl
    | _ => cases h
theorem rp_bools {F : Hp} : ∀ {bs : List Bool} {xs : List V}, RpAll K F xs (bs.map PyData.bool) → xs = bs.map V.bl
  | [], _, h => by cases h; rfl
  | b :: bs, _, h => by
    cases h with
    | cons r t => rw [rp_bl r, rp_bools t]; rfl
theorem rp_ints {F : Hp} : ∀ {bs : List Int} {xs : List V}, RpAll K F xs (bs.map PyData.int) → xs = bs.map V.int
  | [], _, h => by cases h; rfl
  | b :: bs, _, h => by
    cases h with
    | cons r t => rw [rp_int r, rp_ints t]; rfl
theorem rp_strs {F : Hp} : ∀ {bs : List Str} {xs : List V}, RpAll K F xs (bs.map PyData.str) → xs = bs.map V.str
  | [], _, h => by cases h; rfl
  | b :: bs, _, h => by
    cases h with
    | cons r t => rw [rp_str r, rp_strs t]; rfl
def allD : List PyData → Option PyData
  | [.list ds] => (boolsD ds).map fun bs => .bool (bs.all id)
  | _ => none
def anyD : List PyData → Option PyData
  | [.list ds] => (boolsD ds).map fun bs => .bool (bs.any id)
  | _ => none
theorem pure_all : PureN K (rAll K) allD := by
  intro O H xs ds res Q hO rx ho q
  unfold allD at ho
  split at ho
  · rename_i ds
    cases e : boolsD ds with
    | none => rw [e] at ho; cases ho
    | some bs =>
      rw [e] at ho
      cases ho
      obtain ⟨x, rfl, r⟩ := rp1 rx
      obtain ⟨a, ys, rfl, h1, h2⟩ := rp_lst r
      rw [boolsD_of e] at h2
      rw [rp_bools h2] at h1
      exact ⟨a, bs, rfl, SqL.of (fz_le _ _ h1), q _ H (Same.refl _) (.bl _)⟩
  · cases ho
theorem pure_any : PureN K (rAny K) anyD := by
  intro O H xs ds res Q hO rx ho q
  unfold anyD at ho
  split at ho
  · rename_i ds
    cases e : boolsD ds with
    | none => rw [e] at ho; cases ho
    | some bs =>
      rw [e] at ho
      cases ho
      obtain ⟨x, rfl, r⟩ := rp1 rx
      obtain ⟨a, ys, rfl, h1, h2⟩ := rp_lst r
      rw [boolsD_of e] at h2
      rw [rp_bools h2] at h1
      exact ⟨a, bs, rfl, SqL.of (fz_le _ _ h1), q _ H (Same.refl _) (.bl _)⟩
  · cases ho
def absD : List PyData → Option PyData
  | [.int i] => some (.int (if i < 0 then -i else i))
  | _ => none
theorem pure_abs : PureN K (fun xs H Q => ∃ i, xs = [.int i] ∧ Q (.int (if i < 0 then -i else i)) H) absD := by
  intro O H xs ds res Q hO rx ho q
  unfold absD at ho
  split at ho
  · cases ho
    obtain ⟨x, rfl, r⟩ := rp1 rx
    exact ⟨_, by rw [rp_int r], q _ H (Same.refl _) (.int _)⟩
  · cases ho
def max2D : List PyData → Option PyData
  | [.int i, .int j] => some (.int (if j > i then j else i))
  | _ => none
def min2D : List PyData → Option PyData
  | [.int i, .int j] => some (.int (if j < i then j else i))
  | _ => none
theorem pure_max2 : PureN K (fun xs H Q => ∃ i j, xs = [.int i, .int j] ∧ Q (.int (if j > i then j else i)) H) max2D := by
  intro O H xs ds res Q hO rx ho q
  unfold max2D at ho
  split at ho
  · cases ho
    obtain ⟨x, y, rfl, r, r2⟩ := rp2 rx
    exact ⟨_, _, by rw [rp_int r, rp_int r2], q _ H (Same.refl _) (.int _)⟩
  · cases ho
theorem pure_min2 : PureN K (fun xs H Q => ∃ i j, xs = [.int i, .int j] ∧ Q (.int (if j < i then j else i)) H) min2D := by
  intro O H xs ds res Q hO rx ho q
  unfold min2D at ho
  split at ho
  · cases ho
    obtain ⟨x, y, rfl, r, r2⟩ := rp2 rx
    exact ⟨_, _, by rw [rp_int r, rp_int r2], q _ H (Same.refl _) (.int _)⟩
  · cases ho
def int1D : List PyData → Option PyData
  | [.int i] => some (.int i)
  | [.bool b] => some (.int (if b then 1 else 0))
  | _ => none
theorem pure_int1 : PureN K (fun xs H Q => (∃ i, xs = [.int i] ∧ Q (.int i) H) ∨ ∃ k, xs = [.bl k] ∧ Q (.int (if k then 1 else 0)) H) int1D := by
  intro O H xs ds res Q hO rx ho q
  unfold int1D at ho
  split at ho
  · cases ho
    obtain ⟨x, rfl, r⟩ := rp1 rx
    exact .inl ⟨_, by rw [rp_int r], q _ H (Same.refl _) (.int _)⟩
  · cases ho
    obtain ⟨x, rfl, r⟩ := rp1 rx
    exact .inr ⟨_, by rw [rp_bl r], q _ H (Same.refl _) (.int _)⟩
  · cases ho
def sumD : List PyData → Option PyData
  | [.list ds] => (intsD ds).map fun ns => .int ns.sum
  | _ => none
theorem pure_sum : PureN K (rSum K) sumD := by
  intro O H xs ds res Q hO rx ho q
  unfold sumD at ho
  split at ho
  · rename_i ds
    cases e : intsD ds with
    | none => rw [e] at ho; cases ho
    | some bs =>
      rw [e] at ho
      cases ho
      obtain ⟨x, rfl, r⟩ := rp1 rx
      obtain ⟨a, ys, rfl, h1, h2⟩ := rp_lst r
      rw [intsD_of e] at h2
      rw [rp_ints h2] at h1
      exact ⟨a, bs, rfl, SqL.of (fz_le _ _ h1), q _ H (Same.refl _) (.int _)⟩
  · cases ho
/-! ### tuple(x), list(x) -/
def tupD : List PyData → Option PyData
  | [.list ds] => some (.tuple ds)
  | [.tuple ds] => some (.tuple ds)
  | _ => none
theorem pure_tup : PureN K (fun xs H Q => ∃ p ys, xs = [.ref p] ∧ ((SqL K H p ys ∧ ∀ l, H l = none → Q (.ref l) (L2.upd H l (.tup ys))) ∨ (SqT K H p ys ∧ Q (.ref p) H))) tupD := by
  intro O H xs ds res Q hO rx ho q
  unfold tupD at ho
  split at ho
  · cases ho
    obtain ⟨x, rfl, r⟩ := rp1 rx
    obtain ⟨a, ys, rfl, h1, h2⟩ := rp_lst r
    refine ⟨a, ys, rfl, .inl ⟨SqL.of (fz_le _ _ h1), fun l hl => ?_⟩⟩
    obtain ⟨sm, r⟩ := tup_new hO hl h2
    exact q _ _ sm r
  · cases ho
    obtain ⟨x, rfl, r⟩ := rp1 rx
    obtain ⟨a, ys, rfl, h1, h2⟩ := rp_tup r
    exact ⟨a, ys, rfl, .inr ⟨seqT_same fz_le h1, q _ H (Same.refl _) (.tup h1 h2)⟩⟩
  · cases ho
def listD : List PyData → Option (List PyData)
  | [.list ds] => some ds
  | [.tuple ds] => some ds
  | _ => none
theorem pure_list : PureL K (fun xs H Q => ∃ p ys, xs = [.ref p] ∧ (SqL K H p ys ∨ SqT K H p ys) ∧ ∀ l, H l = none → Q (.ref l) (L2.upd H l (.lst ys))) listD := by
  intro O H xs ds res Q hO rx ho q
  unfold listD at ho
  split at ho
  · cases ho
    obtain ⟨x, rfl, r⟩ := rp1 rx
    obtain ⟨a, ys, rfl, h1, h2⟩ := rp_lst r
    exact ⟨a, ys, rfl, .inl (SqL.of (fz_le _ _ h1)), fun l hl => q H l ys (Same.refl _) hl h2⟩
  · cases ho
    obtain ⟨x, rfl, r⟩ := rp1 rx
    obtain ⟨a, ys, rfl, h1, h2⟩ := rp_tup r
    exact ⟨a, ys, rfl, .inr (seqT_same fz_le h1), fun l hl => q H l ys (Same.refl _) hl h2⟩
  · cases ho
/-! ### isinstance -/
def tyD : PyData → String
  | .none => "NoneType"
  | .bool _ => "bool"
  | .int _ => "int"
  | .str _ => "str"
  | .list _ => "list"
  | .tuple _ => "tuple"
  | .dict _ => "dict"
def isiD (t : String) (d : PyData) : Option PyData := match d with
  | .dict _ => none
  | .bool _ => some (.bool (t == "bool" || t == "int"))
  | d => some (.bool (t == tyD d))
theorem tyx_of {O : Addr → Prop} {H : Hp} {x : V} {d : PyData} (r : Rp K (fz O H) x d) : TyX K H x (.type (tyD d)) := by
  cases r with
  | non => exact .base .non
  | bl b => exact .base (.bl b)
  | int i => exact .base (.int i)
  | str z => exact .base (.str z)
  | lst h1 h2 => exact .base (.lst (fz_le _ _ h1))
  | tup h1 h2 =>
    rcases seqT_same fz_le h1 with (h | ⟨o, h⟩) | ⟨o, its, n, h, hc, _⟩
    · exact .base (.tup h)
    · exact .fTuple h
    · exact .kTuple h hc
end
section
variable {X : Cx} {T : VT} {W : WX} {pos p2 : Pos} {e a b : Expr} {f g : ME}
def okTy (t : String) : Bool := t == "bool" || t == "int" || t == "str" || t == "list" || t == "tuple"
theorem kit_all {t : String} (ht : okTy t = true) : ∀ d : PyData, (∀ kvs, d ≠ .dict kvs) → ∀ res, isiD t d = some res → ∃ b, res = .bool b ∧ PySem.W.kitOne X.K (.type (tyD d)) (.type t) = some b := by
  have hc : t = "bool" ∨ t = "int" ∨ t = "str" ∨ t = "list" ∨ t = "tuple" := by
    unfold okTy at ht
    simpa [Bool.or_eq_true, beq_iff_eq, or_assoc] using ht
  intro d hd res hr
  cases d with
  | none => rcases hc with rfl | rfl | rfl | rfl | rfl <;> cases hr <;> exact ⟨_, rfl, kit_ty (a := "NoneType") (by decide +kernel)⟩
  | bool k => rcases hc with rfl | rfl | rfl | rfl | rfl <;> cases hr <;> exact ⟨_, rfl, kit_ty (a := "bool") (by decide +kernel)⟩
  | int k => rcases hc with rfl | rfl | rfl | rfl | rfl <;> cases hr <;> exact ⟨_, rfl, kit_ty (a := "int") (by first | (show _ = some true; decide +kernel) | (show _ = some false; decide +kernel))⟩
  | str k => rcases hc with rfl | rfl | rfl | rfl | rfl <;> cases hr <;> exact ⟨_, rfl, kit_ty (a := "str") (by first | (show _ = some true; decide +kernel) | (show _ = some false; decide +kernel))⟩
  | list k => rcases hc with rfl | rfl | rfl | rfl | rfl <;> cases hr <;> exact ⟨_, rfl, kit_ty (a := "list") (by first | (show _ = some true; decide +kernel) | (show _ = some false; decide +kernel))⟩
  | tuple k => rcases hc with rfl | rfl | rfl | rfl | rfl <;> cases hr <;> exact ⟨_, rfl, kit_ty (a := "tuple") (by first | (show _ = some true; decide +kernel) | (show _ = some false; decide +kernel))⟩
  | dict k => exact absurd rfl (hd k)
theorem xisi {tn : Str} {t : String} {q1 q2 : Pos} (hg : Gl X "isinstance") (hm : X.mg "isinstance" = none) (hg2 : Gl X tn) (hm2 : X.mg tn = none) (hv : bootBuiltins tn = some (.type t)) (ht : okTy t = true) (ha : XE X T W a f) (hn : tn ≠ "__name__" := by decide) (hdb : (tn == ("__debug__" : Str)) = false := by decide)
    (hs1 : starEach [a, .Name tn q1] X.env = (false, eval a X.env) :: starEach [.Name tn q1] X.env := by rfl) (hs2 : starEach [.Name tn q1] X.env = (false, eval (.Name tn q1) X.env) :: starEach [] X.env := by rfl) (hpl : (backTo pos (starEach [.Name tn q1] X.env)).any (·.1) = false := by rfl) :
    XE X T W (.Call (.Name "isinstance" q2) [a, .Name tn q1] [] pos) (m1 (isiD t) f) :=
  (pe_callB call_isi hg hm (by decide +kernel) (pa_cons ha (pa_cons (pe_bltn (v := .ty t) hg2 hm2 hv rfl hn hdb) pa_nil hs2) hs1) (by decide) (by decide) hs1 hpl).weak fun σ H Q q => by
    refine rd1 (r := fun x H1 Q => rIsi X.K [x, .ty t] H1 Q) ?_ q
    intro O H x d res Q hO rx ho q
    obtain ⟨b, rfl, hk⟩ := kit_all (X := X) ht d (fun kvs z => by subst z; cases ho) res ho
    exact ⟨x, .ty t, _, _, b, rfl, .ty t, tyx_of rx, hk, q _ H (Same.refl _) (.bl _)⟩
/-! ### list(range(..)) -/
def mLR1 (f : ME) : ML := fun ρ => (f ρ).bind fun d ρ1 => match d with
  | .int j => if decide (j.natAbs ≤ 16777216) then .ok (rngD 0 j.toNat) ρ1 else .no
  | _ => .no
theorem rng_rp {K : PySem.W.Frag} {F : Hp} (lo : Int) : ∀ n, RpAll K F ((List.range n).map fun i => V.int (lo + (i : Nat))) (rngD lo n) := fun n => by
  have e1 : ((List.range n).map fun i => V.int (lo + (i : Nat))) = ((List.range n).map fun i => lo + (i : Nat)).map V.int := by rw [List.map_map]; rfl
  have e2 : rngD lo n = ((List.range n).map fun i => lo + ((i : Nat) : Int)).map PyData.int := by unfold rngD; rw [List.map_map]; rfl
  rw [e1, e2]
  exact RpAll.ints
theorem llr1 {p p3 pos3 : Pos} (hc : X.calm = true) (hg : Gl X "list") (hm : X.mg "list" = none) (hg2 : Gl X "range") (hm2 : X.mg "range" = none) (ha : XE X T W a f) (na : starEach [a] X.env = (false, eval a X.env) :: starEach [] X.env := by rfl)
    (na2 : starEach [.Call (.Name "range" p3) [a] [] pos3] X.env = (false, eval (.Call (.Name "range" p3) [a] [] pos3) X.env) :: starEach [] X.env := by rfl) : XL X T W (.Call (.Name "list" p) [.Call (.Name "range" p3) [a] [] pos3] [] pos) (mLR1 f) :=
  (pe_listRg hc hg hm (prg_1 hg2 hm2 ha na) na2).weak fun σ H Q ⟨hid, B, ρ, S, q⟩ => ⟨hid, B, ρ, S, (Res.bind q).imp fun d ρ1 H1 S1 E1 q1 x rx => by
    cases d with
    | int j =>
      by_cases hz : decide (j.natAbs ≤ 16777216) = true
      · simp only [hz, if_true] at q1
        have hj := of_decide_eq_true hz
        refine ⟨j, rp_int rx, ⟨by omega, by omega, by omega, by omega, by omega⟩, fun p hp => ?_⟩
        refine Res.here S1 q1 p (rgV 0 j) hp ?_
        have z := rng_rp (K := X.K) (F := Fz hid σ ρ1 H1) 0 j.toNat
        unfold rgV
        simpa using z
      · simp only [hz] at q1
        exact q1.elim
    | _ => exact q1.elim⟩
/-! ### raise -/
theorem sraise (c : Nat) {B : String} {newId initId : String} {bmB : List Value} {C : Addr} {x m : Str} {j : Nat} {p q : Pos} {pos2 : Pos} (hc : X.calm = true) (tk : Takes X W) (F : ExcBaseFacts B newId initId bmB) (hq : PySem.W.excIn X.K C bmB newId = true) (gC : X.mg x = some (.ref C)) (kC : PySem.W.keepIn X.K (.ref C) = true) (r : Raises X (.ref C)) (hg : Gl X x) (hC : C = T.ea c)
    (hdb : (x == ("__debug__" : Str)) = false := by decide) : XS X T W (.Raise (some (.Call (.Name x p) [.Constant (.str m) j q] [] pos2)) none pos) (mRaise c) :=
  (ps_raise hc tk (pmk_own F hq gC kC r hg hdb)).weak fun D σ H ⟨hid, B, ρ, S, q⟩ => by
    subst hC
    exact q σ H S Ext.refl
/-! ### own lists -/
/-- held i: the own list in slot i as it stands -/
def heldR (ρ : R) (i : Nat) : Option (List PyData) := match ρ[i]? with
  | some (.own ds) => some ds
  | some (.bor ds) => some ds
  | _ => none
def setR (ρ : R) (i : Nat) (ds : List PyData) : R := match ρ[i]? with
  | some (.own _) => ρ.set i (.own ds)
  | some (.bor _) => ρ.set i (.bor ds)
  | _ => ρ
theorem SR.of_heldR {K : PySem.W.Frag} {T : VT} {hid : Addr → Prop} {B σ : L2.St} {ρ : R} {H : Hp} (S : SR K T hid B H σ ρ) {i : Nat} {ds : List PyData} (h : heldR ρ i = some ds) :
    ∃ a xs, σ[i]? = some (some (.ref a)) ∧ H a = some (.lst xs) ∧ RpAll K (Fz hid σ ρ H) xs ds ∧ ∀ ys es, RpAll K (Fz hid σ ρ H) ys es → SR K T hid B (L2.upd H a (.lst ys)) σ (setR ρ i es) ∧ Ext hid σ ρ H σ (setR ρ i es) (L2.upd H a (.lst ys)) := by
  have key : ∃ s, ρ[i]? = some s ∧ s.held = some ds := by
    unfold VL.heldR at h
    split at h
    · rename_i e; cases h; exact ⟨_, e, rfl⟩
    · rename_i e; cases h; exact ⟨_, e, rfl⟩
    · cases h
  obtain ⟨s, e, hs⟩ := key
  obtain ⟨a, xs, e1, ho, h1, h2⟩ := S.own_of e hs
  refine ⟨a, xs, e1, h1, h2, fun ys es hr => ?_⟩
  cases s with
  | own ds' =>
    have es' : setR ρ i es = ρ.set i (.own es) := by unfold setR; rw [e]
    rw [es']
    exact S.upd e rfl ho hr
  | bor ds' =>
    have es' : setR ρ i es = ρ.set i (.bor es) := by unfold setR; rw [e]
    rw [es']
    exact S.upd e rfl ho hr
  | _ => cases hs
def mLenO (i : Nat) : ME := fun ρ => match heldR ρ i with
  | some ds => .ok (.int (ds.length : Nat)) ρ
  | none => .no
theorem xlenO (i : Nat) {x : Str} {p q : Pos} (hg : Gl X "len") (hm : X.mg "len" = none) (hN : X.N[i]? = some x := by rfl) (hv : Vis X.env.scope x := by first | exact Or.inl rfl | exact Or.inr (Or.inl rfl) | exact Or.inr (Or.inr rfl)) (hd : (x == ("__debug__" : Str)) = false := by decide)
    (hcd : (x == ("__classdict__" : Str)) = false := by decide) (he : starEach [.Name x p] X.env = (false, eval (.Name x p) X.env) :: starEach [] X.env := by rfl) (hpl : (backTo pos (starEach [] X.env)).any (·.1) = false := by rfl) :
    XE X T W (.Call (.Name "len" q) [.Name x p] [] pos) (mLenO i) :=
  (pe_callB call_len_seq hg hm PySem.boot_len (pa_cons (pe_var hN hv hd hcd) pa_nil he) (by decide) (by decide) he hpl).weak fun σ H Q ⟨hid, B, ρ, S, q⟩ => by
    unfold mLenO at q
    cases h : heldR ρ i with
    | none => rw [h] at q; exact q.elim
    | some ds =>
      rw [h] at q
      obtain ⟨a, xs, e1, h1, h2, _⟩ := S.of_heldR h
      exact ⟨_, e1, a, xs, rfl, .inl (SqL.of h1), by rw [h2.length]; exact Res.here S q _ (.int _)⟩
def mIxO (i : Nat) (g : ME) : ME := fun ρ => match heldR ρ i with
  | none => .no
  | some _ => (g ρ).bind fun d ρ1 => match d with
    | .int k => match heldR ρ1 i with
      | some ds => Oc.opt (atI ds k) ρ1
      | none => .no
    | _ => .no
theorem xixO (i : Nat) {x : Str} {p : Pos} (hb : XE X T W b g) (hs : PlainIx b := by exact fun _ _ => rfl) (hN : X.N[i]? = some x := by rfl) (hv : Vis X.env.scope x := by first | exact Or.inl rfl | exact Or.inr (Or.inl rfl) | exact Or.inr (Or.inr rfl)) (hd : (x == ("__debug__" : Str)) = false := by decide)
    (hcd : (x == ("__classdict__" : Str)) = false := by decide) : XE X T W (.Subscript (.Name x p) b pos) (mIxO i g) :=
  (pe_ix ix_list (pe_var hN hv hd hcd) hb hs).weak fun σ H Q ⟨hid, B, ρ, S, q⟩ => by
    unfold mIxO at q
    cases h0 : heldR ρ i with
    | none => rw [h0] at q; exact q.elim
    | some ds0 =>
      rw [h0] at q
      obtain ⟨a, xs0, e1, _, _, _⟩ := S.of_heldR h0
      refine ⟨_, e1, hid, B, ρ, S, (Res.bind q).imp fun d ρ1 H1 S1 E1 q1 y ry => ?_⟩
      cases d with
      | int k =>
        cases h : heldR ρ1 i with
        | none => simp only [h] at q1; exact q1.elim
        | some ds =>
          simp only [h] at q1
          obtain ⟨a', xs, e2, h1, h2, _⟩ := S1.of_heldR h
          rw [e1] at e2
          cases e2
          obtain ⟨r, hr, q2⟩ := Res.opt S1 q1
          obtain ⟨v, e3, rv⟩ := rpall_at h2 hr
          exact ⟨a, xs, k, v, rfl, rp_int ry, SqL.of h1, e3, q2 H1 (Same.refl _) v rv⟩
      | _ => exact q1.elim
/-- a list's method that changes it, one argument -/
theorem rdMut (i : Nat) {r : V → List V → Hp → VK → Prop} {op : List PyData → PyData → Option (List PyData)} {σ : L2.St} {H : Hp} {D : Ends}
    (hr : ∀ (F H : Hp) (a : Addr) (xs : List V) (ds es : List PyData) (x : V) (d : PyData) (Q : VK), H a = some (.lst xs) → RpAll X.K F xs ds → Rp X.K F x d → Same F H → op ds d = some es → (∀ ys, RpAll X.K F ys es → Q .non (L2.upd H a (.lst ys))) → r (.ref a) [x] H Q)
    (q : rdS X.K T W (fun ρ => match heldR ρ i with
      | none => .no
      | some _ => (f ρ).bind fun d ρ1 => match heldR ρ1 i with
        | none => .no
        | some ds => match op ds d with
          | some es => .ok .nx (setR ρ1 i es)
          | none => .no) D σ H) : tDrop (tBM X.K "list" r (tVar i) (tCons (rdE X.K T W f) tNil)) D σ H := by
  obtain ⟨hid, B, ρ, S, q⟩ := q
  cases h0 : heldR ρ i with
  | none => simp only [h0] at q; exact q.elim
  | some ds0 =>
    simp only [h0] at q
    obtain ⟨a, xs0, e1, h1, _, _⟩ := S.of_heldR h0
    refine ⟨_, e1, .inl ⟨rfl, _, SqL.of h1⟩, hid, B, ρ, S, (ResS.bindE q).imp fun d ρ1 H1 S1 E1 q1 x rx => ?_⟩
    cases h : heldR ρ1 i with
    | none => simp only [h] at q1; exact q1.elim
    | some ds =>
      simp only [h] at q1
      obtain ⟨a', xs, e2, h2, h3, up⟩ := S1.of_heldR h
      rw [e1] at e2
      cases e2
      cases ho : op ds d with
      | none => simp only [ho] at q1; exact q1.elim
      | some es =>
        simp only [ho] at q1
        refine hr (Fz hid σ ρ1 H1) H1 a xs ds es x d _ h2 h3 rx fz_le ho fun ys hy => ?_
        obtain ⟨S2, E2⟩ := up ys es hy
        exact q1 σ _ S2 E2
def mMut (i : Nat) (op : List PyData → PyData → Option (List PyData)) (f : ME) : MS := fun ρ => match heldR ρ i with
  | none => .no
  | some _ => (f ρ).bind fun d ρ1 => match heldR ρ1 i with
    | none => .no
    | some ds => match op ds d with
      | some es => .ok .nx (setR ρ1 i es)
      | none => .no
def appendD (ds : List PyData) (d : PyData) : Option (List PyData) := if fits (ds.length + 1) then some (ds ++ [d]) else none
theorem sappend (i : Nat) {x : Str} {p apos cpos : Pos} (ha : XE X T W a f) (hN : X.N[i]? = some x := by rfl) (hv : Vis X.env.scope x := by first | exact Or.inl rfl | exact Or.inr (Or.inl rfl) | exact Or.inr (Or.inr rfl)) (hd : (x == ("__debug__" : Str)) = false := by decide)
    (hcd : (x == ("__classdict__" : Str)) = false := by decide) (hbase : attributeBase (.Name x p) "append" X.env (eval (.Name x p) X.env) = eval (.Name x p) X.env := by rfl)
    (hfew : ((backTo cpos (starEach [a] X.env)).all (fun x => !x.1) && (backToKw cpos (keywordEach [] X.env)).all (fun x => x.1.isSome)
      && decide (([a] : List Expr).length + ([] : List Keyword).length + (if ([] : List Keyword).isEmpty then 0 else 1) < 30)) = true := by rfl)
    (hline : (apos.endLine == cpos.line) = true := by rfl) (hs : starEach [a] X.env = (false, eval a X.env) :: starEach [] X.env := by rfl) (hplain : (backTo cpos (starEach [] X.env)).any (·.1) = false := by rfl)
    (hsw : swapsWith (.Call (.Attribute (.Name x p) "append" apos) [a] [] cpos) none pos.line X.env = pure false := by rfl) :
    XS X T W (.Expr (.Call (.Attribute (.Name x p) "append" apos) [a] [] cpos) pos) (mMut i appendD f) :=
  (ps_expr (pe_bm PySem.F.plainAttrs_list PySem.F.slot_list_append PySem.F.type_list_append mt_append (pe_var hN hv hd hcd) (pa_cons ha pa_nil hs) hbase hfew hline hs hplain) hsw).weak fun D σ H q => by
    refine rdMut i (op := appendD) (fun F H a xs ds es x d Q h1 h2 h3 hF ho hq => ?_) q
    unfold appendD at ho
    split at ho
    · rename_i hz
      cases ho
      refine ⟨a, xs, x, rfl, rfl, h1, ?_, hq _ (h2.append (.cons h3 .nil))⟩
      rw [h2.length]
      exact sz_fits hz
    · cases ho
/-! ### the script -/
def scrR (ρ : R) (i : Nat) : Option (List Int) := match ρ[i]? with
  | some (.scr ns) => some ns
  | _ => none
theorem SR.scr {K : PySem.W.Frag} {T : VT} {hid : Addr → Prop} {B σ : L2.St} {ρ : R} {H : Hp} (S : SR K T hid B H σ ρ) {i : Nat} {ns : List Int} (h : scrR ρ i = some ns) : ∃ a, σ[i]? = some (some (.ref a)) ∧ SqL K H a (ns.map V.int) := by
  unfold scrR at h
  split at h
  · rename_i e
    cases h
    obtain ⟨o, e1, r⟩ := S.rel i _ e
    cases r with
    | scr h => exact ⟨_, e1, Same.seq fz_le h⟩
  · cases h
def mScrT (i : Nat) : MT := fun ρ => match scrR ρ i with
  | some ns => .ok (!ns.isEmpty) ρ
  | none => .no
def mScrLen (i : Nat) : ME := fun ρ => match scrR ρ i with
  | some ns => .ok (.int (ns.length : Nat)) ρ
  | none => .no
def mScrIx (i : Nat) (g : ME) : ME := fun ρ => match scrR ρ i with
  | none => .no
  | some ns => (g ρ).bind fun d ρ1 => match d with
    | .int k => Oc.opt ((atI ns k).map PyData.int) ρ1
    | _ => .no
theorem tscr (i : Nat) {x : Str} (hN : X.N[i]? = some x := by rfl) (hv : Vis X.env.scope x := by first | exact Or.inl rfl | exact Or.inr (Or.inl rfl) | exact Or.inr (Or.inr rfl)) (hd : (x == ("__debug__" : Str)) = false := by decide)
    (hcd : (x == ("__classdict__" : Str)) = false := by decide) (hw : ∀ whole, isTrue (.Name x pos) X.env whole = (do let v ← whole; standAt (Expr.Name x pos).pos; holding [v] (truthy v)) := by intro _; rfl) : XT X T W (.Name x pos) (mScrT i) :=
  (pt_truth (pe_var hN hv hd hcd) hw).weak fun σ H Q ⟨hid, B, ρ, S, q⟩ => by
    unfold mScrT at q
    cases h : scrR ρ i with
    | none => rw [h] at q; exact q.elim
    | some ns =>
      rw [h] at q
      obtain ⟨a, e1, h1⟩ := S.scr h
      refine ⟨_, e1, _, .inl ⟨_, h1, rfl⟩, ?_⟩
      have z := Res.here S q
      cases ns <;> exact z
theorem xscrLen (i : Nat) {x : Str} {p q : Pos} (hg : Gl X "len") (hm : X.mg "len" = none) (hN : X.N[i]? = some x := by rfl) (hv : Vis X.env.scope x := by first | exact Or.inl rfl | exact Or.inr (Or.inl rfl) | exact Or.inr (Or.inr rfl)) (hd : (x == ("__debug__" : Str)) = false := by decide)
    (hcd : (x == ("__classdict__" : Str)) = false := by decide) (he : starEach [.Name x p] X.env = (false, eval (.Name x p) X.env) :: starEach [] X.env := by rfl) (hpl : (backTo pos (starEach [] X.env)).any (·.1) = false := by rfl) :
    XE X T W (.Call (.Name "len" q) [.Name x p] [] pos) (mScrLen i) :=
  (pe_callB call_len_seq hg hm PySem.boot_len (pa_cons (pe_var hN hv hd hcd) pa_nil he) (by decide) (by decide) he hpl).weak fun σ H Q ⟨hid, B, ρ, S, q⟩ => by
    unfold mScrLen at q
    cases h : scrR ρ i with
    | none => rw [h] at q; exact q.elim
    | some ns =>
      rw [h] at q
      obtain ⟨a, e1, h1⟩ := S.scr h
      exact ⟨_, e1, a, _, rfl, .inl h1, by rw [List.length_map]; exact Res.here S q _ (.int _)⟩
theorem xscrIx (i : Nat) {x : Str} {p : Pos} (hb : XE X T W b g) (hs : PlainIx b := by exact fun _ _ => rfl) (hN : X.N[i]? = some x := by rfl) (hv : Vis X.env.scope x := by first | exact Or.inl rfl | exact Or.inr (Or.inl rfl) | exact Or.inr (Or.inr rfl)) (hd : (x == ("__debug__" : Str)) = false := by decide)
    (hcd : (x == ("__classdict__" : Str)) = false := by decide) : XE X T W (.Subscript (.Name x p) b pos) (mScrIx i g) :=
  (pe_ix ix_list (pe_var hN hv hd hcd) hb hs).weak fun σ H Q ⟨hid, B, ρ, S, q⟩ => by
    unfold mScrIx at q
    cases h : scrR ρ i with
    | none => rw [h] at q; exact q.elim
    | some ns =>
      rw [h] at q
      obtain ⟨a, e1, h1⟩ := S.scr h
      have hF : SqL X.K (Fz hid σ ρ H) a (ns.map V.int) := by
        have key : ρ[i]? = some (.scr ns) := by
          unfold scrR at h
          split at h
          · rename_i e; cases h; exact e
          · cases h
        obtain ⟨o, e2, r⟩ := S.rel i _ key
        rw [e1] at e2
        cases e2
        cases r with
        | scr h => exact h
      refine ⟨_, e1, hid, B, ρ, S, (Res.bind q).imp fun d ρ1 H1 S1 E1 q1 y ry => ?_⟩
      cases d with
      | int k =>
        have q1 : Res X.K T W hid B σ ρ1 H1 (Oc.opt ((atI ns k).map PyData.int) ρ1) _ := q1
        obtain ⟨r, hr, q2⟩ := Res.opt S1 q1
        cases hz : atI ns k with
        | none => rw [hz] at hr; cases hr
        | some z =>
          rw [hz] at hr
          cases hr
          refine ⟨a, _, k, .int z, rfl, rp_int ry, Same.seq (E1.same.trans fz_le) hF, ?_, q2 H1 (Same.refl _) _ (.int _)⟩
          unfold atI at hz ⊢
          rw [List.length_map]
          cases hk : ixN ns.length k with
          | none => rw [hk] at hz; cases hz
          | some j =>
            rw [hk] at hz
            have hz : ns[j]? = some z := hz
            show (ns.map V.int)[j]? = some (.int z)
            rw [List.getElem?_map, hz]
            rfl
      | _ => exact q1.elim
/-! ### methods of texts, one argument -/
def mStr1 (op : Str → PyData → Option PyData) (f g : ME) : ME := fun ρ => (f ρ).bind fun d ρ1 => match d with
  | .str z => (g ρ1).bind fun e ρ2 => Oc.opt (op z e) ρ2
  | _ => .no
theorem rdStr1 {r : V → List V → Hp → VK → Prop} {op : Str → PyData → Option PyData} (hp : ∀ (O : Addr → Prop) (H : Hp) (z : Str) (y : V) (e res : PyData) (Q : VK), (∀ b, O b → ∃ o, H b = some o) → Rp X.K (fz O H) y e → op z e = some res → (∀ v H', Same H H' → Rp X.K (fz O H') v res → Q v H') → r (.str z) [y] H Q)
    {σ : L2.St} {H : Hp} {Q : VK} (q : rdE X.K T W (mStr1 op f g) σ H Q) : tM1 r (rdE X.K T W f) (rdE X.K T W g) σ H Q := by
  obtain ⟨hid, B, ρ, S, q⟩ := q
  refine ⟨hid, B, ρ, S, (Res.bind q).imp fun d ρ1 H1 S1 E1 q1 x rx => ?_⟩
  cases d with
  | str z =>
    cases rp_str rx
    refine ⟨⟨z, rfl⟩, hid, B, ρ1, S1, (Res.bind q1).imp fun e ρ2 H2 S2 E2 q2 y ry => ?_⟩
    obtain ⟨res, hr, q3⟩ := Res.opt S2 q2
    exact hp _ H2 z y e res Q S2.dom ry hr fun v H' sm rv => q3 H' sm v rv
  | _ => exact q1.elim
def joinD (a : Str) (e : PyData) : Option PyData := match e with
  | .list ds => match strsD ds with
    | some ys => if decide ((ys.map (·.length)).sum + ys.length * a.length ≤ 16777216) then some (.str (Txt.join a ys)) else none
    | none => none
  | _ => none
theorem xjoin {apos : Pos} (ho : XE X T W a f) (he : XE X T W b g) (hs : starEach [b] X.env = [(false, eval b X.env)] := by rfl) (hbase : attributeBase a "join" X.env (eval a X.env) = eval a X.env := by rfl) (hline : (apos.endLine == pos.line) = true := by rfl) :
    XE X T W (.Call (.Attribute a "join" apos) [b] [] pos) (mStr1 joinD f g) :=
  (pe_join ho he hs hbase hline).weak fun σ H Q q => by
    refine rdStr1 (fun O H z y e res Q hO ry ho q => ?_) q
    unfold joinD at ho
    split at ho
    · rename_i ds
      split at ho
      · rename_i ys hy
        split at ho
        · rename_i hz
          cases ho
          obtain ⟨p, xs, rfl, h1, h2⟩ := rp_lst ry
          rw [strsD_of hy] at h2
          rw [rp_strs h2] at h1
          exact ⟨z, p, ys, rfl, rfl, .inl (SqL.of (fz_le _ _ h1)), of_decide_eq_true hz, q _ H (Same.refl _) (.str _)⟩
        · cases ho
      · cases ho
    · cases ho
end
end VL

set_option Elab.async false
set_option linter.all false
set_option maxRecDepth 100000
set_option maxHeartbeats 8000000
/-! VSet: len(set(xs)) where xs is a list or a tuple of numbers, texts, None. -/
namespace VL
open PySem PySem.Spec PyProof.Rows
section
variable {κ : Type} [DecidableEq κ]
def ddK (σ : List κ) (v : κ) : List κ := if v ∈ σ then σ else σ ++ [v]
/-- the keys that were met, each once, in turn -/
def metK (ks : List κ) : List κ := ks.foldl ddK []
theorem metK_snoc (ks : List κ) (v : κ) : metK (ks ++ [v]) = ddK (metK ks) v := by unfold metK; rw [List.foldl_append]; rfl
theorem ddK_len (σ : List κ) (v : κ) : (ddK σ v).length ≤ σ.length + 1 := by
  unfold ddK
  split
  · omega
  · simp
theorem foldl_ddK_len : ∀ (ks σ : List κ), (ks.foldl ddK σ).length ≤ σ.length + ks.length
  | [], σ => Nat.le_refl _
  | k :: ks, σ => by
    have h1 := foldl_ddK_len ks (ddK σ k)
    have h2 := ddK_len σ k
    show (ks.foldl ddK (ddK σ k)).length ≤ _
    simp only [List.length_cons]
    omega
theorem metK_len (ks : List κ) : (metK ks).length ≤ ks.length := by
  have h := foldl_ddK_len ks []
  simpa [metK] using h
end
section
variable {prog : Program} {w : World} {A : Around} {κ : Type} [DecidableEq κ] {knd : KeyKind prog w κ}
theorem setOf_as {h : Heap} {a : Addr} {S S' : κ → Bool} {n n' : Nat} (hS : h.SetOf knd a S n) (e : ∀ k, S k = S' k) (en : n = n') : h.SetOf knd a S' n' := by
  have z : S = S' := funext e
  subst z en
  exact hS
theorem set_turns {R : Result → Shared → Prop} {I : Addr} {fp wr : List Addr} {G : Array GenState → Array GenState → Prop} {n : Nat} {P : Nat → Value → Prop} {St : Nat → Shared → Prop}
    (W : WalksS prog w A.in1 I fp wr G n P St) (S : Addr) (hSf : S ∉ fp) (ks : List κ) (hl : ks.length = n) (hval : ∀ i v, P i v → ∃ k, ks[i]? = some k ∧ knd.is k v = true ∧ v.scannable = true) (hb : n + 1 < scanBound) :
    ∀ (j i : Nat) (s : Shared), n - i = j → i ≤ n → St i s → s.heap.SetOf knd S (fun k => decide (k ∈ metK (ks.take i))) (metK (ks.take i)).length →
      (∀ s', Moved (S :: wr) G s s' → s'.heap.SetOf knd S (fun k => decide (k ∈ metK ks)) (metK ks).length → R (.ok (.ret .none)) s') →
      codeAny (model prog w) A (.builtin "set.update.loop" ⟨[.ref S, .ref I], []⟩) R s := by
  have hSw : S ∉ wr := fun h => hSf (W.sub _ h)
  have hsub : ∀ b ∈ wr, b ∈ S :: wr := fun b hb => List.mem_cons_of_mem _ hb
  intro j
  induction j with
  | zero =>
    intro i s hk hi hst hS hR
    obtain rfl : i = n := by omega
    refine codeAny_builtin F.entry_set_update_loop ?_
    rw [Around.under_plainId F.plain_set_update_loop _]
    show wpAny _ A.in1 (pyNext (.ref I) >>= _) _ _ s
    refine wpAny_bind (W.done s _ _ hst fun s' hm => ?_)
    show wpAny _ A.in1 (ret Value.none) _ _ s'
    refine wpAny_pure (hR s' (hm.mono hsub) ?_)
    rw [← hl, List.take_length] at hS
    obtain ⟨o, es, ep, t, ho, more⟩ := hS
    exact ⟨o, es, ep, t, hm.heap S _ hSw ho, more⟩
  | succ j ih =>
    intro i s hk hi hst hS hR
    have hlt : i < n := by omega
    refine codeAny_builtin F.entry_set_update_loop ?_
    rw [Around.under_plainId F.plain_set_update_loop _]
    show wpAny _ A.in1 (pyNext (.ref I) >>= _) _ _ s
    refine wpAny_bind (W.item i s _ _ hlt hst fun v s' hP hst' hm => ?_)
    obtain ⟨k, hki, hkv, hsc⟩ := hval i v hP
    have hS' : s'.heap.SetOf knd S (fun k => decide (k ∈ metK (ks.take i))) (metK (ks.take i)).length := by
      obtain ⟨o, es, ep, tb, ho, more⟩ := hS
      exact ⟨o, es, ep, tb, hm.heap S _ hSw ho, more⟩
    show wpAny _ A.in1 (holding [v] (setAdd S v) >>= _) _ _ s'
    refine wpAny_bind (wpAny_holding ?_)
    unfold setAdd
    refine wpAny_holding (wpAny_bind (knd.pyHash (k := k) hkv ?_))
    have hroom : (metK (ks.take i)).length + 1 < scanBound := by
      have z := metK_len (ks.take i)
      rw [List.length_take] at z
      omega
    refine wpAny_setAddHashed_of (knd := knd) (s := { s' with toks := s'.toks + 1 }) hkv hsc hS' hroom fun h' hsb hS2 => ?_
    have et : ks.take (i + 1) = ks.take i ++ [k] := by
      rw [List.take_add_one, hki]
      rfl
    have hSi : h'.SetOf knd S (fun k => decide (k ∈ metK (ks.take (i + 1)))) (metK (ks.take (i + 1))).length := by
      rw [et, metK_snoc]
      refine setOf_as hS2 (fun c => ?_) ?_
      · unfold ddK
        by_cases hk : k ∈ metK (ks.take i)
        · rw [if_pos hk]
          by_cases hc : c = k
          · subst hc; simp [hk]
          · simp [hc]
        · rw [if_neg hk]
          simp [List.mem_append]
      · unfold ddK
        by_cases hk : k ∈ metK (ks.take i)
        · rw [if_pos hk, if_pos (decide_eq_true hk)]
        · rw [if_neg hk, if_neg (by simp [hk]), List.length_append, List.length_singleton]
    refine wpAny_pure ⟨plainId_quiet F.plain_set_update_loop _, ih (i + 1) _ (by omega) hlt (W.frame _ s' _ _ hst' (Nat.le_succ _) fun b hb o e => ?_) hSi fun s'' hm'' hS'' => ?_⟩
    · rw [hsb.2 b (fun h : b = S => hSf (by rw [← h]; exact hb))]; exact e
    · refine hR s'' (Moved.trans W.gtrans ((hm.mono hsub).then_heap (Nat.le_succ _) fun b o hb e => ?_) hm'') hS''
      rw [hsb.2 b (fun h : b = S => hb (by rw [h]; exact List.mem_cons_self))]; exact e

set_option maxHeartbeats 8000000 in
theorem set_of_list {E : Value → Shared → Prop} {s : Shared} {l : Addr} {items : Array Value} (ks : List κ) {Q : Value → Shared → Prop} (hh : A.handled = none) (hl : s.heap.IsList l items) (hs : ks.length = items.size)
    (hi : ∀ (i : Nat) (v : Value), items[i]? = some v → ∃ k, ks[i]? = some k ∧ knd.is k v = true ∧ v.scannable = true) (hb : items.size + 1 < scanBound)
    (h : ∀ (h' : Heap) (tk : Nat), h'.SetOf knd s.heap.objs.size (fun k => decide (k ∈ metK ks)) (metK ks).length → (∀ b o, b < s.heap.objs.size → s.heap.get? b = some o → h'.get? b = some o) → Q (.ref s.heap.objs.size) { s with heap := h', toks := tk }) :
    wpAny (model prog w) A (call (.type "set") [.ref l]) Q E s := by
  obtain ⟨c, tl, hmro⟩ := PySem.F.called_set.mro
  have hmade := PySem.F.called_set.made
  have hsub := PySem.F.called_set.sub
  refine wpAny_call (codeAny_of_tree ?_)
  show wpAny _ _ (callAny (.type "set") _) _ _ _
  refine wpAny_pure ⟨Code.quiet_builtin _ (by decide +kernel), codeAny_builtin PySem.F.entry_type_call ?_⟩
  rw [Around.under_plain (weight_type_call_type "set" [.ref l] []) rfl]
  have h1 := PySem.F.called_set.notType
  have h2 := PySem.F.called_set.canCreate
  have hct := PySem.F.typeCall_set_1 (.ref l)
  repeat (any_goals (first | assumption | wp_step))
  refine codeAny_mono (code_set_new_1 (.ref l) (E := E) (Q₁ := fun obj s₁ => ∃ led : Bool, obj = .ref s.heap.objs.size ∧ s₁ = { s with heap := s.heap.push { cls := .type "set", dict := none, data := .set #[] 0 (.fresh 0 0 led) } }) fun led => ⟨led, rfl, rfl⟩) fun r s₁ hr => ?_
  cases r with
  | error e => exact hr
  | ok fl =>
    cases fl with
    | ret obj =>
      obtain ⟨led, rfl, rfl⟩ := hr
      have hS : (s.heap.push { cls := .type "set", dict := none, data := .set #[] 0 (.fresh 0 0 led) }).get? s.heap.objs.size = some { cls := .type "set", dict := none, data := .set #[] 0 (.fresh 0 0 led) } := Heap.get?_push_size _ rfl
      have hT : Shared.TypeIs { s with heap := s.heap.push { cls := .type "set", dict := none, data := .set #[] 0 (.fresh 0 0 led) } } (.ref s.heap.objs.size) "set" := ⟨_, hS, rfl⟩
      have hli := PySem.F.called_set.init.lookup
      have hbi := PySem.F.called_set.init.bind (.ref s.heap.objs.size)
      repeat (any_goals (first | assumption | wp_step))
      refine codeAny_mono (codeAny_call_builtin (R := wants (fun r s₂ => r = .none ∧ ∃ h' tk, s₂ = { s with heap := h', toks := tk } ∧ h'.SetOf knd s.heap.objs.size (fun k => decide (k ∈ metK ks)) (metK ks).length ∧
          (∀ b o, b < s.heap.objs.size → s.heap.get? b = some o → h'.get? b = some o)) E) PySem.F.called_set.init.plain PySem.F.entry_set_init (check_set_init_1 hT ?_)) fun r₂ s₂ hr₂ => ?_
      · obtain ⟨ol, hol, hcl, nl, hdl⟩ := hl
        obtain ⟨ocls, odict, odata, oslots⟩ := ol
        simp only at hcl hdl
        subst hcl hdl
        have hol' : (s.heap.push { cls := .type "set", dict := none, data := .set #[] 0 (.fresh 0 0 led) }).get? l = some { cls := .type "list", dict := odict, data := .seq items nl, slots := oslots } := Heap.get?_push_of_some _ hol
        have hl1 : (s.heap.push { cls := .type "set", dict := none, data := .set #[] 0 (.fresh 0 0 led) }).IsList l items := ⟨_, hol', rfl, nl, rfl⟩
        have hsls := PySem.F.sub_list_set
        have hslf := PySem.F.sub_list_frozenset
        have hne : (Value.type "list" == Value.type "dict") = false := by decide
        unfold Builtin.«set.__init__» noKeywords Builtin.Frozenset.updateFrom
        generalize hPI : pyIter = PI
        wp_walk
        subst hPI
        refine wpAny_pyIter_list hl1 (wpAny_bind (wpAny_runValue ?_))
        have hlS : l < s.heap.objs.size := Heap.lt_size hol
        have hh3 : A.in1.in1.in1.handled = none := by simp [hh]
        have hneI : l ≠ (s.heap.push { cls := .type "set", dict := none, data := .set #[] 0 (.fresh 0 0 led) }).objs.size := by
          rw [Heap.size_push]; exact Nat.ne_of_lt (Nat.lt_succ_of_lt hlS)
        have hSf : s.heap.objs.size ∉ [(s.heap.push { cls := .type "set", dict := none, data := .set #[] 0 (.fresh 0 0 led) }).objs.size, l] := by
          rw [Heap.size_push]; simp only [List.mem_cons, List.mem_singleton, List.not_mem_nil, or_false, not_or]
          exact ⟨Nat.ne_of_lt (Nat.lt_succ_self _), Nat.ne_of_gt hlS⟩
        refine set_turns (knd := knd) ((Walks.list hh3 _ l hneI items).toS) s.heap.objs.size hSf ks hs hi hb (items.size - 0) 0 _ (by omega) (Nat.zero_le _) ⟨⟨_, Heap.get?_push_size _ rfl, rfl, rfl⟩, (hl1.push _)⟩ ?hS0 ?hR
        case hS0 =>
          have hget : ((s.heap.push { cls := .type "set", dict := none, data := .set #[] 0 (.fresh 0 0 led) }).push { cls := .type "list_iterator", data := .fields #[.ref l, .int 0 0] }).get? s.heap.objs.size = some { cls := .type "set", dict := none, data := .set #[] 0 (.fresh 0 0 led) } := Heap.get?_push_of_some _ hS
          exact setOf_as ((PyProof.Rows.setObjOf_fresh (knd := knd) led).setOf hget (by unfold scanBound; omega)) (fun _ => by simp [metK]) rfl
        case hR =>
          intro s' hm hS'
          obtain ⟨h', g', d', tk', os'⟩ := s'
          have eg : g' = s.gens := hm.gens
          have ed : d' = s.drawn := hm.drawn
          have eo : os' = s.os := hm.os
          subst eg ed eo
          show wpAny _ _ _ _ _ _
          refine wpAny_pure ?_
          show wpAny _ _ (ret Value.none) _ _ _
          refine wpAny_pure ⟨rfl, h', tk', rfl, hS', fun b o hb e => ?_⟩
          have hb1 : b ≠ s.heap.objs.size := Nat.ne_of_lt hb
          have hb2 : b ≠ (s.heap.push { cls := .type "set", dict := none, data := .set #[] 0 (.fresh 0 0 led) }).objs.size := by
            rw [Heap.size_push]; exact Nat.ne_of_lt (Nat.lt_succ_of_lt hb)
          exact hm.heap b o (by simp only [List.mem_cons, List.mem_singleton, List.not_mem_nil, or_false, not_or]; exact ⟨hb1, hb2⟩) (Heap.get?_push_of_some _ (Heap.get?_push_of_some _ e))
      · cases r₂ with
        | error e => exact hr₂
        | ok fl₂ =>
          cases fl₂ with
          | ret r =>
            obtain ⟨rfl, h', tk, rfl, hS', hk'⟩ := hr₂
            repeat (any_goals (first | assumption | wp_step))
            exact h _ _ hS' hk'
          | _ => exact hr₂.elim
    | _ => exact hr.elim

set_option maxHeartbeats 8000000 in
theorem set_of_tuple {E : Value → Shared → Prop} {s : Shared} {l : Addr} {items : Array Value} (ks : List κ) {Q : Value → Shared → Prop} (hh : A.handled = none) (hl : s.heap.IsTuple l items) (hs : ks.length = items.size)
    (hi : ∀ (i : Nat) (v : Value), items[i]? = some v → ∃ k, ks[i]? = some k ∧ knd.is k v = true ∧ v.scannable = true) (hb : items.size + 1 < scanBound)
    (h : ∀ (h' : Heap) (tk : Nat), h'.SetOf knd s.heap.objs.size (fun k => decide (k ∈ metK ks)) (metK ks).length → (∀ b o, b < s.heap.objs.size → s.heap.get? b = some o → h'.get? b = some o) → Q (.ref s.heap.objs.size) { s with heap := h', toks := tk }) :
    wpAny (model prog w) A (call (.type "set") [.ref l]) Q E s := by
  obtain ⟨c, tl, hmro⟩ := PySem.F.called_set.mro
  have hmade := PySem.F.called_set.made
  have hsub := PySem.F.called_set.sub
  refine wpAny_call (codeAny_of_tree ?_)
  show wpAny _ _ (callAny (.type "set") _) _ _ _
  refine wpAny_pure ⟨Code.quiet_builtin _ (by decide +kernel), codeAny_builtin PySem.F.entry_type_call ?_⟩
  rw [Around.under_plain (weight_type_call_type "set" [.ref l] []) rfl]
  have h1 := PySem.F.called_set.notType
  have h2 := PySem.F.called_set.canCreate
  have hct := PySem.F.typeCall_set_1 (.ref l)
  repeat (any_goals (first | assumption | wp_step))
  refine codeAny_mono (code_set_new_1 (.ref l) (E := E) (Q₁ := fun obj s₁ => ∃ led : Bool, obj = .ref s.heap.objs.size ∧ s₁ = { s with heap := s.heap.push { cls := .type "set", dict := none, data := .set #[] 0 (.fresh 0 0 led) } }) fun led => ⟨led, rfl, rfl⟩) fun r s₁ hr => ?_
  cases r with
  | error e => exact hr
  | ok fl =>
    cases fl with
    | ret obj =>
      obtain ⟨led, rfl, rfl⟩ := hr
      have hS : (s.heap.push { cls := .type "set", dict := none, data := .set #[] 0 (.fresh 0 0 led) }).get? s.heap.objs.size = some { cls := .type "set", dict := none, data := .set #[] 0 (.fresh 0 0 led) } := Heap.get?_push_size _ rfl
      have hT : Shared.TypeIs { s with heap := s.heap.push { cls := .type "set", dict := none, data := .set #[] 0 (.fresh 0 0 led) } } (.ref s.heap.objs.size) "set" := ⟨_, hS, rfl⟩
      have hli := PySem.F.called_set.init.lookup
      have hbi := PySem.F.called_set.init.bind (.ref s.heap.objs.size)
      repeat (any_goals (first | assumption | wp_step))
      refine codeAny_mono (codeAny_call_builtin (R := wants (fun r s₂ => r = .none ∧ ∃ h' tk, s₂ = { s with heap := h', toks := tk } ∧ h'.SetOf knd s.heap.objs.size (fun k => decide (k ∈ metK ks)) (metK ks).length ∧
          (∀ b o, b < s.heap.objs.size → s.heap.get? b = some o → h'.get? b = some o)) E) PySem.F.called_set.init.plain PySem.F.entry_set_init (check_set_init_1 hT ?_)) fun r₂ s₂ hr₂ => ?_
      · obtain ⟨ol, hol, hcl, nl, hdl⟩ := hl
        obtain ⟨ocls, odict, odata, oslots⟩ := ol
        simp only at hcl hdl
        subst hcl hdl
        have hol' : (s.heap.push { cls := .type "set", dict := none, data := .set #[] 0 (.fresh 0 0 led) }).get? l = some { cls := .type "tuple", dict := odict, data := .seq items nl, slots := oslots } := Heap.get?_push_of_some _ hol
        have hl1 : (s.heap.push { cls := .type "set", dict := none, data := .set #[] 0 (.fresh 0 0 led) }).IsTuple l items := ⟨_, hol', rfl, nl, rfl⟩
        have hsls := PySem.F.sub_tuple_set
        have hslf := PySem.F.sub_tuple_frozenset
        have hne : (Value.type "tuple" == Value.type "dict") = false := by decide
        unfold Builtin.«set.__init__» noKeywords Builtin.Frozenset.updateFrom
        generalize hPI : pyIter = PI
        wp_walk
        subst hPI
        refine wpAny_pyIter_tuple hl1 (wpAny_bind (wpAny_runValue ?_))
        have hlS : l < s.heap.objs.size := Heap.lt_size hol
        have hh3 : A.in1.in1.in1.handled = none := by simp [hh]
        have hneI : l ≠ (s.heap.push { cls := .type "set", dict := none, data := .set #[] 0 (.fresh 0 0 led) }).objs.size := by
          rw [Heap.size_push]; exact Nat.ne_of_lt (Nat.lt_succ_of_lt hlS)
        have hSf : s.heap.objs.size ∉ [(s.heap.push { cls := .type "set", dict := none, data := .set #[] 0 (.fresh 0 0 led) }).objs.size, l] := by
          rw [Heap.size_push]; simp only [List.mem_cons, List.mem_singleton, List.not_mem_nil, or_false, not_or]
          exact ⟨Nat.ne_of_lt (Nat.lt_succ_self _), Nat.ne_of_gt hlS⟩
        refine set_turns (knd := knd) ((Walks.tuple hh3 _ l hneI items).toS) s.heap.objs.size hSf ks hs hi hb (items.size - 0) 0 _ (by omega) (Nat.zero_le _) ⟨⟨_, Heap.get?_push_size _ rfl, rfl, rfl⟩, (hl1.push _)⟩ ?hS0 ?hR
        case hS0 =>
          have hget : ((s.heap.push { cls := .type "set", dict := none, data := .set #[] 0 (.fresh 0 0 led) }).push { cls := .type "tuple_iterator", data := .fields #[.ref l, .int 0 0] }).get? s.heap.objs.size = some { cls := .type "set", dict := none, data := .set #[] 0 (.fresh 0 0 led) } := Heap.get?_push_of_some _ hS
          exact setOf_as ((PyProof.Rows.setObjOf_fresh (knd := knd) led).setOf hget (by unfold scanBound; omega)) (fun _ => by simp [metK]) rfl
        case hR =>
          intro s' hm hS'
          obtain ⟨h', g', d', tk', os'⟩ := s'
          have eg : g' = s.gens := hm.gens
          have ed : d' = s.drawn := hm.drawn
          have eo : os' = s.os := hm.os
          subst eg ed eo
          show wpAny _ _ _ _ _ _
          refine wpAny_pure ?_
          show wpAny _ _ (ret Value.none) _ _ _
          refine wpAny_pure ⟨rfl, h', tk', rfl, hS', fun b o hb e => ?_⟩
          have hb1 : b ≠ s.heap.objs.size := Nat.ne_of_lt hb
          have hb2 : b ≠ (s.heap.push { cls := .type "set", dict := none, data := .set #[] 0 (.fresh 0 0 led) }).objs.size := by
            rw [Heap.size_push]; exact Nat.ne_of_lt (Nat.lt_succ_of_lt hb)
          exact hm.heap b o (by simp only [List.mem_cons, List.mem_singleton, List.not_mem_nil, or_false, not_or]; exact ⟨hb1, hb2⟩) (Heap.get?_push_of_some _ (Heap.get?_push_of_some _ e))
      · cases r₂ with
        | error e => exact hr₂
        | ok fl₂ =>
          cases fl₂ with
          | ret r =>
            obtain ⟨rfl, h', tk, rfl, hS', hk'⟩ := hr₂
            repeat (any_goals (first | assumption | wp_step))
            exact h _ _ hS' hk'
          | _ => exact hr₂.elim
    | _ => exact hr.elim
end
end VL

set_option Elab.async false
set_option linter.all false
set_option maxRecDepth 100000
set_option maxHeartbeats 4000000
/-! V8: len(set(..)), comprehensions stored in one line, over own lists, list.remove. -/
namespace VL
open PySem PySem.Spec PyProof.Rows L2

/-! ### len(set(xs)) -/
def leafD : PyData → Option Leaf
  | .none => some .none
  | .int i => some (.num i)
  | .str x => some (.text x)
  | _ => none
def leavesD : List PyData → Option (List Leaf)
  | [] => some []
  | d :: ds => match leafD d with
    | none => none
    | some l => (leavesD ds).map (l :: ·)
def lenSetD (d : PyData) : Option PyData := match seqD d with
  | none => none
  | some ds => match leavesD ds with
    | none => none
    | some ls => if decide (ds.length ≤ 4000) then some (.int ((metK ls).length : Nat)) else none
theorem leaf_is {prog : Program} {w : World} {K : PySem.W.Frag} {F : Hp} {x : V} {u : Value} {d : PyData} {l : Leaf} (h : leafD d = some l) (r : Rp K F x d) (ru : RelV x u) : (leafKind prog w).is l u = true ∧ u.scannable = true := by
  cases r with
  | non => cases h; cases ru; exact ⟨rfl, rfl⟩
  | int i => cases h; obtain ⟨t, rfl⟩ := ru; exact ⟨decide_eq_true rfl, rfl⟩
  | str z => cases h; obtain ⟨t, rfl⟩ := ru; exact ⟨by show (z == z) = true; simp, rfl⟩
  | bl _ => cases h
  | lst _ _ => cases h
  | tup _ _ => cases h
theorem leaves_at {prog : Program} {w : World} {K : PySem.W.Frag} {F : Hp} : ∀ {ds : List PyData} {ls : List Leaf} {xs : List V} {us : List Value}, leavesD ds = some ls → RpAll K F xs ds → Vals xs us → ls.length = us.length ∧ ∀ (i : Nat) (v : Value), us[i]? = some v → ∃ k, ls[i]? = some k ∧ (leafKind prog w).is k v = true ∧ v.scannable = true
  | [], ls, _, _, h, .nil, .nil => by cases h; exact ⟨rfl, fun i v e => by simp at e⟩
  | d :: ds, ls, _, _, h, .cons r rs, .cons q qs => by
    unfold leavesD at h
    cases hd : leafD d with
    | none => rw [hd] at h; cases h
    | some l =>
      rw [hd] at h
      cases hs : leavesD ds with
      | none => simp [hs] at h
      | some ls' =>
        simp [hs] at h
        subst h
        obtain ⟨l1, g⟩ := leaves_at (prog := prog) (w := w) hs rs qs
        refine ⟨congrArg (· + 1) l1, fun i v e => ?_⟩
        cases i with
        | zero => simp at e; subst e; exact ⟨l, rfl, leaf_is hd r q⟩
        | succ i =>
          obtain ⟨k, e1, e2⟩ := g i v (by simpa using e)
          exact ⟨k, by simpa using e1, e2⟩
def tLenSetD (K : PySem.W.Frag) (ta : TE) : TE := fun σ H Q => ta σ H fun x H1 => ∃ d ds ls, Rp K H1 x d ∧ seqD d = some ds ∧ leavesD ds = some ls ∧ ds.length ≤ 4000 ∧ Q (.int ((metK ls).length : Nat)) H1
section
variable {X : Cx} {T : VT} {W : WX} {pos : Pos} {a : Expr} {f : ME}
theorem pe_lenSetD {ta : TE} {p p2 q : Pos} (hg : Gl X "len") (hm : X.mg "len" = none) (hg2 : Gl X "set") (hm2 : X.mg "set" = none) (ha : PE X a ta) (hc : X.calm = true)
    (na : starEach [a] X.env = (false, eval a X.env) :: starEach [] X.env := by rfl) : PE X (.Call (.Name "len" p) [.Call (.Name "set" p2) [a] [] q] [] pos) (tLenSetD X.K ta) := by
  constructor
  intro pins s σ H Q I h
  refine Call_ (ld_blt I hg hm boot_len ?_)
  refine PyProof.Rows.callWith_builtin1 (PyProof.Rows.args_cons ?_ rfl) rfl rfl
  refine Call_ (ld_blt I hg2 hm2 boot_set ?_)
  refine PyProof.Rows.callWith_type1 (PyProof.Rows.args_cons (thn (ha.run pins s σ H _ I h) fun v s1 ⟨x, H1, I1, r1, d, ds, ls, rd, hd, hl, hz, q1⟩ => PyProof.Rows.args_nil ?_) na) na rfl
  have fin : ∀ (h' : Heap) (tk : Nat), h'.SetOf (leafKind X.prog X.w) s1.heap.objs.size (fun k => decide (k ∈ metK ls)) (metK ls).length → (∀ b o, b < s1.heap.objs.size → s1.heap.get? b = some o → h'.get? b = some o) →
      wpAny (model X.prog X.w) X.A (spliced (backTo pos (starEach [] X.env))) (fun vs s₂ => wpAny (model X.prog X.w) X.A (call (.builtin "len") (Value.ref s1.heap.objs.size :: vs)) (EP X pins σ Q) X.xe s₂) X.xe { s1 with heap := h', toks := tk } := fun h' tk hS hk => by
    refine PyProof.Rows.args_nil ?_
    obtain ⟨o, es, ep, t, ho, hex, hdd, _, _, _, hf, hn⟩ := hS
    have I2 : Inv X pins σ H1 { s1 with heap := h', toks := tk } := I1.kept fun b o e => hk b o (Heap.lt_size e) e
    have ml := metK_len ls
    have hln : ls.length = ds.length := by
      cases rd with
      | lst h1 h2 =>
        cases hd
        obtain ⟨its, r, _, _⟩ := I1.list (SqL.of h1)
        rw [(leaves_at (prog := X.prog) (w := X.w) hl h2 r).1, ← r.length, h2.length]
      | tup h1 h2 =>
        cases hd
        obtain ⟨its, r, _, _⟩ := I1.tuple h1
        rw [(leaves_at (prog := X.prog) (w := X.w) hl h2 r).1, ← r.length, h2.length]
      | _ => cases hd
    refine call_len_set ho hex hdd hf (by rw [hn] <;> omega) ⟨.int ((metK ls).length : Nat), H1, I2.tok _, ⟨_, by rw [hn]⟩, q1⟩
  cases rd with
  | lst h1 h2 =>
    cases hd
    cases r1
    obtain ⟨its, r, pl, _⟩ := I1.list (SqL.of h1)
    obtain ⟨e1, e2⟩ := leaves_at (prog := X.prog) (w := X.w) hl h2 r
    have e3 := r.length
    have e4 := h2.length
    refine set_of_list (knd := leafKind X.prog X.w) ls (I1.ok.hd hc) pl.isList (by simpa using e1) (fun i v e => e2 i v (by simpa using e)) (by unfold scanBound; simp; omega) fin
  | tup h1 h2 =>
    cases hd
    cases r1
    obtain ⟨its, r, pl, _⟩ := I1.tuple h1
    obtain ⟨e1, e2⟩ := leaves_at (prog := X.prog) (w := X.w) hl h2 r
    have e3 := r.length
    have e4 := h2.length
    refine set_of_tuple (knd := leafKind X.prog X.w) ls (I1.ok.hd hc) pl (by simpa using e1) (fun i v e => e2 i v (by simpa using e)) (by unfold scanBound; simp; omega) fin
  | _ => cases hd
theorem xlenset {p p2 q : Pos} (hg : Gl X "len") (hm : X.mg "len" = none) (hg2 : Gl X "set") (hm2 : X.mg "set" = none) (ha : XE X T W a f) (hc : X.calm = true)
    (na : starEach [a] X.env = (false, eval a X.env) :: starEach [] X.env := by rfl) : XE X T W (.Call (.Name "len" p) [.Call (.Name "set" p2) [a] [] q] [] pos) (m1 lenSetD f) :=
  (pe_lenSetD hg hm hg2 hm2 ha hc na).weak fun σ H Q ⟨hid, B, ρ, S, q⟩ => ⟨hid, B, ρ, S, (Res.bind q).imp fun d ρ1 H1 S1 E1 q1 x rx => by
    obtain ⟨res, hr, q2⟩ := Res.opt S1 q1
    unfold lenSetD at hr
    split at hr
    · cases hr
    · rename_i ds hd
      split at hr
      · cases hr
      · rename_i ls hl
        split at hr
        · rename_i hz
          cases hr
          exact ⟨d, ds, ls, rx.mono fz_le, hd, hl, of_decide_eq_true hz, q2 H1 (Same.refl _) _ (.int _)⟩
        · cases hr⟩

/-! ### name = [..] in one line -/
theorem rdL_setO {i : Nat} {fs : ML} {D : Ends} {σ : L2.St} {H : Hp} (q : rdS X.K T W (mSetO i fs) D σ H) : rdL X.K T W fs σ H fun x H1 => D.nx (σ.set i (some x)) H1 := by
  obtain ⟨hid, B, ρ, S, q⟩ := q
  refine ⟨hid, B, ρ, S, (ResS.bindE q).imp fun ds ρ1 H1 S1 E1 q1 a xs ha r => ?_⟩
  by_cases z : i < ρ1.length
  · rw [if_pos z] at q1
    obtain ⟨S2, E2⟩ := S1.putOwn z ha r
    exact q1 _ _ S2 E2
  · rw [if_neg z] at q1
    exact q1.elim
theorem rdL_set {i : Nat} {fs : ML} {D : Ends} {σ : L2.St} {H : Hp} (q : rdS X.K T W (mSet i (mLst fs)) D σ H) : rdL X.K T W fs σ H fun x H1 => D.nx (σ.set i (some x)) H1 := by
  obtain ⟨hid, B, ρ, S, q⟩ := q
  unfold mSet mLst at q
  refine ⟨hid, B, ρ, S, ?_⟩
  cases hf : fs ρ with
  | no => rw [hf] at q; exact q.elim
  | ex c ρ' => rw [hf] at q; exact fun H' S' E' => q σ H' S' E'
  | ok ds ρ1 =>
    rw [hf] at q
    intro H1 S1 E1 a xs ha r
    obtain ⟨sm, rp⟩ := lst_new S1.dom ha r
    have S2 := S1.grow sm
    have E2 := S1.ext sm
    obtain ⟨S3, E3⟩ := S2.put (i := i) (Sl.plain_not (s := .val (.list ds)) rfl) (.val rp)
    exact q _ _ S3 ((E1.trans E2).trans E3)
section
variable {tg iter elt : Expr} {ifs : List Expr} {scope : Scope} {ts : List Nat} {fs : ML} {g : MG} {t : MT}
theorem rdLc (vs : List Nat) (hts : ∀ v ∈ ts, v ∈ vs) {σ : L2.St} {H : Hp} {Q : VK} (q : rdL X.K T W (mLc fs g t f vs) σ H Q) : tLc (rdI X.K T W fs) (rdG X.K T ts g) (rdT X.K T W0 t) (rdE X.K T W0 f) vs σ H Q := by
  obtain ⟨hid, B, ρ, S, q⟩ := q
  exact ⟨hid, B, ρ, S, (Res.bind q).imp fun ds ρ1 H1 S1 E1 q1 J hJ D hD => llc.llc_core vs hts S1 q1 hJ (fun b o e => .inl e) hD⟩
theorem ssetLcO (i : Nat) {y : Str} {py spos : Pos} (own : List (Str × Nat)) (hc : X.calm = true) (hN : X.N.Nodup) (hi : XI X T W tg iter fs) (ok : BlkOk X.N X.env.scope scope own)
    (hg : ∀ (s : Shared) (H : Hp) (C : Addr) (cl : List (Str × Addr)) (fp : List Addr), XG (X.blk s H scope (compEnvC scope cl C X.env) fp) T tg ts g)
    (ht : ∀ (s : Shared) (H : Hp) (C : Addr) (cl : List (Str × Addr)) (fp : List Addr), PTs (X.blk s H scope (compEnvC scope cl C X.env) fp) ifs (rdT X.K T W0 t))
    (he : ∀ (s : Shared) (H : Hp) (C : Addr) (cl : List (Str × Addr)) (fp : List Addr), XE (X.blk s H scope (compEnvC scope cl C X.env) fp) T W0 elt f) (hts : ∀ v ∈ ts, v ∈ own.map (·.2))
    (hsw : swapsWith (.ListComp elt [⟨tg, iter, ifs, 0⟩] scope pos) (some (.Name y py)) spos.line X.env = pure true)
    (hy : X.N[i]? = some y := by rfl) (hyl : X.env.scope.names.lookup y = some .local := by rfl) (hs : ∀ x, foldedSetIterable iter X.env x = pure x := by intro _; rfl) :
    XS X T W (.Assign [.Name y py] (.ListComp elt [⟨tg, iter, ifs, 0⟩] scope pos) spos) (mSetO i (mLc fs g t f (own.map (·.2)))) :=
  (ps_setLc (g := rdG X.K T ts g) (tt := rdT X.K T W0 t) (te := rdE X.K T W0 f) hc hN hy hyl hsw hi ok hg ht he hs).weak fun D σ H q => rdLc _ hts (rdL_setO q)
theorem ssetLc (i : Nat) {y : Str} {py spos : Pos} (own : List (Str × Nat)) (hc : X.calm = true) (hN : X.N.Nodup) (hi : XI X T W tg iter fs) (ok : BlkOk X.N X.env.scope scope own)
    (hg : ∀ (s : Shared) (H : Hp) (C : Addr) (cl : List (Str × Addr)) (fp : List Addr), XG (X.blk s H scope (compEnvC scope cl C X.env) fp) T tg ts g)
    (ht : ∀ (s : Shared) (H : Hp) (C : Addr) (cl : List (Str × Addr)) (fp : List Addr), PTs (X.blk s H scope (compEnvC scope cl C X.env) fp) ifs (rdT X.K T W0 t))
    (he : ∀ (s : Shared) (H : Hp) (C : Addr) (cl : List (Str × Addr)) (fp : List Addr), XE (X.blk s H scope (compEnvC scope cl C X.env) fp) T W0 elt f) (hts : ∀ v ∈ ts, v ∈ own.map (·.2))
    (hsw : swapsWith (.ListComp elt [⟨tg, iter, ifs, 0⟩] scope pos) (some (.Name y py)) spos.line X.env = pure true)
    (hy : X.N[i]? = some y := by rfl) (hyl : X.env.scope.names.lookup y = some .local := by rfl) (hs : ∀ x, foldedSetIterable iter X.env x = pure x := by intro _; rfl) :
    XS X T W (.Assign [.Name y py] (.ListComp elt [⟨tg, iter, ifs, 0⟩] scope pos) spos) (mSet i (mLst (mLc fs g t f (own.map (·.2))))) :=
  (ps_setLc (g := rdG X.K T ts g) (tt := rdT X.K T W0 t) (te := rdE X.K T W0 f) hc hN hy hyl hsw hi ok hg ht he hs).weak fun D σ H q => rdLc _ hts (rdL_set q)
end
/-! ### comprehensions over an own list, which nobody touches meanwhile -/
def isUn (ρ : R) (j : Nat) : Bool := match ρ[j]? with
  | some .un => true
  | _ => false
def mPeek (j : Nat) (F : List PyData → ML) : ML := fun ρ => match ρ[j]? with
  | some (.own ds) => (F ds (ρ.set j .un)).bind fun ys ρ2 => if isUn ρ2 j then .ok ys (ρ2.set j (.own ds)) else .no
  | some (.bor ds) => (F ds (ρ.set j .un)).bind fun ys ρ2 => if isUn ρ2 j then .ok ys (ρ2.set j (.bor ds)) else .no
  | _ => .no
def mKn (ds : List PyData) : ML := fun ρ => .ok ds ρ
section
variable {K : PySem.W.Frag} {hid : Addr → Prop} {B σ : L2.St} {ρ ρ2 : R} {H H2 : Hp}
theorem ownAt_un {j i : Nat} {a : Addr} : ownAt σ (ρ.set j .un) i a ↔ i ≠ j ∧ ownAt σ ρ i a := by
  unfold ownAt
  by_cases c : j = i
  · subst c
    constructor
    · rintro ⟨_, ds, h | h⟩
      · rw [List.getElem?_set, if_pos rfl] at h
        split at h <;> cases h
      · rw [List.getElem?_set, if_pos rfl] at h
        split at h <;> cases h
    · rintro ⟨h, _⟩
      exact absurd rfl h
  · rw [List.getElem?_set_ne c]
    exact ⟨fun h => ⟨fun z => c z.symm, h⟩, fun h => h.2⟩
theorem SR.cover (S : SR K T hid B H σ ρ) {j : Nat} {s : Sl} {ds : List PyData} {a : Addr} (h : ρ[j]? = some s) (hs : s.held = some ds) (ho : ownAt σ ρ j a) : SR K T (hidD hid a) B H σ (ρ.set j .un) ∧ Oa (hidD hid a) σ (ρ.set j .un) = Oa hid σ ρ := by
  have eo : Oa (hidD hid a) σ (ρ.set j .un) = Oa hid σ ρ := by
    funext b
    refine propext ⟨fun h => ?_, fun h => ?_⟩
    · rcases h with (h | h) | ⟨i, h⟩
      · exact .inl h
      · subst h; exact .inr ⟨j, ho⟩
      · exact .inr ⟨i, (ownAt_un.mp h).2⟩
    · rcases h with h | ⟨i, hz⟩
      · exact .inl (.inl h)
      · by_cases c : i = j
        · subst c
          have h1 := hz.1
          have h2 := ho.1
          rw [h1] at h2
          have z : b = a := by simpa using h2
          exact .inl (.inr z)
        · exact .inr ⟨i, ownAt_un.mpr ⟨c, hz⟩⟩
  obtain ⟨a', xs, e1, ho', h1, _⟩ := S.own_of h hs
  have ea : a' = a := by
    have z1 := ho.1
    rw [e1] at z1
    simpa using z1
  subst ea
  refine ⟨⟨by simp [S.len], fun i t e => ?_, fun i k b z1 z2 => S.one i k b (ownAt_un.mp z1).2 (ownAt_un.mp z2).2, fun i b z hz => ?_, fun b hz => ?_, fun i es e => ?_⟩, eo⟩
  · show ∃ o, _ ∧ SlV K T (fz (Oa _ _ _) H) H o t
    rw [eo]
    by_cases c : j = i
    · subst c
      rw [List.getElem?_set, if_pos rfl] at e
      split at e
      · cases e; exact ⟨_, e1, .un _⟩
      · cases e
    · rw [List.getElem?_set_ne c] at e
      exact S.rel i t e
  · obtain ⟨c, z⟩ := ownAt_un.mp z
    rcases hz with hz | hz
    · exact S.sep i b z hz
    · subst hz
      exact c (S.one i j b z ho)
  · rcases hz with hz | hz
    · exact S.hh b hz
    · subst hz; exact ⟨_, h1⟩
  · by_cases c : j = i
    · subst c
      rw [List.getElem?_set, if_pos rfl] at e
      split at e <;> cases e
    · rw [List.getElem?_set_ne c] at e
      exact S.bor i es e
theorem SR.uncover {a : Addr} (S : SR K T (hidD hid a) B H2 σ ρ2) {j : Nat} {s : Sl} {ds : List PyData} {xs : List V} (hn : ¬ hid a) (hun : ρ2[j]? = some .un ∨ ∃ d, ρ2[j]? = some (.val d)) (hs : s.held = some ds) (e1 : σ[j]? = some (some (.ref a))) (h1 : H2 a = some (.lst xs))
    (hr : RpAll K (Fz (hidD hid a) σ ρ2 H2) xs ds) (hB : ∀ es, s = .bor es → B[j]? = σ[j]?) : SR K T hid B H2 σ (ρ2.set j s) ∧ Oa hid σ (ρ2.set j s) = Oa (hidD hid a) σ ρ2 := by
  have lt : j < ρ2.length := by rcases hun with h | ⟨d, h⟩ <;> exact (List.getElem?_eq_some_iff.mp h).1
  have own : ∀ i b, ownAt σ (ρ2.set j s) i b ↔ (i = j ∧ b = a) ∨ (i ≠ j ∧ ownAt σ ρ2 i b) := fun i b => by
    unfold ownAt
    by_cases c : j = i
    · subst c
      rw [List.getElem?_set, if_pos rfl, if_pos lt, e1]
      constructor
      · rintro ⟨z, _⟩; cases z; exact .inl ⟨rfl, rfl⟩
      · rintro (⟨_, z⟩ | ⟨z, _⟩)
        · subst z
          refine ⟨rfl, ds, ?_⟩
          cases s <;> simp [Sl.held] at hs <;> subst hs <;> simp
        · exact absurd rfl z
    · rw [List.getElem?_set_ne c]
      constructor
      · intro h; exact .inr ⟨fun z => c z.symm, h⟩
      · rintro (⟨z, _⟩ | ⟨_, h⟩)
        · exact absurd z.symm c
        · exact h
  have noj : ∀ b, ¬ ownAt σ ρ2 j b := fun b ⟨_, es, h⟩ => by
    rcases hun with z | ⟨d, z⟩ <;> rw [z] at h <;> rcases h with h | h <;> cases h
  have eo : Oa hid σ (ρ2.set j s) = Oa (hidD hid a) σ ρ2 := by
    funext b
    refine propext ⟨fun h => ?_, fun h => ?_⟩
    · rcases h with h | ⟨i, h⟩
      · exact .inl (.inl h)
      · rcases (own i b).mp h with ⟨_, z⟩ | ⟨_, z⟩
        · exact .inl (.inr z)
        · exact .inr ⟨i, z⟩
    · rcases h with (h | h) | ⟨i, h⟩
      · exact .inl h
      · exact .inr ⟨j, (own j b).mpr (.inl ⟨rfl, h⟩)⟩
      · refine .inr ⟨i, (own i b).mpr (.inr ⟨fun z => ?_, h⟩)⟩
        subst z
        exact noj b h
  refine ⟨⟨by simp [S.len], fun i t e => ?_, fun i k b z1 z2 => ?_, fun i b z => ?_, fun b hz => S.hh b (.inl hz), fun i es e => ?_⟩, eo⟩
  · show ∃ o, _ ∧ SlV K T (fz (Oa _ _ _) H2) H2 o t
    rw [eo]
    by_cases c : j = i
    · subst c
      rw [List.getElem?_set, if_pos rfl, if_pos lt] at e
      cases e
      refine ⟨_, e1, ?_⟩
      cases s <;> simp [Sl.held] at hs <;> subst hs
      · exact .own h1 hr
      · exact .bor h1 hr
    · rw [List.getElem?_set_ne c] at e
      exact S.rel i t e
  · rcases (own i b).mp z1 with ⟨c1, e2⟩ | ⟨c1, q1⟩
    · rcases (own k b).mp z2 with ⟨c2, _⟩ | ⟨_, q2⟩
      · rw [c1, c2]
      · exact absurd (Or.inr e2) (S.sep k b q2)
    · rcases (own k b).mp z2 with ⟨_, e2⟩ | ⟨_, q2⟩
      · exact absurd (Or.inr e2) (S.sep i b q1)
      · exact S.one i k b q1 q2
  · rcases (own i b).mp z with ⟨_, e2⟩ | ⟨_, q⟩
    · subst e2; exact hn
    · exact fun w => S.sep i b q (.inl w)
  · by_cases c : j = i
    · subst c
      rw [List.getElem?_set, if_pos rfl, if_pos lt] at e
      cases e
      exact hB _ rfl
    · rw [List.getElem?_set_ne c] at e
      exact S.bor i es e
end
section
variable {tg elt : Expr} {ifs : List Expr} {scope : Scope} {ts : List Nat} {g : MG} {t : MT}
theorem peek_core {hid : Addr → Prop} {B σ : L2.St} {ρ : R} {H : Hp} {Q : VK} {j : Nat} {s : Sl} {ds : List PyData} {vs : List Nat} (hts : ∀ v ∈ ts, v ∈ vs) (S : SR X.K T hid B H σ ρ) (e : ρ[j]? = some s) (hs : s.held = some ds)
    (q : Res X.K T W hid B σ ρ H ((mLc (mKn ds) g t f vs (ρ.set j .un)).bind fun ys ρ2 => if isUn ρ2 j then .ok ys (ρ2.set j s) else .no) fun ds ρ' H' => ∀ a xs, H' a = none → RpAll X.K (Fz hid σ ρ' H') xs ds → Q (.ref a) (L2.upd H' a (.lst xs))) :
    tLc (iList X.K (tVar j)) (rdG X.K T ts g) (rdT X.K T W0 t) (rdE X.K T W0 f) vs σ H Q := by
  obtain ⟨a, xs, e1, ho, h1, h2⟩ := S.own_of e hs
  obtain ⟨S', eo⟩ := S.cover e hs ho
  have nh : ¬ hid a := S.sep j a ho
  have fe : Fz (hidD hid a) σ (ρ.set j .un) H = Fz hid σ ρ H := by
    show fz _ _ = fz _ _
    rw [eo]
  refine ⟨_, e1, a, rfl, ⟨xs, SqL.of h1⟩, fun D hD => ?_⟩
  have q1 : Res X.K T W (hidD hid a) B σ (ρ.set j .un) H (if wipeOk (ρ.set j .un) vs then (lcLoop g t f vs ds (wipeR (ρ.set j .un) vs) []).noex.bind fun ys ρ2 => .ok ys (restR (ρ.set j .un) ρ2 vs) else .no)
      fun ds ρ' H' => ∀ c ys, H' c = none → RpAll X.K (Fz (hidD hid a) σ ρ' H') ys ds → Q (.ref c) (L2.upd H' c (.lst ys)) := by
    have q : Res X.K T W hid B σ ρ H ((if wipeOk (ρ.set j .un) vs then (lcLoop g t f vs ds (wipeR (ρ.set j .un) vs) []).noex.bind fun ys ρ2 => .ok ys (restR (ρ.set j .un) ρ2 vs) else .no).bind fun ys ρ2 => if isUn ρ2 j then .ok ys (ρ2.set j s) else .no) _ := q
    by_cases c : wipeOk (ρ.set j .un) vs = true
    · rw [if_pos c] at q ⊢
      cases hl : lcLoop g t f vs ds (wipeR (ρ.set j .un) vs) [] with
      | no => rw [hl] at q; exact q.elim
      | ex cc ρ' => rw [hl] at q; exact q.elim
      | ok ys ρ2 =>
        rw [hl] at q
        have q : Res X.K T W hid B σ ρ H (if isUn (restR (ρ.set j .un) ρ2 vs) j then .ok ys ((restR (ρ.set j .un) ρ2 vs).set j s) else .no) _ := q
        intro H2 S2 E2 D xs2 hD2 hr2
        by_cases cu : isUn (restR (ρ.set j .un) ρ2 vs) j = true
        · rw [if_pos cu] at q
          have hun : (restR (ρ.set j .un) ρ2 vs)[j]? = some .un := by
            unfold isUn at cu
            split at cu
            · rename_i z; exact z
            · cases cu
          have keep : H2 a = some (.lst xs) := (E2.keep a (.inr rfl)).trans h1
          have fr : RpAll X.K (Fz (hidD hid a) σ (restR (ρ.set j .un) ρ2 vs) H2) xs ds := RpAll.mono E2.same _ (by rw [fe]; exact h2)
          obtain ⟨S3, eo3⟩ := S2.uncover nh (.inl hun) hs e1 keep fr (fun es z => by subst z; exact S.bor j es e)
          have fe3 : Fz hid σ ((restR (ρ.set j .un) ρ2 vs).set j s) H2 = Fz (hidD hid a) σ (restR (ρ.set j .un) ρ2 vs) H2 := by
            show fz _ _ = fz _ _
            rw [eo3]
          refine q H2 S3 ⟨?_, fun b hb => E2.keep b (.inl hb)⟩ D xs2 hD2 ?_
          · rw [fe3, ← fe]
            exact E2.same
          · rw [fe3]
            exact hr2
        · rw [if_neg cu] at q
          exact q.elim
    · rw [if_neg c] at q
      exact q.elim
  have hJ : ItOk X.K (Fz (hidD hid a) σ (ρ.set j .un) H) (L2.upd (fun _ => none) a (.lst xs)) (Itl X.K a) ds := by
    show Walk _ ds.length _ _
    rw [← h2.length]
    refine walk_list.mono (fun H' z => SqL.of (z a _ upd_same)) fun i H' x H'' hi hG ⟨e2, e3⟩ => ?_
    subst e2
    refine ⟨Same.refl _, fun O d hd hO hF => ?_⟩
    obtain ⟨v, e4, r⟩ := h2.get hd
    rw [e3] at e4
    cases e4
    rw [fe] at hF
    exact r.mono hF
  refine llc.llc_core (W := W) vs hts S' q1 hJ (fun b o z => ?_) hD
  by_cases c : b = a
  · subst c
    rw [upd_same] at z
    cases z
    exact .inr ⟨.inr rfl, h1⟩
  · rw [upd_ne c] at z
    cases z
theorem rdPeek {j : Nat} {vs : List Nat} (hts : ∀ v ∈ ts, v ∈ vs) {σ : L2.St} {H : Hp} {Q : VK} (q : rdL X.K T W (mPeek j fun ds => mLc (mKn ds) g t f vs) σ H Q) :
    tLc (iList X.K (tVar j)) (rdG X.K T ts g) (rdT X.K T W0 t) (rdE X.K T W0 f) vs σ H Q := by
  obtain ⟨hid, B, ρ, S, q⟩ := q
  unfold mPeek at q
  split at q
  · rename_i ds e
    exact peek_core hts S e rfl q
  · rename_i ds e
    exact peek_core hts S e rfl q
  · exact q.elim
theorem llcP (j : Nat) {x : Str} {p : Pos} (own : List (Str × Nat)) (hc : X.calm = true) (hN : X.N.Nodup) (ok : BlkOk X.N X.env.scope scope own)
    (hg : ∀ (s : Shared) (H : Hp) (C : Addr) (cl : List (Str × Addr)) (fp : List Addr), XG (X.blk s H scope (compEnvC scope cl C X.env) fp) T tg ts g)
    (ht : ∀ (s : Shared) (H : Hp) (C : Addr) (cl : List (Str × Addr)) (fp : List Addr), PTs (X.blk s H scope (compEnvC scope cl C X.env) fp) ifs (rdT X.K T W0 t))
    (he : ∀ (s : Shared) (H : Hp) (C : Addr) (cl : List (Str × Addr)) (fp : List Addr), XE (X.blk s H scope (compEnvC scope cl C X.env) fp) T W0 elt f) (hts : ∀ v ∈ ts, v ∈ own.map (·.2))
    (hj : X.N[j]? = some x := by rfl) (hv : Vis X.env.scope x := by first | exact Or.inl rfl | exact Or.inr (Or.inl rfl) | exact Or.inr (Or.inr rfl)) (hd : (x == ("__debug__" : Str)) = false := by decide) (hcd : (x == ("__classdict__" : Str)) = false := by decide)
    (hs : ∀ y, foldedSetIterable (.Name x p) X.env y = pure y := by intro _; rfl) : XL X T W (.ListComp elt [⟨tg, .Name x p, ifs, 0⟩] scope pos) (mPeek j fun ds => mLc (mKn ds) g t f (own.map (·.2))) :=
  (pe_lc (g := rdG X.K T ts g) (tt := rdT X.K T W0 t) (te := rdE X.K T W0 f) hc hN (pi_list (pe_var hj hv hd hcd)) ok hg ht he hs).weak fun σ H Q q => rdPeek hts q
theorem ssetLcP (i j : Nat) {x y : Str} {p py spos : Pos} (own : List (Str × Nat)) (hc : X.calm = true) (hN : X.N.Nodup) (ok : BlkOk X.N X.env.scope scope own)
    (hg : ∀ (s : Shared) (H : Hp) (C : Addr) (cl : List (Str × Addr)) (fp : List Addr), XG (X.blk s H scope (compEnvC scope cl C X.env) fp) T tg ts g)
    (ht : ∀ (s : Shared) (H : Hp) (C : Addr) (cl : List (Str × Addr)) (fp : List Addr), PTs (X.blk s H scope (compEnvC scope cl C X.env) fp) ifs (rdT X.K T W0 t))
    (he : ∀ (s : Shared) (H : Hp) (C : Addr) (cl : List (Str × Addr)) (fp : List Addr), XE (X.blk s H scope (compEnvC scope cl C X.env) fp) T W0 elt f) (hts : ∀ v ∈ ts, v ∈ own.map (·.2))
    (hsw : swapsWith (.ListComp elt [⟨tg, .Name x p, ifs, 0⟩] scope pos) (some (.Name y py)) spos.line X.env = pure true)
    (hy : X.N[i]? = some y := by rfl) (hyl : X.env.scope.names.lookup y = some .local := by rfl)
    (hj : X.N[j]? = some x := by rfl) (hv : Vis X.env.scope x := by first | exact Or.inl rfl | exact Or.inr (Or.inl rfl) | exact Or.inr (Or.inr rfl)) (hd : (x == ("__debug__" : Str)) = false := by decide) (hcd : (x == ("__classdict__" : Str)) = false := by decide)
    (hs : ∀ y, foldedSetIterable (.Name x p) X.env y = pure y := by intro _; rfl) : XS X T W (.Assign [.Name y py] (.ListComp elt [⟨tg, .Name x p, ifs, 0⟩] scope pos) spos) (mSet i (mLst (mPeek j fun ds => mLc (mKn ds) g t f (own.map (·.2))))) :=
  (ps_setLc (g := rdG X.K T ts g) (tt := rdT X.K T W0 t) (te := rdE X.K T W0 f) hc hN hy hyl hsw (pi_list (pe_var hj hv hd hcd)) ok hg ht he hs).weak fun D σ H q => rdPeek hts (rdL_set q)
end
/-! ### list.remove of a number -/
def removeD (ds : List PyData) (d : PyData) : Option (List PyData) := match intsD ds, d with
  | some ns, .int k => if k ∈ ns then some ((ns.erase k).map .int) else none
  | _, _ => none
theorem first_of {k : Int} : ∀ {ns : List Int}, k ∈ ns → ∃ j, ns[j]? = some k ∧ (∀ m : Nat, m < j → ns[m]? ≠ some k) ∧ ns.eraseIdx j = ns.erase k
  | n :: ns, h => by
    by_cases e : n = k
    · subst e
      exact ⟨0, rfl, fun m hm => absurd hm (by omega), by simp⟩
    · have h' : k ∈ ns := (List.mem_cons.mp h).resolve_left fun z => e z.symm
      obtain ⟨j, h1, h2, h3⟩ := first_of h'
      refine ⟨j + 1, by simpa using h1, fun m hm => ?_, ?_⟩
      · cases m with
        | zero => simpa using e
        | succ m => simpa using h2 m (by omega)
      · rw [List.eraseIdx_cons_succ, h3, List.erase_cons_tail (by simpa using e)]
theorem sremove (i : Nat) {x : Str} {p apos cpos : Pos} (ha : XE X T W a f) (hN : X.N[i]? = some x := by rfl) (hv : Vis X.env.scope x := by first | exact Or.inl rfl | exact Or.inr (Or.inl rfl) | exact Or.inr (Or.inr rfl)) (hd : (x == ("__debug__" : Str)) = false := by decide)
    (hcd : (x == ("__classdict__" : Str)) = false := by decide) (hbase : attributeBase (.Name x p) "remove" X.env (eval (.Name x p) X.env) = eval (.Name x p) X.env := by rfl)
    (hfew : ((backTo cpos (starEach [a] X.env)).all (fun x => !x.1) && (backToKw cpos (keywordEach [] X.env)).all (fun x => x.1.isSome)
      && decide (([a] : List Expr).length + ([] : List Keyword).length + (if ([] : List Keyword).isEmpty then 0 else 1) < 30)) = true := by rfl)
    (hline : (apos.endLine == cpos.line) = true := by rfl) (hs : starEach [a] X.env = (false, eval a X.env) :: starEach [] X.env := by rfl) (hplain : (backTo cpos (starEach [] X.env)).any (·.1) = false := by rfl)
    (hsw : swapsWith (.Call (.Attribute (.Name x p) "remove" apos) [a] [] cpos) none pos.line X.env = pure false := by rfl) :
    XS X T W (.Expr (.Call (.Attribute (.Name x p) "remove" apos) [a] [] cpos) pos) (mMut i removeD f) :=
  (ps_expr (pe_bm PySem.F.plainAttrs_list PySem.F.slot_list_remove PySem.F.type_list_remove mt_remove (pe_var hN hv hd hcd) (pa_cons ha pa_nil hs) hbase hfew hline hs hplain) hsw).weak fun D σ H q => by
    refine rdMut i (op := removeD) (fun F H a xs ds es x d Q h1 h2 h3 hF ho hq => ?_) q
    unfold removeD at ho
    split at ho
    · rename_i ns k hn
      split at ho
      · rename_i hk
        cases ho
        rw [intsD_of hn] at h2
        have ex := rp_ints h2
        obtain ⟨j, e1, e2, e3⟩ := first_of hk
        refine ⟨a, ns, k, j, rfl, by rw [rp_int h3], by rw [h1, ex], e1, e2, ?_⟩
        rw [e3]
        exact hq _ RpAll.ints
      · cases ho
    · cases ho
end
end VL

set_option Elab.async false
set_option linter.all false
set_option maxRecDepth 100000
set_option maxHeartbeats 4000000
/-! V9: what the printed proofs lean on: bundles of facts, reading names, chains as tests. -/
namespace VL
open PySem PySem.Spec PyProof.Rows L2
/-! ### reading a name whose list may be own -/
def mRd (i : Nat) : ME := fun ρ => match ρ[i]? with
  | some (.val d) => .ok d ρ
  | some (.own ds) => .ok (.list ds) (ρ.set i (.val (.list ds)))
  | _ => .no
def peekR (ρ : R) (i : Nat) : Option (List PyData) := match ρ[i]? with
  | some (.own ds) => some ds
  | some (.bor ds) => some ds
  | some (.val (.list ds)) => some ds
  | _ => none
def mLenP (i : Nat) : ME := fun ρ => match peekR ρ i with
  | some ds => .ok (.int (ds.length : Nat)) ρ
  | none => .no
def mTruP (i : Nat) : MT := fun ρ => match peekR ρ i with
  | some ds => .ok (!ds.isEmpty) ρ
  | none => .no
def mIxP (i : Nat) (g : ME) : ME := fun ρ => match peekR ρ i with
  | none => .no
  | some _ => (g ρ).bind fun d ρ1 => match d with
    | .int k => match peekR ρ1 i with
      | some ds => Oc.opt (atI ds k) ρ1
      | none => .no
    | _ => .no
section
variable {X : Cx} {T : VT} {W : WX} {pos p2 : Pos} {e a b c : Expr} {f g h : ME}
theorem SR.peek {K : PySem.W.Frag} {T : VT} {hid : Addr → Prop} {B σ : L2.St} {ρ : R} {H : Hp} (S : SR K T hid B H σ ρ) {i : Nat} {ds : List PyData} (h : peekR ρ i = some ds) :
    ∃ a xs, σ[i]? = some (some (.ref a)) ∧ H a = some (.lst xs) ∧ RpAll K (Fz hid σ ρ H) xs ds := by
  unfold peekR at h
  split at h
  · rename_i e
    cases h
    obtain ⟨o, e1, r⟩ := S.rel i _ e
    cases r with
    | own h1 h2 => exact ⟨_, _, e1, h1, h2⟩
  · rename_i e
    cases h
    obtain ⟨o, e1, r⟩ := S.rel i _ e
    cases r with
    | bor h1 h2 => exact ⟨_, _, e1, h1, h2⟩
  · rename_i e
    cases h
    obtain ⟨o, e1, r⟩ := S.rel i _ e
    cases r with
    | val r =>
      cases r with
      | lst h1 h2 => exact ⟨_, _, e1, fz_le _ _ h1, h2⟩
  · cases h
theorem xrd (i : Nat) {x : Str} {pos : Pos} (hN : X.N[i]? = some x := by rfl) (hv : Vis X.env.scope x := by first | exact Or.inl rfl | exact Or.inr (Or.inl rfl) | exact Or.inr (Or.inr rfl)) (hd : (x == ("__debug__" : Str)) = false := by decide)
    (hcd : (x == ("__classdict__" : Str)) = false := by decide) : XE X T W (.Name x pos) (mRd i) := (pe_var hN hv hd hcd).weak fun σ H Q ⟨hid, B, ρ, S, r⟩ => by
  unfold mRd at r
  split at r
  · rename_i d e
    obtain ⟨o, e1, r1⟩ := S.rel i _ e
    cases r1 with
    | val r1 => exact ⟨_, e1, Res.here S r _ r1⟩
  · rename_i ds e
    obtain ⟨v, e1, S1, E1, r1⟩ := S.freeze e
    exact ⟨_, e1, r H S1 E1 v r1⟩
  · exact r.elim
theorem xlenP (i : Nat) {x : Str} {p q : Pos} (hg : Gl X "len") (hm : X.mg "len" = none) (hN : X.N[i]? = some x := by rfl) (hv : Vis X.env.scope x := by first | exact Or.inl rfl | exact Or.inr (Or.inl rfl) | exact Or.inr (Or.inr rfl)) (hd : (x == ("__debug__" : Str)) = false := by decide)
    (hcd : (x == ("__classdict__" : Str)) = false := by decide) (he : starEach [.Name x p] X.env = (false, eval (.Name x p) X.env) :: starEach [] X.env := by rfl) (hpl : (backTo pos (starEach [] X.env)).any (·.1) = false := by rfl) :
    XE X T W (.Call (.Name "len" q) [.Name x p] [] pos) (mLenP i) :=
  (pe_callB call_len_seq hg hm PySem.boot_len (pa_cons (pe_var hN hv hd hcd) pa_nil he) (by decide) (by decide) he hpl).weak fun σ H Q ⟨hid, B, ρ, S, q⟩ => by
    unfold mLenP at q
    cases h : peekR ρ i with
    | none => rw [h] at q; exact q.elim
    | some ds =>
      rw [h] at q
      obtain ⟨a, xs, e1, h1, h2⟩ := S.peek h
      exact ⟨_, e1, a, xs, rfl, .inl (SqL.of h1), by rw [h2.length]; exact Res.here S q _ (.int _)⟩
theorem truP (i : Nat) {x : Str} {pos : Pos} (hN : X.N[i]? = some x := by rfl) (hv : Vis X.env.scope x := by first | exact Or.inl rfl | exact Or.inr (Or.inl rfl) | exact Or.inr (Or.inr rfl)) (hd : (x == ("__debug__" : Str)) = false := by decide)
    (hcd : (x == ("__classdict__" : Str)) = false := by decide) (hw : ∀ whole, isTrue (.Name x pos) X.env whole = (do let v ← whole; standAt (Expr.Name x pos).pos; holding [v] (truthy v)) := by intro _; rfl) : XT X T W (.Name x pos) (mTruP i) :=
  (pt_truth (pe_var hN hv hd hcd) hw).weak fun σ H Q ⟨hid, B, ρ, S, q⟩ => by
    unfold mTruP at q
    cases h : peekR ρ i with
    | none => rw [h] at q; exact q.elim
    | some ds =>
      rw [h] at q
      obtain ⟨a, xs, e1, h1, h2⟩ := S.peek h
      refine ⟨_, e1, _, .inl ⟨_, SqL.of h1, rfl⟩, ?_⟩
      have z := Res.here S q
      cases h2 <;> exact z
theorem xixP (i : Nat) {x : Str} {p : Pos} (hb : XE X T W b g) (hs : PlainIx b := by exact fun _ _ => rfl) (hN : X.N[i]? = some x := by rfl) (hv : Vis X.env.scope x := by first | exact Or.inl rfl | exact Or.inr (Or.inl rfl) | exact Or.inr (Or.inr rfl)) (hd : (x == ("__debug__" : Str)) = false := by decide)
    (hcd : (x == ("__classdict__" : Str)) = false := by decide) : XE X T W (.Subscript (.Name x p) b pos) (mIxP i g) :=
  (pe_ix ix_list (pe_var hN hv hd hcd) hb hs).weak fun σ H Q ⟨hid, B, ρ, S, q⟩ => by
    unfold mIxP at q
    cases h0 : peekR ρ i with
    | none => rw [h0] at q; exact q.elim
    | some ds0 =>
      rw [h0] at q
      obtain ⟨a, xs0, e1, _, _⟩ := S.peek h0
      refine ⟨_, e1, hid, B, ρ, S, (Res.bind q).imp fun d ρ1 H1 S1 E1 q1 y ry => ?_⟩
      cases d with
      | int k =>
        cases h : peekR ρ1 i with
        | none => simp only [h] at q1; exact q1.elim
        | some ds =>
          simp only [h] at q1
          obtain ⟨a', xs, e2, h1, h2⟩ := S1.peek h
          rw [e1] at e2
          cases e2
          obtain ⟨r, hr, q2⟩ := Res.opt S1 q1
          obtain ⟨v, e3, rv⟩ := rpall_at h2 hr
          exact ⟨a, xs, k, v, rfl, rp_int ry, SqL.of h1, e3, q2 H1 (Same.refl _) v rv⟩
      | _ => exact q1.elim
/-! ### chains as tests -/
theorem tchain {o o' : CmpOp} {r r' : R2} {op op' : PyData → PyData → Option PyData} (ho : OpR X (compareOp o) r) (ho' : OpR X (compareOp o') r') (hp : Pure2 X.K r op) (hp' : Pure2 X.K r' op') (hb1 : ∀ d e res, op d e = some res → ∃ k, res = .bool k)
    (ha : XE X T W a f) (hb : XE X T W b g) (hc : XE X T W c h) (hm : lastMarks [o, o'] [b, c] = false) : XT X T W (.Compare a [o, o'] [b, c] pos) (mB (mChain op op' f g h)) :=
  (pt_chain ho ho' ha hb hc hm).weak fun σ H Q q => by
    have z := rdB q
    exact rdChain hp hp' hb1 z
end

/-! ### facts in bundles -/
/-- a def of the text, where it stands and how it binds -/
structure At (K : PySem.W.Frag) (mg : Str → Option Value) (x : Str) (st : Stmt) (ps : List Str) : Prop where
  ex : ∃ f fd, mg x = some (.ref f) ∧ Fun K x x st f fd ∧ Binds K fd ps []
/-- a def that computes what its mirror does -/
structure Does (P : Program) (w : World) (K : PySem.W.Frag) (mg : Str → Option Value) (base : Heap) (T : VT) (x : Str) (ps : List Str) (k : Nat) (m : Mir) : Prop where
  ex : ∃ f fd, mg x = some (.ref f) ∧ PySem.W.keepIn K (.ref f) = true ∧ Binds K fd ps [] ∧ FnOk P w K mg base (L2.CX P w) k f fd ps (spM K T m)
structure Exc (K : PySem.W.Frag) (mg : Str → Option Value) (T : VT) (x : Str) (c : Nat) : Prop where
  g : mg x = some (.ref (T.ea c))
  x : PySem.W.excIn K (T.ea c) [.type "ValueError", .type "Exception", .type "BaseException", .type "object"] "ValueError.__new__" = true
  k : PySem.W.keepIn K (.ref (T.ea c)) = true
  b : PySem.W.subIn K (.ref (T.ea c)) (.type "BaseException") = some true
  t : PySem.W.typeIn K (.ref (T.ea c)) = some (.type "type")
section
variable {P : Program} {w : World} {K : PySem.W.Frag} {T : VT} {mg : Str → Option Value} {base : Heap}
theorem does {x : Str} {st : Stmt} {N ps : List Str} {k : Nat} {m : MS} (F : At K mg x st ps) (S : FnScope N ps (defScope st)) (kk : Nat) (hk : N.length = ps.length + kk)
    (hbody : ∀ (f : Addr) (cdv : Value) (A : Around) (outer : List Env) (s : Shared) (H : Hp) (E : XK), Room k (A.deeper (envOfC x (defScope st) s.heap.objs.size f cdv)) →
      XSs (cxOf (L2.CX P w) P w K mg base N x (defScope st) f cdv A outer s H E) T (WOf E) (defBody st) m) : Does P w K mg base T x ps (k + 1) (mFn ps.length kk m) := by
  obtain ⟨f, fd, h1, h2, h3⟩ := F.ex
  exact ⟨f, fd, h1, h2.kp, h3, fn_ok h2 S kk hk fun cdv A outer s H E hr => hbody f cdv A outer s H E hr⟩
end
section
variable {X : Cx} {T : VT} {W : WX} {pos p : Pos} {a : Expr} {es : List Expr} {fa : MA} {k : Nat} {ps : List Str} {m : Mir} {x : Str}
theorem fnd {n : Nat} (D : Does X.prog X.w X.K X.mg X.base T x ps k m) (hm : X.mg x = some (.ref (T.fa n))) : FnD X.prog X.w X.K X.mg X.base T k n m := by
  obtain ⟨f, fd, h1, h2, h3, h4⟩ := D.ex
  rw [hm] at h1
  cases h1
  exact ⟨fd, ps, h2, h3, h4⟩
theorem xdo (D : Does X.prog X.w X.K X.mg X.base T x ps k m) (hr : Room k X.A) (hg : Gl X x) (tk : Takes X W) (ha : XA X T W (a :: es) fa) (hdb : (x == ("__debug__" : Str)) = false := by decide)
    (he : starEach (a :: es) X.env = (false, eval a X.env) :: starEach es X.env := by rfl) (hpl : (backTo pos (starEach es X.env)).any (·.1) = false := by rfl) : XE X T W (.Call (.Name x p) (a :: es) [] pos) (mCall m fa) := by
  obtain ⟨f, fd, h1, h2, h3, h4⟩ := D.ex
  exact xcall h4 hr hg h1 h2 h3 tk ha hdb he hpl
theorem srs (c : Nat) {m : Str} {j : Nat} {q pos2 : Pos} (hc : X.calm = true) (tk : Takes X W) (F : Exc X.K X.mg T x c) (hg : Gl X x) (hdb : (x == ("__debug__" : Str)) = false := by decide) :
    XS X T W (.Raise (some (.Call (.Name x p) [.Constant (.str m) j q] [] pos2)) none pos) (mRaise c) := sraise c hc tk PySem.F.excBase_ValueError F.x F.g F.k (raises_own F.b F.t) hg rfl hdb
end
end VL
namespace VL
open PySem PySem.Spec PyProof.Rows L2
theorem b_len : bootBuiltins "len" = some (.builtin "len") := by decide +kernel
theorem b_all : bootBuiltins "all" = some (.builtin "all") := by decide +kernel
theorem b_any : bootBuiltins "any" = some (.builtin "any") := by decide +kernel
theorem b_abs : bootBuiltins "abs" = some (.builtin "abs") := by decide +kernel
theorem b_max : bootBuiltins "max" = some (.builtin "max") := by decide +kernel
theorem b_min : bootBuiltins "min" = some (.builtin "min") := by decide +kernel
theorem b_sum : bootBuiltins "sum" = some (.builtin "sum") := by decide +kernel
theorem b_sorted : bootBuiltins "sorted" = some (.builtin "sorted") := by decide +kernel
theorem b_int : bootBuiltins "int" = some (.type "int") := by decide +kernel
theorem b_bool : bootBuiltins "bool" = some (.type "bool") := by decide +kernel
theorem b_str : bootBuiltins "str" = some (.type "str") := by decide +kernel
theorem b_list : bootBuiltins "list" = some (.type "list") := by decide +kernel
theorem b_tuple : bootBuiltins "tuple" = some (.type "tuple") := by decide +kernel
/-- the built-in names that the text uses are not the module's -/
structure Blt (mg : Str → Option Value) : Prop where
  len : mg "len" = none
  all : mg "all" = none
  any : mg "any" = none
  abs : mg "abs" = none
  max : mg "max" = none
  min : mg "min" = none
  sum : mg "sum" = none
  sorted : mg "sorted" = none
  int : mg "int" = none
  bool : mg "bool" = none
  str : mg "str" = none
  list : mg "list" = none
  tuple : mg "tuple" = none
  range : mg "range" = none
  set : mg "set" = none
  isinstance : mg "isinstance" = none
  zip : mg "zip" = none
  dict : mg "dict" = none
structure CInt (mg : Str → Option Value) (x : Str) (i : Int) : Prop where
  ex : ∃ t, mg x = some (.int i t)
structure CStr (mg : Str → Option Value) (x : Str) (z : Str) : Prop where
  ex : ∃ t, mg x = some (.str z t)
structure CDat (K : PySem.W.Frag) (mg : Str → Option Value) (x : Str) (d : PyData) : Prop where
  ex : ∃ a, mg x = some (.ref a) ∧ ∀ F, Rp K F (.ref a) d
section
variable {X : Cx} {T : VT} {W : WX} {pos : Pos} {x : Str}
theorem xci {i : Int} (hg : Gl X x) (h : CInt X.mg x i) (hd : (x == ("__debug__" : Str)) = false := by decide) : XE X T W (.Name x pos) (mC (.int i)) := by
  obtain ⟨t, e⟩ := h.ex
  exact xglob (v := .int i) hg e ⟨t, rfl⟩ (fun _ => .int i) hd
theorem xcs {z : Str} (hg : Gl X x) (h : CStr X.mg x z) (hd : (x == ("__debug__" : Str)) = false := by decide) : XE X T W (.Name x pos) (mC (.str z)) := by
  obtain ⟨t, e⟩ := h.ex
  exact xglob (v := .str z) hg e ⟨t, rfl⟩ (fun _ => .str z) hd
theorem xcd {d : PyData} (hg : Gl X x) (h : CDat X.K X.mg x d) (hd : (x == ("__debug__" : Str)) = false := by decide) : XE X T W (.Name x pos) (mC d) := by
  obtain ⟨a, e, r⟩ := h.ex
  exact xglob (v := .ref a) hg e rfl r hd
end
end VL

set_option Elab.async false
set_option linter.all false
set_option maxRecDepth 100000
set_option maxHeartbeats 4000000
/-! V9b: tuple * int, for any number. -/
namespace VL
open PySem PySem.Spec PyProof.Rows L2
theorem tuple_mul1W (l : Addr) (items : Array Value) (n : Nat) (dd : Option Addr) (sl : Array (Option Value)) (u : Tok) :
    Meets (Builtin.«tuple.__mul__» ⟨[.ref l, .int 1 u], []⟩) (fun _ R s => s.heap.get? l = some { cls := .type "tuple", dict := dd, data := .seq items n, slots := sl } ∧ R (.ok (.ret (Value.ref l))) s) :=
  .of_wp fun prog w A R s h => by
    obtain ⟨hp, g, d, tk, os⟩ := s
    obtain ⟨hl, h⟩ := h
    have f1 := AutoSeq1.idx_int
    wp_walk using wpAny_loadPart' hl
    repeat (first
      | (refine wpAny_ite_false (decide_eq_false (by decide)) ?_; wp_walk using wpAny_loadPart' hl)
      | (refine wpAny_ite_true (decide_eq_true (by simp)) ?_; wp_walk using wpAny_loadPart' hl))
    exact ⟨_, rfl, h⟩
theorem tuple_mul0W (l : Addr) (items : Array Value) (n : Nat) (dd : Option Addr) (sl : Array (Option Value)) (x : Int) (u : Tok) (c0 : (decide (x < -(2 ^ 63)) || decide (x ≥ 2 ^ 63)) = false) (c1 : (items.isEmpty || x == 1) = false) (c2 : (decide (x ≤ 0) || items.isEmpty) = true) :
    Meets (Builtin.«tuple.__mul__» ⟨[.ref l, .int x u], []⟩) (fun _ R s => s.heap.get? l = some { cls := .type "tuple", dict := dd, data := .seq items n, slots := sl } ∧
      R (.ok (.ret (Value.ref s.heap.objs.size))) { s with heap := s.heap.push { cls := Value.type "tuple", data := Data.seq #[] }, toks := s.toks }) :=
  .of_wp fun prog w A R s h => by
    obtain ⟨hp, g, d, tk, os⟩ := s
    obtain ⟨hl, h⟩ := h
    have f1 := AutoSeq1.idx_int
    wp_walk using wpAny_loadPart' hl
    repeat (first
      | (refine wpAny_ite_false (decide_eq_false (by rw [c0]; exact Bool.false_ne_true)) ?_; wp_walk using wpAny_loadPart' hl)
      | (refine wpAny_ite_false (decide_eq_false (by rw [c1]; exact Bool.false_ne_true)) ?_; wp_walk using wpAny_loadPart' hl)
      | (refine wpAny_ite_true (decide_eq_true (by rw [c2])) ?_; wp_walk using wpAny_loadPart' hl))
    exact ⟨_, rfl, h⟩
def rRepT1 (K : PySem.W.Frag) : R2 := fun x y H Q => ∃ l xs, x = .ref l ∧ y = .int 1 ∧ SqT K H l xs ∧ Q (.ref l) H
def rRepT0 (K : PySem.W.Frag) : R2 := fun x y H Q => ∃ l k xs, x = .ref l ∧ y = .int k ∧ SqT K H l xs ∧ xs ≠ [] ∧ k ≤ 0 ∧ -1000 ≤ k ∧ ∀ p, H p = none → Q (.ref p) (upd H p (.tup []))
section
variable {X : Cx}
theorem op_repT1 : OpR X (binaryOp .Mult) (rRepT1 X.K) := by
  intro pins s σ H x y v u Q I rx ry h
  obtain ⟨l, xs, rfl, rfl, hT, q⟩ := h
  cases rx
  obtain ⟨t, rfl⟩ := ry
  obtain ⟨its, r, ⟨⟨cls, dd, data, sl⟩, ho, hc, n, hd⟩, hs⟩ := I.tuple hT
  simp only at hc hd
  subst hc hd
  refine wpAny_binaryOp_repeat_ref (T := "tuple") (U := "int") (by decide) ⟨_, ho, rfl⟩ (fun s' => typeIs_int s' 1 t) noFill_tuple_mul F.fills_int_mul F.slot_int_rmul repeat_tuple F.slot_int_index.lookup
    (call_meets F.slot_int_rmul (typeIs_int s 1 t) F.entry_int_rmul (F.args_int_rmul_2 _ _) (int_rmul_tuple 1 t l its.toArray n dd sl)
      ⟨ho, rfl, ⟨_, ho, rfl⟩, call_meets F.slot_tuple_mul ⟨_, ho, rfl⟩ F.entry_tuple_mul (F.args_tuple_mul_2 _ _) (tuple_mul1W l its.toArray n dd sl t) ⟨ho, ?_⟩⟩)
  exact ⟨.ref l, H, I, rfl, q⟩
theorem op_repT0 : OpR X (binaryOp .Mult) (rRepT0 X.K) := by
  intro pins s σ H x y v u Q I rx ry h
  obtain ⟨l, k, xs, rfl, rfl, hT, hne, h1, h2, q⟩ := h
  cases rx
  obtain ⟨t, rfl⟩ := ry
  obtain ⟨its, r, ⟨⟨cls, dd, data, sl⟩, ho, hc, n, hd⟩, hs⟩ := I.tuple hT
  simp only at hc hd
  subst hc hd
  have hle : its.length = xs.length := r.length.symm
  have hn : its ≠ [] := fun e => hne (by
    rw [e] at hle
    exact List.eq_nil_of_length_eq_zero hle.symm)
  have hi : its.toArray.isEmpty = false := by
    cases its with
    | nil => exact absurd rfl hn
    | cons a b => rfl
  have c0 : (decide (k < -(2 ^ 63)) || decide (k ≥ 2 ^ 63)) = false := by
    rw [decide_eq_false (by omega), decide_eq_false (by omega)] <;> rfl
  have c1 : (its.toArray.isEmpty || k == 1) = false := by
    rw [hi, Bool.false_or]
    exact beq_eq_false_iff_ne.mpr (by omega)
  have c2 : (decide (k ≤ 0) || its.toArray.isEmpty) = true := by
    rw [decide_eq_true h1]; rfl
  refine wpAny_binaryOp_repeat_ref (T := "tuple") (U := "int") (by decide) ⟨_, ho, rfl⟩ (fun s' => typeIs_int s' k t) noFill_tuple_mul F.fills_int_mul F.slot_int_rmul repeat_tuple F.slot_int_index.lookup
    (call_meets F.slot_int_rmul (typeIs_int s k t) F.entry_int_rmul (F.args_int_rmul_2 _ _) (int_rmul_tuple k t l its.toArray n dd sl)
      ⟨ho, rfl, ⟨_, ho, rfl⟩, call_meets F.slot_tuple_mul ⟨_, ho, rfl⟩ F.entry_tuple_mul (F.args_tuple_mul_2 _ _) (tuple_mul0W l its.toArray n dd sl k t c0 c1 c2) ⟨ho, ?_⟩⟩)
  refine ⟨.ref s.heap.objs.size, _, I.laid (t' := s.toks) (o := .tup []) (fun b ob q => Heap.get?_push_of_some _ q) (Nat.le_refl _) ?_, rfl, q _ (I.hok.fresh (Nat.le_refl _))⟩
  exact ⟨by simp, [], .nil, IsTup.new _ _⟩
end
end VL

set_option Elab.async false
set_option linter.all false
set_option maxRecDepth 100000
set_option maxHeartbeats 4000000
/-! V10: repetition, extend, more. -/
namespace VL
open PySem PySem.Spec PyProof.Rows L2
def mYes : MT := fun ρ => .ok true ρ
theorem _root_.L2.PTs.weak {X : Cx} {ifs : List Expr} {t t' : TT} (h : PTs X ifs t) (w : ∀ σ H Q, t' σ H Q → t σ H Q) : PTs X ifs t' := ⟨fun pins s σ H Q I q => h.run pins s σ H Q I (w σ H Q q)⟩
theorem pts_nilM {X : Cx} {T : VT} {W : WX} : PTs X [] (rdT X.K T W mYes) := pts_nil.weak fun σ H Q ⟨hid, B, ρ, S, q⟩ => Res.here S q
def mulD (d e : PyData) : Option PyData := match d, e with
  | .list ds, .int k => if decide (k.natAbs < 9223372036854775808 ∧ ds.length * k.toNat ≤ 16777216) then some (.list (List.replicate k.toNat ds).flatten) else none
  | .tuple ds, .int k => if decide (ds.isEmpty = false ∧ ds.length ≤ 1000 ∧ k.natAbs ≤ 1000) then some (.tuple (List.replicate k.toNat ds).flatten) else none
  | d, e => mulI d e
theorem flat_len {α : Type} (l : List α) : ∀ k : Nat, (List.replicate k l).flatten.length = k * l.length
  | 0 => by simp
  | k + 1 => by rw [List.replicate_succ, List.flatten_cons, List.length_append, flat_len l k, Nat.succ_mul, Nat.add_comm]
def rMulD (K : PySem.W.Frag) : R2 := fun x y H Q => rRep x y H Q ∨ rRepT K x y H Q ∨ rRepT1 K x y H Q ∨ rRepT0 K x y H Q ∨ rI CMulW (fun i j => .int (i * j)) x y H Q
theorem op_mulD {X : Cx} : OpR X (binaryOp .Mult) (rMulD X.K) := op_rep.or (op_repT.or (op_repT1.or (op_repT0.or op_mulW)))
theorem pure_mulD {K : PySem.W.Frag} : Pure2 K (rMulD K) mulD := by
  intro O H x y d e res Q hO rx ry ho q
  unfold mulD at ho
  split at ho
  · split at ho
    · rename_i hz
      cases ho
      have hk := of_decide_eq_true hz
      obtain ⟨a, xs, rfl, h1, h2⟩ := rp_lst rx
      refine .inl ⟨a, _, xs, rfl, rp_int ry, fz_le _ _ h1, by have := hk.1; omega, by have := hk.1; omega, by rw [h2.length, sizeLine_eq]; exact hk.2, fun p hp => ?_⟩
      obtain ⟨sm, r⟩ := lst_new hO hp (h2.rep _)
      exact q _ _ sm r
    · cases ho
  · split at ho
    · rename_i ds k hz
      cases ho
      have hk := of_decide_eq_true hz
      obtain ⟨a, xs, rfl, h1, h2⟩ := rp_tup rx
      have hne : xs ≠ [] := fun e => by
        have e' := (rpall_nil h2).mp e
        subst e'
        cases hk.1
      by_cases c1 : k = 1
      · subst c1
        have e : (List.replicate (1 : Int).toNat ds).flatten = ds := by show (List.replicate 1 ds).flatten = ds; simp
        rw [e] at q
        exact .inr (.inr (.inl ⟨a, xs, rfl, rp_int ry, seqT_same fz_le h1, q _ H (Same.refl _) rx⟩))
      · by_cases c0 : k ≤ 0
        · have e : (List.replicate k.toNat ds).flatten = [] := by rw [show k.toNat = 0 by omega]; rfl
          rw [e] at q
          refine .inr (.inr (.inr (.inl ⟨a, k, xs, rfl, rp_int ry, seqT_same fz_le h1, hne, c0, by have := hk.2; omega, fun p hp => ?_⟩)))
          obtain ⟨sm, r⟩ := tup_new hO hp (RpAll.nil (K := K))
          exact q _ _ sm r
        · refine .inr (.inl ⟨a, k, xs, rfl, rp_int ry, seqT_same fz_le h1, hne, by omega, by have := hk.2; omega, by rw [h2.length]; exact hk.2.1, fun p hp => ?_⟩)
          obtain ⟨sm, r⟩ := tup_new hO hp (h2.rep _)
          exact q _ _ sm r
    · cases ho
  · exact .inr (.inr (.inr (.inr (pure_mul O H x y d e res Q hO rx ry ho q))))
/-! str(x), max(xs), min(xs) -/
def strD : List PyData → Option PyData
  | [.int i] => if decide (i.natAbs.log2 < 1920) then some (.str (toString i)) else none
  | [.str z] => some (.str z)
  | _ => none
def maxI : Int → List Int → Int
  | m, [] => m
  | m, n :: ns => maxI (if n > m then n else m) ns
def minI : Int → List Int → Int
  | m, [] => m
  | m, n :: ns => minI (if n < m then n else m) ns
def maxD : List PyData → Option PyData
  | [.list ds] => match intsD ds with
    | some (n :: ns) => some (.int (maxI n ns))
    | _ => none
  | _ => none
def minD : List PyData → Option PyData
  | [.list ds] => match intsD ds with
    | some (n :: ns) => some (.int (minI n ns))
    | _ => none
  | _ => none
def extendD (ds : List PyData) (d : PyData) : Option (List PyData) := match d with
  | .list es => if fits (ds.length + es.length) then some (ds ++ es) else none
  | _ => none
section
variable {X : Cx} {T : VT} {W : WX} {pos : Pos} {a : Expr} {f : ME}
theorem sextend (i : Nat) {x : Str} {p apos cpos : Pos} (ha : XE X T W a f) (hN : X.N[i]? = some x := by rfl) (hv : Vis X.env.scope x := by first | exact Or.inl rfl | exact Or.inr (Or.inl rfl) | exact Or.inr (Or.inr rfl)) (hd : (x == ("__debug__" : Str)) = false := by decide)
    (hcd : (x == ("__classdict__" : Str)) = false := by decide) (hbase : attributeBase (.Name x p) "extend" X.env (eval (.Name x p) X.env) = eval (.Name x p) X.env := by rfl)
    (hfew : ((backTo cpos (starEach [a] X.env)).all (fun x => !x.1) && (backToKw cpos (keywordEach [] X.env)).all (fun x => x.1.isSome)
      && decide (([a] : List Expr).length + ([] : List Keyword).length + (if ([] : List Keyword).isEmpty then 0 else 1) < 30)) = true := by rfl)
    (hline : (apos.endLine == cpos.line) = true := by rfl) (hs : starEach [a] X.env = (false, eval a X.env) :: starEach [] X.env := by rfl) (hplain : (backTo cpos (starEach [] X.env)).any (·.1) = false := by rfl)
    (hsw : swapsWith (.Call (.Attribute (.Name x p) "extend" apos) [a] [] cpos) none pos.line X.env = pure false := by rfl) :
    XS X T W (.Expr (.Call (.Attribute (.Name x p) "extend" apos) [a] [] cpos) pos) (mMut i extendD f) :=
  (ps_expr (pe_bm PySem.F.plainAttrs_list PySem.F.slot_list_extend PySem.F.type_list_extend mt_extend (pe_var hN hv hd hcd) (pa_cons ha pa_nil hs) hbase hfew hline hs hplain) hsw).weak fun D σ H q => by
    refine rdMut i (op := extendD) (fun F H a xs ds es x d Q h1 h2 h3 hF ho hq => ?_) q
    unfold extendD at ho
    split at ho
    · split at ho
      · rename_i hz
        cases ho
        obtain ⟨b, zs, rfl, h4, h5⟩ := rp_lst h3
        exact ⟨a, b, xs, zs, rfl, rfl, h1, hF _ _ h4, by rw [h2.length, h5.length]; exact sz_fits hz, hq _ (h2.append h5)⟩
      · cases ho
    · cases ho
end
end VL

set_option Elab.async false
set_option linter.all false
set_option maxRecDepth 100000
set_option maxHeartbeats 4000000
/-! V11: the law's end: from the mirror's answer to the row. -/
namespace VL
open PySem PySem.Spec PyProof.Rows L2
theorem at_mk {K : PySem.W.Frag} {h : Heap} {mg : Str → Option Value} {x : Str} {st : Stmt} {ps : List Str} {f : Addr} {od an : Option Addr} {sl : Array (Option Value)} {oc kV dc pm cd ct : Value} (X : K.In h) (G : h.Ns mainGlobals mg)
    (hb : ∀ (kV doc pm : Value) (an : Option Addr) (cdv ct : Value) (us : List Value), us.length = ps.length → bindArgs (PySem.W.fnOf x x (defArgs st) (defBody st) (defScope st) .none kV doc pm an cdv ct) ⟨us, []⟩ = pure (ps.zip us))
    (a : PySem.W.nsIn K mainGlobals x = some (some (.ref f))) (l : K.lookup f = some ⟨oc, od, .func (PySem.W.fnOf x x (defArgs st) (defBody st) (defScope st) .none kV dc pm an cd ct), sl⟩) (c : PySem.W.codeIn K cd x = true) (k : PySem.W.keepIn K (.ref f) = true) : At K mg x st ps := by
  have F := fun_mk (st := st) l c k
  exact ⟨f, _, PySem.W.mg_of X G a, F, F.binds hb⟩
theorem exc_mk {K : PySem.W.Frag} {h : Heap} {mg : Str → Option Value} {x : Str} {T : VT} {c : Nat} {C : Addr} (X : K.In h) (G : h.Ns mainGlobals mg) (e : T.ea c = C) (a : PySem.W.nsIn K mainGlobals x = some (some (.ref C)))
    (xx : PySem.W.excIn K C [.type "ValueError", .type "Exception", .type "BaseException", .type "object"] "ValueError.__new__" = true) (k : PySem.W.keepIn K (.ref C) = true) (b : PySem.W.subIn K (.ref C) (.type "BaseException") = some true) (t : PySem.W.typeIn K (.ref C) = some (.type "type")) : Exc K mg T x c := by
  subst e
  exact ⟨PySem.W.mg_of X G a, xx, k, b, t⟩
theorem cint_mk {K : PySem.W.Frag} {h : Heap} {mg : Str → Option Value} {x : Str} {i : Int} {t : Tok} (X : K.In h) (G : h.Ns mainGlobals mg) (a : PySem.W.nsIn K mainGlobals x = some (some (.int i t))) : CInt mg x i := ⟨t, PySem.W.mg_of X G a⟩
theorem cstr_mk {K : PySem.W.Frag} {h : Heap} {mg : Str → Option Value} {x : Str} {i : Str} {t : Tok} (X : K.In h) (G : h.Ns mainGlobals mg) (a : PySem.W.nsIn K mainGlobals x = some (some (.str i t))) : CStr mg x i := ⟨t, PySem.W.mg_of X G a⟩
theorem vals_strs : ∀ {zs : List Str} {us : List Value}, (List.length us = List.length zs) → (∀ (i : Nat) (u : Value) (z : Str), us[i]? = some u → zs[i]? = some z → ∃ t, u = .str z t) → Vals (zs.map V.str) us
  | [], [], _, _ => .nil
  | z :: zs, u :: us, hl, h => by
    obtain ⟨t, e⟩ := h 0 u z rfl rfl
    exact .cons ⟨t, e⟩ (vals_strs (by simpa using hl) fun i u z h1 h2 => h (i + 1) u z (by simpa using h1) (by simpa using h2))
theorem ctup2_mk {K : PySem.W.Frag} {h : Heap} {mg : Str → Option Value} {x : Str} {a : Addr} {od : Option Addr} {y z : Str} {t u : Tok} {n : Nat} {sl : Array (Option Value)} (X : K.In h) (G : h.Ns mainGlobals mg) (ha : PySem.W.nsIn K mainGlobals x = some (some (.ref a)))
    (hl : K.lookup a = some ⟨.type "tuple", od, .seq #[.str y t, .str z u] n, sl⟩) : CDat K mg x (.tuple [.str y, .str z]) :=
  ⟨a, PySem.W.mg_of X G ha, fun F => .tup (xs := [.str y, .str z]) (.inr ⟨_, _, _, hl, rfl, rfl, by simp [sizeLine_eq], .cons ⟨t, rfl⟩ (.cons ⟨u, rfl⟩ .nil)⟩) (.cons (.str y) (.cons (.str z) .nil))⟩
theorem ctup3_mk {K : PySem.W.Frag} {h : Heap} {mg : Str → Option Value} {x : Str} {a : Addr} {od : Option Addr} {y z v : Str} {t u s : Tok} {n : Nat} {sl : Array (Option Value)} (X : K.In h) (G : h.Ns mainGlobals mg) (ha : PySem.W.nsIn K mainGlobals x = some (some (.ref a)))
    (hl : K.lookup a = some ⟨.type "tuple", od, .seq #[.str y t, .str z u, .str v s] n, sl⟩) : CDat K mg x (.tuple [.str y, .str z, .str v]) :=
  ⟨a, PySem.W.mg_of X G ha, fun F => .tup (xs := [.str y, .str z, .str v]) (.inr ⟨_, _, _, hl, rfl, rfl, by simp [sizeLine_eq], .cons ⟨t, rfl⟩ (.cons ⟨u, rfl⟩ (.cons ⟨s, rfl⟩ .nil))⟩) (.cons (.str y) (.cons (.str z) (.cons (.str v) .nil)))⟩
theorem ctup4_mk {K : PySem.W.Frag} {h : Heap} {mg : Str → Option Value} {x : Str} {a : Addr} {od : Option Addr} {y z v q : Str} {t u s r : Tok} {n : Nat} {sl : Array (Option Value)} (X : K.In h) (G : h.Ns mainGlobals mg) (ha : PySem.W.nsIn K mainGlobals x = some (some (.ref a)))
    (hl : K.lookup a = some ⟨.type "tuple", od, .seq #[.str y t, .str z u, .str v s, .str q r] n, sl⟩) : CDat K mg x (.tuple [.str y, .str z, .str v, .str q]) :=
  ⟨a, PySem.W.mg_of X G ha, fun F => .tup (xs := [.str y, .str z, .str v, .str q]) (.inr ⟨_, _, _, hl, rfl, rfl, by simp [sizeLine_eq], .cons ⟨t, rfl⟩ (.cons ⟨u, rfl⟩ (.cons ⟨s, rfl⟩ (.cons ⟨r, rfl⟩ .nil)))⟩) (.cons (.str y) (.cons (.str z) (.cons (.str v) (.cons (.str q) .nil))))⟩
/-- what the row asks of the law -/
def spRow (K : PySem.W.Frag) : Sp := fun vs H Q _ => ∃ (a : Addr) (ns : List Int), vs = [.ref a] ∧ SqL K H a (ns.map V.int) ∧ ns.length ≤ 63 ∧ ∀ H', Q (.bl true) H'
theorem row_of {K : PySem.W.Frag} {T : VT} {m : Mir} (h : ∀ ns : List Int, ns.length ≤ 63 → ∃ ρ, m [.scr ns] = .ok (.bool true) ρ) (vs : List V) (H : Hp) (Q : VK) (E : XK) (q : spRow K vs H Q E) : spM K T m vs H Q E := by
  obtain ⟨a, ns, rfl, hs, hl, k⟩ := q
  obtain ⟨ρ, e⟩ := h ns hl
  have no : ∀ i b, ¬ ownAt ([V.ref a].map some) [.scr ns] i b := fun i b ⟨_, ds, h⟩ => by
    rcases h with h | h
    · cases i with
      | zero => cases h
      | succ i => simp at h
    · cases i with
      | zero => cases h
      | succ i => simp at h
  have fe : Fz (fun _ => False) ([V.ref a].map some) [.scr ns] H = H := by
    funext b
    exact fz_out fun z => z.elim id fun ⟨i, z⟩ => no i b z
  refine ⟨fun _ => False, [.scr ns], ⟨rfl, fun i s e => ?_, fun i j b h1 _ => absurd h1 (no i b), fun i b h => absurd h (no i b), fun b h => h.elim, fun i ds e => rfl⟩, ?_⟩
  · cases i with
    | zero =>
      cases e
      exact ⟨_, rfl, .scr (by rw [fe]; exact hs)⟩
    | succ i => simp at e
  · rw [e]
    intro v H' _ _ r
    cases r
    exact k _
theorem cx_none {P : Program} {w : World} {H : Hp} {s : Shared} {e : Value} {s' : Shared} (h : L2.CX P w [] H s (fun _ _ _ => False) e s') : False := by
  obtain ⟨_, _, _, _, _, _, _, _, _, _, _, _, z⟩ := h
  exact z
theorem row_walk {l : PySem.W.OpenLaw} {k : Nat} {q : Program} {loose : List Str} {XP : (Str → Option Value) → Heap → Prop} {YP : World → Heap → Prop} {d : DefRec} {K : Params → PySem.W.Frag} (hn : l.most = some 63) (hdf : d.params.defaults = []) (hr : Room k callerA)
    (hY : ∀ (w : World) (h : Heap), YP w h → (K w.params).In h)
    (F : ∀ (w : World) (mg : Str → Option Value) (fa : Addr) (h : Heap), (K w.params).In h → h.Ns mainGlobals mg → mg d.name = some (.ref fa) →
      ∃ fd : FuncData, (∀ (s : Shared) (u : Value), BindsTo s fd ⟨[u], []⟩ [("_law_script", u)]) ∧ ∀ base : Heap, (K w.params).In base → base.Ns mainGlobals mg → FnOk l.prog w (K w.params) mg base (L2.CX l.prog w) k fa fd ["_law_script"] (spRow (K w.params))) :
    PySem.W.WalkO q loose XP YP l.row.toRowW d [] (fun f vs => PySem.call f vs) :=
  L2.walk_of (n := 63) (k := k) (x := "_law_script") (CX := fun w => L2.CX l.prog w) (sp := fun w => spRow (K w.params)) hn (by decide) hdf hr hY F (fun _ _ a ns hl _ hS => ⟨a, ns, rfl, hS, hl, fun _ => rfl⟩) fun w H s e s' z => cx_none z
end VL

set_option Elab.async false
set_option linter.all false
set_option maxRecDepth 100000
set_option maxHeartbeats 4000000
/-! V12: a dict whose keys are paths (nested tuples of numbers, words, None), made, stored into, its keys told. -/
namespace VL
open PySem PySem.Spec PyProof.Rows L2
abbrev NX := List (NestedKey × Addr × Value)
/-- the dict's own object -/
def DcAt (P : Program) (w : World) (a : Addr) (xs : NX) (h : Heap) : Prop :=
  (a == sysModules) = false ∧ xs.length ≤ sizeLine ∧ ∃ o es ep, h.get? a = some o ∧ o.ExactDict ∧ o.data = .dict es ep ∧ es.toList = xs.map (entryOfKey (nestedKind P w)) ∧ (xs.map (·.1)).Nodup
def dcO (P : Program) (w : World) (a : Addr) (xs : NX) : HO := .ext (DcAt P w a xs)
theorem dcO_ok {P : Program} {w : World} {a : Addr} {xs : NX} {H : Hp} {h : Heap} (x : DcAt P w a xs h) : ObjOk P w H h a (dcO P w a xs) := by
  refine ⟨x, ?_, fun h1 h2 ⟨y1, y2, o, es, ep, y3, y4⟩ k => ⟨y1, y2, o, es, ep, k o y3, y4⟩⟩
  obtain ⟨_, _, o, _, _, e, _⟩ := x
  exact ⟨o, e⟩
/-- a view of its keys -/
def kvO (p d : Addr) : HO := .ext fun h => PySem.W.KdlKeysView h p d
theorem kvO_ok {P : Program} {w : World} {p d : Addr} {H : Hp} {h : Heap} (x : PySem.W.KdlKeysView h p d) : ObjOk P w H h p (kvO p d) := by
  refine ⟨x, ?_, fun h1 h2 ⟨o, y1, y2⟩ k => ⟨o, k o y1, y2⟩⟩
  obtain ⟨o, e, _⟩ := x
  exact ⟨o, e⟩
/-! ### keys and data -/
mutual
def nkD : PyData → Option NestedKey
  | .none => some .none
  | .int i => some (.num i)
  | .str x => some (.text x)
  | .tuple ds => (nkA ds).map .tup
  | _ => none
def nkA : List PyData → Option (List NestedKey)
  | [] => some []
  | d :: ds => match nkD d with
    | some k => (nkA ds).map (k :: ·)
    | none => none
end
mutual
theorem nk_data : ∀ (d : PyData) {k : NestedKey}, nkD d = some k → k.data = d
  | .none, _, h => by cases h; rfl
  | .int i, _, h => by cases h; rfl
  | .str x, _, h => by cases h; rfl
  | .tuple ds, _, h => by
    obtain ⟨ks, e, rfl⟩ := Option.map_eq_some_iff.mp (show (nkA ds).map NestedKey.tup = some _ from h)
    show PyData.tuple (NestedKey.datas ks) = _
    rw [nk_datas ds e]
  | .bool _, _, h => by cases h
  | .list _, _, h => by cases h
  | .dict _, _, h => by cases h
theorem nk_datas : ∀ (ds : List PyData) {ks : List NestedKey}, nkA ds = some ks → NestedKey.datas ks = ds
  | [], _, h => by cases h; rfl
  | d :: ds, ks, h => by
    unfold nkA at h
    cases e : nkD d with
    | none => rw [e] at h; cases h
    | some k =>
      rw [e] at h
      obtain ⟨ks', e', rfl⟩ := Option.map_eq_some_iff.mp h
      show k.data :: NestedKey.datas ks' = _
      rw [nk_data d e, nk_datas ds e']
end
/-- a path as a key -/
def keyD : PyData → Option NestedKey
  | .tuple ds => match nkA ds with
    | some ks => if (NestedKey.tup ks).depth ≤ 8 then some (.tup ks) else none
    | none => none
  | _ => none
theorem keyD_nk {d : PyData} {k : NestedKey} (h : keyD d = some k) : nkD d = some k ∧ k.depth ≤ 8 ∧ ∃ ds, d = .tuple ds := by
  unfold keyD at h
  split at h
  · rename_i ds
    split at h
    · rename_i ks e
      split at h
      · rename_i hd
        cases h
        refine ⟨?_, hd, ds, rfl⟩
        show (nkA ds).map NestedKey.tup = _
        rw [e]; rfl
      · cases h
    · cases h
  · cases h
section
variable {X : Cx} {pins : List (Addr × Obj)} {σ : L2.St} {H F : Hp} {s : Shared}
mutual
theorem nested_of (I : Inv X pins σ H s) (sm : Same F H) : ∀ (d : PyData) {v : V} {u : Value} {k : NestedKey}, Rp X.K F v d → RelV v u → nkD d = some k → NestedIs s.heap k u
  | .none, _, _, _, h, r, e => by cases h; cases e; cases r; exact .none
  | .int i, _, _, _, h, r, e => by cases h; cases e; obtain ⟨t, rfl⟩ := r; exact .int i t
  | .str x, _, _, _, h, r, e => by cases h; cases e; obtain ⟨t, rfl⟩ := r; exact .text x t
  | .tuple ds, _, _, _, h, r, e => by
    obtain ⟨ks, e', rfl⟩ := Option.map_eq_some_iff.mp (show (nkA ds).map NestedKey.tup = some _ from e)
    cases h with
    | tup h1 h2 =>
      cases r
      obtain ⟨its, rv, ⟨o, ho, hc, n, hd⟩, _⟩ := I.tuple (seqT_same sm h1)
      exact .tup ho hc hd (by simpa using nested_all I sm ds h2 rv e')
  | .bool _, _, _, _, _, _, e => by cases e
  | .list _, _, _, _, _, _, e => by cases e
  | .dict _, _, _, _, _, _, e => by cases e
theorem nested_all (I : Inv X pins σ H s) (sm : Same F H) : ∀ (ds : List PyData) {vs : List V} {us : List Value} {ks : List NestedKey}, RpAll X.K F vs ds → Vals vs us → nkA ds = some ks → NestedAll s.heap ks us
  | [], _, _, _, h, r, e => by cases h; cases r; cases e; exact .nil
  | d :: ds, _, _, ks, h, r, e => by
    cases h with
    | cons h1 h2 =>
      cases r with
      | cons r1 r2 =>
        unfold nkA at e
        cases e1 : nkD d with
        | none => rw [e1] at e; cases e
        | some k =>
          rw [e1] at e
          obtain ⟨ks', e', rfl⟩ := Option.map_eq_some_iff.mp e
          exact .cons (nested_of I sm d h1 r1 e1) (nested_all I sm ds h2 r2 e')
end
/-- the entries' keys stand for data -/
def KeysR (K : PySem.W.Frag) (F : Hp) (xs : NX) : Prop := ∀ x ∈ xs, Rp K F (.ref x.2.1) x.1.data ∧ keyD x.1.data = some x.1
theorem KeysR.mono {K : PySem.W.Frag} {F F' : Hp} {xs : NX} (h : KeysR K F xs) (e : Same F F') : KeysR K F' xs := fun x hx => ⟨(h x hx).1.mono e, (h x hx).2⟩
theorem nested_key (I : Inv X pins σ H s) (sm : Same F H) {b : Addr} {d : PyData} {k : NestedKey} (r : Rp X.K F (.ref b) d) (h : keyD d = some k) : (nestedKind X.prog X.w).is s.heap k b := by
  obtain ⟨h1, h2, _⟩ := keyD_nk h
  exact ⟨nested_of I sm d r rfl h1, h2⟩
theorem stored_mem {xs : NX} {k : NestedKey} {b : Addr} {v : Value} {x : NestedKey × Addr × Value} (h : x ∈ storedH xs k b v) : (∃ y ∈ xs, y.1 = x.1 ∧ y.2.1 = x.2.1) ∨ (x.1 = k ∧ x.2.1 = b) := by
  unfold storedH at h
  split at h
  · obtain ⟨y, hy, rfl⟩ := List.mem_map.mp h
    refine .inl ⟨y, hy, ?_⟩
    unfold putAt
    split <;> exact ⟨rfl, rfl⟩
  · rcases List.mem_append.mp h with h | h
    · exact .inl ⟨x, h, rfl, rfl⟩
    · rw [List.mem_singleton.mp h]; exact .inr ⟨rfl, rfl⟩
theorem atKey_some {xs : NX} {k : NestedKey} : (atKey xs k).isSome = decide (k ∈ xs.map (·.1)) := by
  induction xs with
  | nil => rfl
  | cons x xs ih =>
    by_cases h : x.1 = k
    · simp [atKey, h]
    · have h' : ¬ k = x.1 := fun z => h z.symm
      simp only [List.map_cons, List.mem_cons, h', false_or]
      rw [← ih]
      simp [atKey, h]
theorem stored_keys (xs : NX) (k : NestedKey) (b : Addr) (v : Value) : (storedH xs k b v).map (·.1) = ddK (xs.map (·.1)) k := by
  unfold storedH ddK
  rw [atKey_some]
  by_cases h : k ∈ xs.map (·.1)
  · rw [if_pos h, decide_eq_true h, if_pos rfl, List.map_map]
    refine List.map_congr_left fun x _ => ?_
    show (putAt k v x).1 = x.1
    unfold putAt
    split <;> rfl
  · rw [if_neg h, decide_eq_false h, if_neg Bool.false_ne_true]
    simp
/-! ### {} -/
theorem pe_dcnew {pos : Pos} : PE X (.Dict [] [] pos) (fun _ H Q => ∀ p, H p = none → Q (.ref p) (L2.upd H p (dcO X.prog X.w p []))) := ⟨fun pins s σ H Q I h =>
  wpAny_Dict_empty ⟨.ref s.heap.objs.size, _, I.laid (a := s.heap.objs.size) (o := dcO X.prog X.w s.heap.objs.size []) (t' := s.toks) (fun _ _ q => Heap.get?_push_of_some _ q) (Nat.le_refl _)
    (dcO_ok ⟨beq_eq_false_iff_ne.mpr (Ne.symm (Nat.ne_of_lt I.big)), Nat.zero_le _, _, #[], 0, Heap.get?_push_size _ rfl, ⟨rfl, rfl, rfl⟩, rfl, rfl, List.nodup_nil⟩), rfl, h _ (I.hok.fresh (Nat.le_refl _))⟩⟩
/-! ### d[k] = True -/
def rSetN (P : Program) (w : World) (K : PySem.W.Frag) : TSet := fun o i v H Q => ∃ a b xs k d F, o = .ref a ∧ i = .ref b ∧ v = .bl true ∧ H a = some (dcO P w a xs) ∧ Same F H ∧ KeysR K F xs ∧ Rp K F (.ref b) d ∧ keyD d = some k ∧ xs.length < sizeLine ∧ Q (L2.upd H a (dcO P w a (storedH xs k b (.bool true))))
theorem set_nest (hu : X.A.units + 64 < cLine) : PSet X (rSetN X.prog X.w X.K) := by
  intro pins s σ H o i v ov iv u Q I ro ri rv h
  obtain ⟨a, b, xs, k, d, F, rfl, rfl, rfl, ha, sm, hk, rb, hkd, hl, q⟩ := h
  cases (show ov = Value.ref a from ro)
  cases (show iv = Value.ref b from ri)
  cases (show u = Value.bool true from rv)
  obtain ⟨⟨y1, y2, o, es, ep, y3, y4, y5, y6, y7⟩, _, _⟩ := (show ObjOk X.prog X.w H s.heap a (dcO X.prog X.w a xs) from I.hok a _ ha)
  have dd : s.heap.DictOfH (nestedKind X.prog X.w) a xs := ⟨o, es, ep, y3, y4, y5, y6, fun x hx => nested_key I sm (hk x hx).1 (hk x hx).2, y7⟩
  refine wpAny_setItem_heap (hsz := Nat.le_of_lt hl) (show X.A.in1.units + 8 < cLine from by have : X.A.in1.units = X.A.units + 1 := rfl; omega) (nested_key I sm rb hkd) dd fun h' dd' hs => ?_
  obtain ⟨o', es', ep', z3, z4, z5, z6, _, z7⟩ := dd'
  have hl2 : (storedH xs k b (.bool true)).length ≤ sizeLine := by
    unfold storedH
    split
    · rw [List.length_map]; omega
    · rw [List.length_append]; simp; omega
  exact ⟨_, d_write I (by rw [ha]; exact True.intro) hs ⟨o', z3⟩ (dcO_ok ⟨y1, hl2, o', es', ep', z3, z4, z5, z6, z7⟩), q⟩
/-! ### list(d.keys()) -/
theorem pe_dckeys {e : Expr} {te : TE} {apos cpos : Pos} (he : PE X e te) (hbase : attributeBase e "keys" X.env (eval e X.env) = eval e X.env := by rfl) (hline : (apos.endLine == cpos.line) = true := by rfl) :
    PE X (.Call (.Attribute e "keys" apos) [] [] cpos) (fun σ H Q => te σ H fun x H1 => ∃ d xs, x = .ref d ∧ H1 d = some (dcO X.prog X.w d xs) ∧ ∀ p, H1 p = none → Q (.ref p) (L2.upd H1 p (kvO p d))) := by
  refine ⟨fun pins s σ H Q I h => ?_⟩
  refine wpAny_Call_method (T := "dict") (id := "dict.keys") hbase rfl hline F.plainAttrs_dict F.slot_dict_keys F.type_dict_keys (thn (he.run pins s σ H _ I h) fun u s1 ⟨x, H1, I1, rx, d, xs, ex, hd, q⟩ => ?_)
  subst ex
  obtain rfl : u = Value.ref d := rx
  obtain ⟨⟨y1, y2, o, es, ep, y3, y4, y5, y6, y7⟩, _, _⟩ := (show ObjOk X.prog X.w H1 s1.heap d (dcO X.prog X.w d xs) from I1.hok d _ hd)
  have dr : s1.heap.DictRaw d es ep := ⟨o, y3, y4, y5⟩
  refine ⟨dr.typeIs, ?_, ?_⟩
  · exact fun b e => by cases e; exact ⟨o, y3, y4.2.1⟩
  · show wpAny _ _ (callWith cpos (.builtin "dict.keys") [.ref d] [] []) _ X.xe s1
    refine method_meetsIn F.slot_dict_keys F.entry_dict_keys rfl (PySem.evalArgs_none ⟨rfl, dr.typeIs, F.args_dict_keys_1 _, _, meets_dict_keys_raw d y1, ⟨es, ep, dr⟩, ?_⟩)
    exact ⟨.ref s1.heap.objs.size, _, I1.laid (a := s1.heap.objs.size) (o := kvO s1.heap.objs.size d) (t' := s1.toks) (fun _ _ q => Heap.get?_push_of_some _ q) (Nat.le_refl _) (kvO_ok ⟨_, Heap.get?_push_size _ rfl, rfl, rfl⟩), rfl, q _ (I1.hok.fresh (Nat.le_refl _))⟩
theorem kdl_viewRaw {prog : Program} {w : World} {r d : Addr} {o : Obj} {es : Array DictEntry} {ep : Nat} (hx : o.ExactDict) (hd : o.data = .dict es ep) :
    PySem.W.KdlSrc prog w "dict_keys" r d es.size (fun i v => ∃ en : DictEntry, es[i]? = some en ∧ v = en.key) (fun h => PySem.W.KdlKeysView h r d ∧ h.get? d = some o) where
  type := fun _ hm => hm.1.typeIs
  there := fun _ hm => ⟨let ⟨_, ho, _⟩ := hm.1; Heap.lt_size ho, Heap.lt_size hm.2⟩
  keep := fun _ _ hm hk => ⟨let ⟨o, ho, x⟩ := hm.1; ⟨o, hk r (.inl rfl) o ho, x⟩, hk d (.inr rfl) _ hm.2⟩
  notList := by decide
  notTuple := by decide
  hint := fun _ _ _ _ hm hq => PySem.W.kdl_hint_keys hm.1.typeIs hq
  iter := fun _ s hh hm => ⟨_, _, (fun _ _ hq => wpAny_pyIter_keys_raw hm.1 ⟨o, hm.2, hx, hd⟩ hq), walks_raw hh _ d (Nat.ne_of_lt (Heap.lt_size hm.2)) hd, ⟨⟨_, Heap.get?_push_size _ rfl, rfl, rfl⟩, Heap.get?_push_of_some _ hm.2⟩⟩
theorem call_list_view (hc : X.calm = true) : CallR X (.type "list") (fun xs H Q => ∃ p d ys, xs = [V.ref p] ∧ H p = some (kvO p d) ∧ H d = some (dcO X.prog X.w d ys) ∧ ∀ q, H q = none → Q (.ref q) (L2.upd H q (.lst (ys.map fun x => V.ref x.2.1)))) := by
  intro pins s σ H xs us Q I r h
  obtain ⟨p, d, ks, rfl, hp, hd, q⟩ := h
  obtain ⟨u, rfl, rx⟩ := r.one
  cases rx
  obtain ⟨⟨y1, y2, o, es, ep, y3, y4, y5, y6, y7⟩, _, _⟩ := (show ObjOk X.prog X.w H s.heap d (dcO X.prog X.w d ks) from I.hok d _ hd)
  obtain ⟨hv, _, _⟩ := (show ObjOk X.prog X.w H s.heap p (kvO p d) from I.hok p _ hp)
  have l1 : es.size = ks.length := size_of_entries y6
  refine PySem.W.kdl_call (kdl_viewRaw y4 y5) (I.ok.hd hc) ⟨hv, y3⟩ (by omega) fun h' tk acc' c' kp e it => ?_
  have ea : acc'.toList = ks.map fun x => Value.ref x.2.1 := by
    have hl : acc'.toList.length = ks.length := by rw [Array.length_toList, it.1]; exact l1
    apply List.ext_getElem?
    intro j
    rw [List.getElem?_map]
    cases hj : acc'.toList[j]? with
    | none =>
      have h1 := List.getElem?_eq_none_iff.mp hj
      rw [List.getElem?_eq_none (by omega)]
      all_goals rfl
    | some v =>
      obtain ⟨en, hen, hv⟩ := it.2 j v (by rw [← Array.getElem?_toList]; exact hj)
      have qe := entry_at y6 j
      rw [hen] at qe
      cases hb : ks[j]? with
      | none =>
        rw [hb] at qe
        exact nomatch (show some en = none from qe)
      | some b =>
        rw [hb] at qe
        have e2 : en = entryOfKey (nestedKind X.prog X.w) b := Option.some.inj qe
        rw [hv, e2]
        all_goals rfl
  have eb : acc'.toList = (ks.map fun x => x.2.1).map Value.ref := by rw [ea, List.map_map]; all_goals rfl
  have rv : Vals ((ks.map fun x => x.2.1).map V.ref) acc'.toList := by rw [eb]; exact vals_refs _
  have ev : (ks.map fun x => x.2.1).map V.ref = ks.map fun x => V.ref x.2.1 := by rw [List.map_map]; rfl
  rw [ev] at rv
  refine ⟨.ref s.heap.objs.size, _, I.laid (t' := tk) (o := .lst (ks.map fun x => V.ref x.2.1)) kp (Nat.le_refl _) ?_, rfl, q _ (I.hok.fresh (Nat.le_refl _))⟩
  exact ⟨by rw [List.length_map]; exact y2, acc'.toList, c', rv, by rw [Array.toArray_toList]; exact e⟩
end
/-! ### a block that fills one dict -/
abbrev MD := R → List NestedKey → Option (R × List NestedKey)
structure DS (P : Program) (w : World) (K : PySem.W.Frag) (T : VT) (hid : Addr → Prop) (B : L2.St) (H : Hp) (σ : L2.St) (ρ : R) (i : Nat) (d : Addr) (ks : List NestedKey) : Prop where
  s : SR K T (hidD hid d) B H σ ρ
  at' : σ[i]? = some (some (.ref d))
  un : ρ[i]? = some .un
  xs : ∃ xs, H d = some (dcO P w d xs) ∧ xs.map (·.1) = ks ∧ KeysR K (Fz (hidD hid d) σ ρ H) xs
structure EK (hid : Addr → Prop) (d : Addr) (σ : L2.St) (ρ : R) (H : Hp) (σ' : L2.St) (ρ' : R) (H' : Hp) : Prop where
  same : Same (Fz (hidD hid d) σ ρ H) (Fz (hidD hid d) σ' ρ' H')
  keep : ∀ b, hid b → b ≠ d → H' b = H b
theorem EK.refl {hid : Addr → Prop} {d : Addr} {σ : L2.St} {ρ : R} {H : Hp} : EK hid d σ ρ H σ ρ H := ⟨Same.refl _, fun _ _ _ => rfl⟩
theorem EK.trans {hid : Addr → Prop} {d : Addr} {σ σ1 σ2 : L2.St} {ρ ρ1 ρ2 : R} {H H1 H2 : Hp} (a : EK hid d σ ρ H σ1 ρ1 H1) (b : EK hid d σ1 ρ1 H1 σ2 ρ2 H2) : EK hid d σ ρ H σ2 ρ2 H2 :=
  ⟨a.same.trans b.same, fun c h n => (b.keep c h n).trans (a.keep c h n)⟩
theorem EK.of {hid : Addr → Prop} {d : Addr} {σ σ1 : L2.St} {ρ ρ1 : R} {H H1 : Hp} (E : Ext (hidD hid d) σ ρ H σ1 ρ1 H1) : EK hid d σ ρ H σ1 ρ1 H1 := ⟨E.same, fun b h _ => E.keep b (.inl h)⟩
def ResD (P : Program) (w : World) (K : PySem.W.Frag) (T : VT) (hid : Addr → Prop) (B σ : L2.St) (ρ : R) (H : Hp) (i : Nat) (d : Addr) (o : Option (R × List NestedKey)) (k : L2.St → Hp → Prop) : Prop := match o with
  | some (ρ', ks') => ∀ σ' H', DS P w K T hid B H' σ' ρ' i d ks' → EK hid d σ ρ H σ' ρ' H' → k σ' H'
  | none => False
def rdK (P : Program) (w : World) (K : PySem.W.Frag) (T : VT) (i : Nat) (m : MD) : TS := fun D σ H => ∃ hid B ρ d ks, DS P w K T hid B H σ ρ i d ks ∧ ResD P w K T hid B σ ρ H i d (m ρ ks) D.nx
abbrev XB (X : Cx) (T : VT) (i : Nat) (st : Stmt) (m : MD) : Prop := PS X st (rdK X.prog X.w X.K T i m)
abbrev XBs (X : Cx) (T : VT) (i : Nat) (st : List Stmt) (m : MD) : Prop := PSs X st (rdK X.prog X.w X.K T i m)
def dSeq (m n : MD) : MD := fun ρ ks => match m ρ ks with
  | some (ρ1, ks1) => n ρ1 ks1
  | none => none
def dFor (i : Nat) (fs : ML) (g : MG) (m : MD) : MD := fun ρ ks => match fs ρ with
  | .ok ds ρ1 => if isUn ρ1 i then dLoop i g m ds ρ1 ks else none
  | _ => none
where
  dLoop (i : Nat) (g : MG) (m : MD) : List PyData → R → List NestedKey → Option (R × List NestedKey)
  | [], ρ, ks => some (ρ, ks)
  | d :: ds, ρ, ks => match g d ρ with
    | some ρ2 => if isUn ρ2 i then match m ρ2 ks with
        | some (ρ3, ks3) => dLoop i g m ds ρ3 ks3
        | none => none
      else none
    | none => none
def dPut (i : Nat) (f : ME) : MD := fun ρ ks => match f ρ with
  | .ok e ρ1 => match keyD e with
    | some k => if fits (ks.length + 1) && isUn ρ1 i then some (ρ1, ddK ks k) else none
    | none => none
  | _ => none
section
variable {X : Cx} {T : VT} {W : WX} {pos : Pos} {i : Nat} {st : Stmt} {sts : List Stmt} {m n : MD} {f : ME} {e : Expr}
theorem ResD.step {P : Program} {w : World} {K : PySem.W.Frag} {hid : Addr → Prop} {B σ σ1 : L2.St} {ρ ρ1 : R} {H H1 : Hp} {d : Addr} {o : Option (R × List NestedKey)} {k : L2.St → Hp → Prop} (E : EK hid d σ ρ H σ1 ρ1 H1) (h : ResD P w K T hid B σ ρ H i d o k) : ResD P w K T hid B σ1 ρ1 H1 i d o k := by
  cases o with
  | none => exact h
  | some p => exact fun σ' H' S' E' => h σ' H' S' (E.trans E')
theorem bcons (h1 : XB X T i st m) (h2 : XBs X T i sts n) : XBs X T i (st :: sts) (dSeq m n) :=
  (pss_cons h1 h2).weak fun D σ H ⟨hid, B, ρ, d, ks, S, q⟩ => ⟨hid, B, ρ, d, ks, S, by
    unfold dSeq at q
    cases hm : m ρ ks with
    | none => rw [hm] at q; exact q.elim
    | some p =>
      obtain ⟨ρ1, ks1⟩ := p
      rw [hm] at q
      exact fun σ1 H1 S1 E1 => ⟨hid, B, ρ1, d, ks1, S1, ResD.step E1 q⟩⟩
theorem isUn_at {ρ : R} {i : Nat} (h : isUn ρ i = true) : ρ[i]? = some .un := by
  unfold isUn at h
  split at h
  · assumption
  · cases h
theorem Fz_upd {hid : Addr → Prop} {σ : L2.St} {ρ : R} {H : Hp} {d : Addr} {o : HO} (hd : hid d) : Fz hid σ ρ (L2.upd H d o) = Fz hid σ ρ H := by
  funext b
  by_cases c : Oa hid σ ρ b
  · show fz _ _ b = fz _ _ b
    rw [fz_in c, fz_in c]
  · have n : b ≠ d := fun z => c (.inl (z ▸ hd))
    show fz _ _ b = fz _ _ b
    rw [fz_out c, fz_out c, upd_ne n]
theorem SR.hidden {K : PySem.W.Frag} {hid : Addr → Prop} {B σ : L2.St} {ρ : R} {H : Hp} {d : Addr} {o : HO} (S : SR K T hid B H σ ρ) (hd : hid d) : SR K T hid B (L2.upd H d o) σ ρ := by
  refine ⟨S.len, fun i s e => ?_, S.one, S.sep, fun b h => ?_, S.bor⟩
  · obtain ⟨u, e1, r⟩ := S.rel i s e
    refine ⟨u, e1, ?_⟩
    rw [Fz_upd hd]
    cases r with
    | un => exact .un _
    | val r => exact .val r
    | scr r => exact .scr r
    | fn n => exact .fn n
    | @own c xs ds h1 h2 =>
      have n : c ≠ d := fun z => S.sep i c ⟨e1, _, .inl e⟩ (by rw [z]; exact hd)
      exact .own (by rw [upd_ne n]; exact h1) h2
    | @bor c xs ds h1 h2 =>
      have n : c ≠ d := fun z => S.sep i c ⟨e1, _, .inr e⟩ (by rw [z]; exact hd)
      exact .bor (by rw [upd_ne n]; exact h1) h2
  · by_cases c : b = d
    · subst c; exact ⟨o, upd_same⟩
    · obtain ⟨u, e⟩ := S.hh b h
      exact ⟨u, by rw [upd_ne c]; exact e⟩
theorem DS.step {P : Program} {w : World} {K : PySem.W.Frag} {hid : Addr → Prop} {B σ σ1 : L2.St} {ρ ρ1 : R} {H H1 : Hp} {d : Addr} {ks : List NestedKey} (S : DS P w K T hid B H σ ρ i d ks) (S1 : SR K T (hidD hid d) B H1 σ1 ρ1) (E : Ext (hidD hid d) σ ρ H σ1 ρ1 H1) (h1 : σ1[i]? = σ[i]?) (h2 : isUn ρ1 i = true) :
    DS P w K T hid B H1 σ1 ρ1 i d ks := by
  obtain ⟨xs, e1, e2, e3⟩ := S.xs
  exact ⟨S1, by rw [h1]; exact S.at', isUn_at h2, xs, by rw [E.keep d (.inr rfl)]; exact e1, e2, e3.mono E.same⟩
theorem bput {x : Str} {p spos : Pos} {jj : Nat} {cp : Pos} (hu : X.A.units + 64 < cLine) (he : XE X T W e f) (hN : X.N[i]? = some x := by rfl) (hv : Vis X.env.scope x := by first | exact Or.inl rfl | exact Or.inr (Or.inl rfl) | exact Or.inr (Or.inr rfl)) (hd : (x == ("__debug__" : Str)) = false := by decide)
    (hcd : (x == ("__classdict__" : Str)) = false := by decide)
    (ha : ∀ v, assign (.Subscript (.Name x p) e spos) X.env v = (do
      let ov ← holding [v] (eval (.Name x p) X.env)
      let iv ← holding [v, ov] (eval e X.env)
      standAt spos
      holding [v, ov, iv] (setItem ov iv v)
      release [v, ov, iv] []) := by intro _; rfl)
    (hs : swapsWithSole [.Subscript (.Name x p) e spos] (.Constant (.bool true) jj cp) pos.line X.env = pure false := by rfl) (hw : swappedStores [.Subscript (.Name x p) e spos] (.Constant (.bool true) jj cp) X.env = pure none := by rfl) :
    XB X T i (.Assign [.Subscript (.Name x p) e spos] (.Constant (.bool true) jj cp) pos) (dPut i f) :=
  (ps_asg pe_bl (pg_sub (pe_var hN hv hd hcd) he (set_nest hu) ha) hs hw).weak fun D σ H ⟨hid, B, ρ, d, ks, S, q⟩ => by
    refine ⟨.ref d, S.at', hidD hid d, B, ρ, S.s, ?_⟩
    unfold dPut at q
    cases hf : f ρ with
    | no => rw [hf] at q; exact q.elim
    | ex c ρ1 => rw [hf] at q; exact q.elim
    | ok y ρ1 =>
      rw [hf] at q
      dsimp only at q
      cases hk : keyD y with
      | none => rw [hk] at q; exact q.elim
      | some k =>
        rw [hk] at q
        dsimp only at q
        by_cases hz : (fits (ks.length + 1) && isUn ρ1 i) = true
        · rw [if_pos hz] at q
          obtain ⟨z1, z2⟩ := (Bool.and_eq_true _ _).mp hz
          intro H1 S1 E1 v rv
          have S2 := S.step S1 E1 rfl z2
          obtain ⟨xs, e1, e2, e3⟩ := S2.xs
          obtain ⟨ds, rfl⟩ := (keyD_nk hk).2.2
          obtain ⟨b, ys, rfl, _, _⟩ := rp_tup rv
          have hl : xs.length < sizeLine := by
            have : ks.length = xs.length := by rw [← e2, List.length_map]
            have z : ks.length + 1 ≤ 16777216 := of_decide_eq_true z1
            rw [sizeLine_eq]
            omega
          refine ⟨d, b, xs, k, _, Fz (hidD hid d) σ ρ1 H1, rfl, rfl, rfl, e1, fz_le, e3, rv, hk, hl, ?_⟩
          refine q σ _ ⟨S1.hidden (.inr rfl), S2.at', S2.un, _, upd_same, by rw [stored_keys, e2], ?_⟩ ⟨?_, fun b' hb n => ?_⟩
          · rw [Fz_upd (.inr rfl)]
            intro x' hx'
            rcases stored_mem hx' with ⟨y', hy', a1, a2⟩ | ⟨a1, a2⟩
            · rw [← a1, ← a2]; exact e3 y' hy'
            · have := nk_data _ (keyD_nk hk).1
              rw [a1, a2, this]
              exact ⟨rv, hk⟩
          · rw [Fz_upd (.inr rfl)]
            exact E1.same
          · rw [upd_ne n]
            exact E1.keep b' (.inl hb)
        · rw [if_neg hz] at q
          exact q.elim
theorem bfor {tg iter : Expr} {body : List Stmt} {ts : List Nat} {fs : ML} {g : MG} (hp : PassesOwn (model X.prog X.w) X.A X.env X.xe) (hc : X.calm = true) (hi : XI X T W tg iter fs) (hg : XG X T tg ts g) (hts : i ∉ ts) (hb : XBs X T i body m)
    (hs : ∀ x, foldedSetIterable iter X.env x = pure x := by intro _; rfl) : XB X T i (.For tg iter body [] pos) (dFor i fs g m) :=
  (ps_for hp hc hi hg hb hs).weak fun D σ H ⟨hid, B, ρ, d, ks, S, q⟩ => by
    refine ⟨hidD hid d, B, ρ, S.s, ?_⟩
    unfold dFor at q
    cases hf : fs ρ with
    | no => rw [hf] at q; exact q.elim
    | ex c ρ1 => rw [hf] at q; exact q.elim
    | ok ds ρ1 =>
      rw [hf] at q
      dsimp only at q
      by_cases hz : isUn ρ1 i = true
      · rw [if_pos hz] at q
        intro H1 S1 E1 J hJ
        have S2 := S.step S1 E1 rfl hz
        have q1 := ResD.step (EK.of E1) q
        refine for_it hJ (fun j σ' H' => ∃ ρ' ks', DS X.prog X.w X.K T hid B H' σ' ρ' i d ks' ∧ EK hid d σ ρ1 H1 σ' ρ' H' ∧ ResD X.prog X.w X.K T hid B σ' ρ' H' i d (dFor.dLoop i g m (ds.drop j) ρ' ks') D.nx) ⟨ρ1, ks, S2, EK.refl, q1⟩ (fun j σ' H' _ ⟨ρ', _, _, E', _⟩ => E'.same.trans fz_le) ?_ ?_
        · rintro j x σ' H' H2 hj ⟨ρ', ks', S', E', q'⟩ ⟨sm, hy⟩
          have hd : ds[j]? = some ds[j] := List.getElem?_eq_getElem hj
          have rx := hy (Oa (hidD hid d) σ' ρ') _ hd S'.s.dom E'.same
          rw [List.drop_eq_getElem_cons hj] at q'
          have q'' : ResD X.prog X.w X.K T hid B σ' ρ' H' i d (match g ds[j] ρ' with
            | some ρ2 => if isUn ρ2 i then match m ρ2 ks' with
                | some (ρ3, ks3) => dFor.dLoop i g m (ds.drop (j + 1)) ρ3 ks3
                | none => none
              else none
            | none => none) D.nx := q'
          cases hgd : g ds[j] ρ' with
          | none => rw [hgd] at q''; exact q''.elim
          | some ρ2 =>
            rw [hgd] at q''
            dsimp only at q''
            by_cases hu2 : isUn ρ2 i = true
            · rw [if_pos hu2] at q''
              have S2 := S'.s.grow sm
              have E2 := S'.s.ext sm
              refine ⟨hidD hid d, B, ρ', _, ρ2, S2, rx, hgd, fun σ2 S3 E3 _ hσ => ?_⟩
              have E4 := E2.trans E3
              have DS3 := S'.step S3 E4 (hσ i hts) hu2
              refine ⟨hid, B, ρ2, d, ks', DS3, ?_⟩
              have q3 := ResD.step (EK.of E4) q''
              cases hm : m ρ2 ks' with
              | none => rw [hm] at q3; exact q3.elim
              | some p =>
                obtain ⟨ρ3, ks3⟩ := p
                rw [hm] at q3
                exact fun σ4 H4 S4 E5 => ⟨ρ3, ks3, S4, (E'.trans (EK.of E4)).trans E5, ResD.step E5 q3⟩
            · rw [if_neg hu2] at q''
              exact q''.elim
        · rintro σ' H' ⟨ρ', ks', S', E', q'⟩
          rw [List.drop_length] at q'
          exact q' σ' H' S' EK.refl
      · rw [if_neg hz] at q
        exact q.elim
theorem bone (h1 : XB X T i st m) : XBs X T i [st] m := pss_one h1
/-- the whole: d = {}, the block, y = list(d.keys()) -/
def mDict (i j : Nat) (m : MD) : MS := fun ρ => if i < ρ.length then match m (ρ.set i .un) [] with
    | some (ρ1, ks) => .ok .nx (ρ1.set j (.val (.list (ks.map (·.data)))))
    | none => .no
  else .no
theorem rp_keys {K : PySem.W.Frag} {F : Hp} : ∀ {xs : NX}, KeysR K F xs → RpAll K F (xs.map fun x => V.ref x.2.1) (xs.map fun x => x.1.data)
  | [], _ => .nil
  | x :: xs, h => .cons (h x List.mem_cons_self).1 (rp_keys fun y hy => h y (List.mem_cons_of_mem _ hy))
theorem dict_enter {hid : Addr → Prop} {B σ : L2.St} {ρ : R} {H : Hp} {p : Addr} (S : SR X.K T hid B H σ ρ) (hi : i < ρ.length) (hp : H p = none) :
    DS X.prog X.w X.K T hid B (L2.upd H p (dcO X.prog X.w p [])) (σ.set i (some (.ref p))) (ρ.set i .un) i p [] ∧ ¬ hid p ∧ Same (Fz hid σ ρ H) (Fz (hidD hid p) (σ.set i (some (.ref p))) (ρ.set i .un) (L2.upd H p (dcO X.prog X.w p []))) ∧ ∀ b, hid b → (L2.upd H p (dcO X.prog X.w p [])) b = H b := by
  obtain ⟨S1, E1⟩ := S.put (i := i) (o := some (.ref p)) (s := .un) (fun ds => ⟨nofun, nofun⟩) (.un _)
  have nh : ¬ hid p := fun z => by
    obtain ⟨o, e⟩ := S.hh p z
    rw [hp] at e
    cases e
  refine ⟨⟨S1.hide hp, ?_, ?_, [], upd_same, rfl, nofun⟩, nh, ?_, fun b hb => upd_ne fun z => nh (z ▸ hb)⟩
  · rw [List.getElem?_set, if_pos rfl, if_pos (by rw [S.len]; exact hi)]
  · rw [List.getElem?_set, if_pos rfl, if_pos hi]
  · rw [Fz_hidD hp]
    exact E1.same
theorem dict_leave {hid : Addr → Prop} {B σ : L2.St} {ρ : R} {H : Hp} {d : Addr} {ks : List NestedKey} {j : Nat} (S : DS X.prog X.w X.K T hid B H σ ρ i d ks) (nh : ¬ hid d) {p q : Addr} {xs : NX} (hx : H d = some (dcO X.prog X.w d xs)) (hk : xs.map (·.1) = ks) (hr : KeysR X.K (Fz (hidD hid d) σ ρ H) xs)
    (hp : H p = none) (hq : L2.upd H p (kvO p d) q = none) :
    SR X.K T hid B (L2.upd (L2.upd H p (kvO p d)) q (.lst (xs.map fun x => V.ref x.2.1))) (σ.set j (some (.ref q))) (ρ.set j (.val (.list (ks.map (·.data))))) ∧
    Same (Fz (hidD hid d) σ ρ H) (Fz hid (σ.set j (some (.ref q))) (ρ.set j (.val (.list (ks.map (·.data))))) (L2.upd (L2.upd H p (kvO p d)) q (.lst (xs.map fun x => V.ref x.2.1)))) ∧
    ∀ b, hid b → b ≠ d → (L2.upd (L2.upd H p (kvO p d)) q (.lst (xs.map fun x => V.ref x.2.1))) b = H b := by
  have sm : Same H (L2.upd (L2.upd H p (kvO p d)) q (.lst (xs.map fun x => V.ref x.2.1))) := fun b o e => by
    have n1 : b ≠ p := fun z => by rw [z, hp] at e; cases e
    have n2 : b ≠ q := fun z => by
      rw [z] at e n1
      rw [upd_ne n1, e] at hq
      cases hq
    rw [upd_ne n2, upd_ne n1]
    exact e
  have sc : Same (cut H d) H := fun b o e => by
    by_cases c : b = d
    · subst c; rw [cut_at] at e; cases e
    · rw [cut_ne c] at e; exact e
  have S1 := ((S.s.unhide nh).grow sc).grow sm
  have s1 : Same (Fz (hidD hid d) σ ρ H) (Fz hid σ ρ (L2.upd (L2.upd H p (kvO p d)) q (.lst (xs.map fun x => V.ref x.2.1)))) := Same.trans (fz_less (O := Oa (hidD hid d) σ ρ) (O' := Oa hid σ ρ) fun b hb => by
    rcases hb with hb | hb
    · exact .inl (.inl hb)
    · exact .inr hb) (fz_grow sm)
  have hOq : ¬ Oa hid σ ρ q := fun z => by
    obtain ⟨o, e⟩ := (S.s.unhide nh).grow sc |>.dom q z
    have e2 := hq
    by_cases c : q = p
    · subst c; rw [hp] at e; cases e
    · rw [upd_ne c, e] at e2; cases e2
  have rv : Rp X.K (Fz hid σ ρ (L2.upd (L2.upd H p (kvO p d)) q (.lst (xs.map fun x => V.ref x.2.1)))) (.ref q) (.list (ks.map (·.data))) := by
    refine .lst (xs := xs.map fun x => V.ref x.2.1) ?_ ?_
    · show fz _ _ q = _
      rw [fz_out hOq, upd_same]
    · have z := rp_keys (hr.mono s1)
      rw [← hk, List.map_map]
      exact z
  obtain ⟨S2, E2⟩ := S1.put (i := j) (o := some (.ref q)) (s := .val (.list (ks.map (·.data)))) (fun ds => ⟨nofun, nofun⟩) (.val rv)
  refine ⟨S2, s1.trans E2.same, fun b hb n => ?_⟩
  obtain ⟨o, e⟩ := S.s.hh b (.inl hb)
  rw [e, sm b o e]
theorem sdict2 (j : Nat) {s2 s3 : Stmt} {rest : List Stmt} {m2 m3 : MD} {n : MS} {x y l : Str} {p1 p2 p4 p5 pos1 pos4 apos cpos : Pos} {dpos : Pos} (hN : X.N.Nodup) (hc : X.calm = true) (hg : Gl X l) (hm : X.mg l = none) (hv : bootBuiltins l = some (.type "list")) (hn : l ≠ "__name__") (h2 : XB X T i s2 m2) (h3 : XB X T i s3 m3) (hr : XSs X T W rest n)
    (hi : X.N[i]? = some x := by rfl) (hx : Loc X.env.scope x := by first | exact Or.inl rfl | exact Or.inr rfl) (hj : X.N[j]? = some y := by rfl) (hy : Loc X.env.scope y := by first | exact Or.inl rfl | exact Or.inr rfl)
    (hvx : Vis X.env.scope x := by first | exact Or.inl rfl | exact Or.inr (Or.inl rfl) | exact Or.inr (Or.inr rfl)) (hd : (x == ("__debug__" : Str)) = false := by decide) (hcd : (x == ("__classdict__" : Str)) = false := by decide) (hdl : (l == ("__debug__" : Str)) = false := by decide)
    (hs1 : swapsWith (.Dict [] [] dpos) (some (.Name x p1)) pos1.line X.env = pure false := by rfl) (hf1 : X.fn x = true ∨ X.env.scope.names.lookup x = some .local := by first | exact .inl rfl | exact .inr rfl)
    (hs4 : swapsWith (.Call (.Name l p5) [.Call (.Attribute (.Name x p2) "keys" apos) [] [] cpos] [] pos4) (some (.Name y p4)) pos4.line X.env = pure false := by rfl) (hf4 : X.fn y = true ∨ X.env.scope.names.lookup y = some .local := by first | exact .inl rfl | exact .inr rfl)
    (hbase : attributeBase (.Name x p2) "keys" X.env (eval (.Name x p2) X.env) = eval (.Name x p2) X.env := by rfl) (hline : (apos.endLine == cpos.line) = true := by rfl)
    (he : starEach [.Call (.Attribute (.Name x p2) "keys" apos) [] [] cpos] X.env = (false, eval (.Call (.Attribute (.Name x p2) "keys" apos) [] [] cpos) X.env) :: starEach [] X.env := by rfl) (hpl : (backTo pos4 (starEach [] X.env)).any (·.1) = false := by rfl) :
    XSs X T W (.Assign [.Name x p1] (.Dict [] [] dpos) pos1 :: s2 :: s3 :: .Assign [.Name y p4] (.Call (.Name l p5) [.Call (.Attribute (.Name x p2) "keys" apos) [] [] cpos] [] pos4) pos :: rest) (mSeq (mDict i j (dSeq m2 m3)) n) := by
  have r4 := ps_set (X := X) (pos := pos) (pos' := p4) hN hj hy (pe_callTy (p := p5) (pos := pos4) (call_list_view hc) hg hm hv (pa_cons (pe_dckeys (cpos := cpos) (apos := apos) (pe_var (pos := p2) hi hvx hd hcd) hbase hline) pa_nil he) hn hdl he hpl) hs4 hf4
  have r1 := ps_set (X := X) (pos := pos1) (pos' := p1) hN hi hx (pe_dcnew (X := X) (pos := dpos)) hs1 hf1
  refine (pss_cons r1 (pss_cons h2 (pss_cons h3 (pss_cons r4 hr)))).weak fun D σ H ⟨hid, B, ρ, S, q⟩ => ?_
  intro p hp
  unfold mSeq mDict at q
  by_cases hl : i < ρ.length
  · rw [if_pos hl] at q
    obtain ⟨DS1, nh, sm1, kp1⟩ := dict_enter (X := X) (T := T) (i := i) S hl hp
    refine ⟨hid, B, ρ.set i .un, p, [], DS1, ?_⟩
    unfold dSeq at q
    cases hm2 : m2 (ρ.set i .un) [] with
    | none => rw [hm2] at q; exact q.elim
    | some a2 =>
      obtain ⟨ρ2, ks2⟩ := a2
      rw [hm2] at q
      dsimp only at q
      intro σ2 H2 DS2 E2
      refine ⟨hid, B, ρ2, p, ks2, DS2, ?_⟩
      cases hm3 : m3 ρ2 ks2 with
      | none => rw [hm3] at q; exact q.elim
      | some a3 =>
        obtain ⟨ρ3, ks3⟩ := a3
        rw [hm3] at q
        dsimp only at q
        intro σ3 H3 DS3 E3
        obtain ⟨xs, e1, e2, e3⟩ := DS3.xs
        refine ⟨.ref p, DS3.at', p, xs, rfl, e1, fun v hv => ?_⟩
        have np : p ≠ v := fun z => by rw [z, hv] at e1; cases e1
        refine ⟨v, p, xs, rfl, upd_same, by rw [upd_ne np]; exact e1, fun u hu => ?_⟩
        obtain ⟨S4, sm4, kp4⟩ := dict_leave (X := X) (T := T) (i := i) (j := j) DS3 nh e1 e2 e3 hv hu
        refine ⟨hid, B, _, S4, ?_⟩
        have q' : ResS X.K T W hid B σ ρ H (n (ρ3.set j (.val (.list (ks3.map (·.data)))))) D := q
        refine ResS.step ⟨sm1.trans (E2.same.trans (E3.same.trans sm4)), fun b hb => ?_⟩ q'
        have nb : b ≠ p := fun z => nh (z ▸ hb)
        rw [kp4 b hb nb, E3.keep b hb nb, E2.keep b hb nb, kp1 b hb]
  · rw [if_neg hl] at q
    exact q.elim
end
end VL

set_option Elab.async false
set_option linter.all false
set_option maxRecDepth 100000
set_option maxHeartbeats 4000000
/-! V13: sorted(xs) of data. -/
namespace VL
open PySem PySem.Spec PyProof.Rows L2
section
variable {K : PySem.W.Frag}
def tupNe : PyData → Bool
  | .tuple (_ :: _) => true
  | _ => false
def leafish : PyData → Bool
  | .none => false
  | .tuple _ => false
  | _ => true
def sortOk (ds : List PyData) : Bool := (ds.all fun d => okD d && ds.all fun e => PySem.W.alike d e) && (ds.all tupNe || ds.all leafish) && fits ds.length
noncomputable def sortL (ds : List PyData) : List PyData := ds.mergeSort (PySem.W.dataLe false id)
noncomputable def sortD : List PyData → Option PyData
  | [.list ds] => if sortOk ds then some (.list (sortL ds)) else none
  | _ => none
theorem sortable_of {ds : List PyData} (h : (ds.all tupNe || ds.all leafish) = true) : PySem.W.Sortable ds := by
  rcases (Bool.or_eq_true _ _).mp h with h | h
  · refine .inl fun d hd => ?_
    have z := List.all_eq_true.mp h d hd
    unfold tupNe at z
    split at z
    · exact ⟨_, _, rfl⟩
    · cases z
  · refine .inr fun d hd => ?_
    have z := List.all_eq_true.mp h d hd
    cases d <;> simp [leafish] at z ⊢
def rSortD (K : PySem.W.Frag) : List V → Hp → VK → Prop := fun xs H Q => ∃ a ys ds F, xs = [.ref a] ∧ SqL K H a ys ∧ RpAll K F ys ds ∧ Same F H ∧ sortOk ds = true ∧ ∀ p zs, H p = none → RpAll K F zs (sortL ds) → Q (.ref p) (L2.upd H p (.lst zs))
theorem each_zip {F : Hp} : ∀ {ds : List PyData} {ys : List V} {us : List Value}, Vals ys us → RpAll K F ys ds → PySem.W.EachIs (fun v (b : V × PyData) => RelV b.1 v ∧ Rp K F b.1 b.2) us (ys.zip ds)
  | [], _, _, r, h => by cases h; cases r; exact .nil
  | d :: ds, _, _, r, h => by
    cases h with
    | cons h1 h2 =>
      cases r with
      | cons r1 r2 => exact .cons ⟨r1, h1⟩ (each_zip r2 h2)
theorem each_out {F : Hp} {us : List Value} {bs : List (V × PyData)} (h : PySem.W.EachIs (fun v (b : V × PyData) => RelV b.1 v ∧ Rp K F b.1 b.2) us bs) : Vals (bs.map (·.1)) us ∧ RpAll K F (bs.map (·.1)) (bs.map (·.2)) := by
  induction h with
  | nil => exact ⟨.nil, .nil⟩
  | cons r _ ih => exact ⟨.cons r.1 ih.1, .cons r.2 ih.2⟩
theorem pure_sorted : PureN K (rSortD K) sortD := by
  intro O H xs ds res Q hO rx ho q
  unfold sortD at ho
  split at ho
  · rename_i es
    split at ho
    · rename_i hz
      cases ho
      obtain ⟨x, rfl, r⟩ := rp1 rx
      obtain ⟨a, ys, rfl, h1, h2⟩ := rp_lst r
      refine ⟨a, ys, es, _, rfl, SqL.of (fz_le _ _ h1), h2, fz_le, hz, fun p zs hp hr => ?_⟩
      obtain ⟨sm, r⟩ := lst_new hO hp hr
      exact q _ _ sm r
    · cases ho
  · cases ho
end
section
variable {X : Cx}
theorem call_sortD (hu : X.A.units + 64 < cLine) : CallR X (.builtin "sorted") (rSortD X.K) := by
  intro pins s σ H xs us Q I r h
  obtain ⟨a, ys, ds, F, rfl, hl, hr, sm, hok, q⟩ := h
  obtain ⟨u, rfl, rx⟩ := r.one
  cases rx
  unfold sortOk at hok
  simp only [Bool.and_eq_true] at hok
  obtain ⟨⟨o1, o2⟩, o3⟩ := hok
  have o1' : ∀ d ∈ ds, okD d = true ∧ ∀ e ∈ ds, PySem.W.alike d e = true := fun d hd => by
    have z := List.all_eq_true.mp o1 d hd
    simp only [Bool.and_eq_true] at z
    exact ⟨z.1, fun e he => List.all_eq_true.mp z.2 e he⟩
  have o3' : ds.length ≤ 16777216 := of_decide_eq_true o3
  obtain ⟨its, rv, pl, hz⟩ := I.list hl
  have e0 := each_zip rv hr
  have hm : (ys.zip ds).map (·.2) = ds := List.map_snd_zip (by rw [hr.length]; exact Nat.le_refl _)
  have hlen : (ys.zip ds).length = ds.length := by rw [List.length_zip, hr.length]; simp
  have er : PySem.W.EachIs (fun v (b : V × PyData) => ∃ as, Reads s.heap v b.2 as) its (ys.zip ds) := e0.mono fun v b h => Dp.reads I b.2 b.1 v (Rp.dp _ (Rp.mono sm _ h.2)) h.1
  have hal : PySem.W.AllAlike ((ys.zip ds).map (·.2)) := by rw [hm]; exact fun d hd d' hd' => (o1' d hd).2 d' hd'
  have hso : PySem.W.Sortable ((ys.zip ds).map (·.2)) := by rw [hm]; exact sortable_of o2
  refine PySem.W.sorted_data (enc := fun b : V × PyData => b.2) (bs := ys.zip ds) (R := fun v (b : V × PyData) => RelV b.1 v ∧ Rp X.K F b.1 b.2) pl.isList e0 er hal hso (by rw [hlen, sizeLine_eq]; exact o3') (fun b hb => ?_) fun out ho eo => ?_
  · have hb2 : b.2 ∈ ds := by rw [← hm]; exact List.mem_map_of_mem hb
    have := okD_depth (o1' _ hb2).1
    omega
  · obtain ⟨v1, v2⟩ := each_out eo
    have es : ((ys.zip ds).mergeSort (PySem.W.dataLe false fun b : V × PyData => b.2)).map (·.2) = sortL ds := by
      have z := List.map_mergeSort (r := PySem.W.dataLe false fun b : V × PyData => b.2) (s := PySem.W.dataLe false id) (f := fun b : V × PyData => b.2) (l := ys.zip ds) (fun a _ b _ => rfl)
      rw [z, hm]
      rfl
    rw [es] at v2
    obtain ⟨ep, he'⟩ := PyProof.Rows.sortedAll_at s.heap its out.toArray
    refine ⟨.ref _, L2.upd H (s.heap.objs.size + 1) (.lst _), I.laid (t' := s.toks) (fun _ _ => PyProof.Rows.sortedAll_old) (Nat.le_succ _) ⟨?_, out, ep, v1, he'⟩, rfl, q _ _ (I.hok.fresh (Nat.le_succ _)) v2⟩
    rw [List.length_map, List.length_mergeSort, hlen, sizeLine_eq]
    exact o3'
end
end VL

set_option Elab.async false
set_option linter.all false
set_option maxRecDepth 100000
set_option maxHeartbeats 4000000
/-! V14: {a: x, b: y, c: z}[e], a small table of words looked into at once. -/
namespace VL
open PySem PySem.Spec PyProof.Rows L2
def look3 (z z1 z2 z3 : Str) (d1 d2 d3 : PyData) : Option PyData := if z = z3 then some d3 else if z = z2 then some d2 else if z = z1 then some d1 else none
def mPick3 (z1 z2 z3 : Str) (f1 f2 f3 f : ME) : ME := fun ρ => (f1 ρ).noex.bind fun d1 ρ1 => (f2 ρ1).noex.bind fun d2 ρ2 => (f3 ρ2).noex.bind fun d3 ρ3 => (f ρ3).noex.bind fun d ρ4 => match d with
  | .str z => Oc.opt (look3 z z1 z2 z3 d1 d2 d3) ρ4
  | _ => .no
theorem val3 {κ : Type} [DecidableEq κ] (k1 k2 k3 j : κ) (v1 v2 v3 : V) : valV (putK (putK (putK [] k1 v1) k2 v2) k3 v3) j = if j = k3 then some v3 else if j = k2 then some v2 else if j = k1 then some v1 else none := by
  rw [valV_put, valV_put, valV_put, valV_nil]
theorem noex_ok {α : Type} {o : Oc α} {a : α} {ρ : R} (h : o.noex = .ok a ρ) : o = .ok a ρ := by
  cases o <;> simp [Oc.noex] at h ⊢
  exact h
section
variable {X : Cx} {T : VT} {W : WX}
theorem res_noex {K : PySem.W.Frag} {hid : Addr → Prop} {B σ : L2.St} {ρ : R} {H : Hp} {α β : Type} {o : Oc α} {g : α → R → Oc β} {k : β → R → Hp → Prop} (h : Res K T W hid B σ ρ H (o.noex.bind g) k) : ∃ a ρ1, o = .ok a ρ1 ∧ Res K T W hid B σ ρ H (g a ρ1) k := by
  cases o with
  | ok a ρ1 => exact ⟨a, ρ1, rfl, h⟩
  | ex c ρ1 => exact h.elim
  | no => exact h.elim
theorem xpick3 {z1 z2 z3 : Str} {e1 e2 e3 e : Expr} {f1 f2 f3 f : ME} {j1 j2 j3 : Nat} {p1 p2 p3 dpos pos : Pos} (hu : X.A.units + 64 < cLine) (h1 : XE X T W e1 f1) (h2 : XE X T W e2 f2) (h3 : XE X T W e3 f3) (he : XE X T W e f) (hs : NoSl e := by intro _ _; rfl) :
    XE X T W (.Subscript (.Dict [some (.Constant (.str z1) j1 p1), some (.Constant (.str z2) j2 p2), some (.Constant (.str z3) j3 p3)] [e1, e2, e3] dpos) e pos) (mPick3 z1 z2 z3 f1 f2 f3 f) :=
  (pe_dget (by omega) (pe_disp (pps_cons pe_str h1 (pps_cons pe_str h2 (pps_cons pe_str h3 pps_nil))) rfl rfl nofun (Nat.le_of_ble_eq_true rfl)) he hs).weak fun σ H Q ⟨hid, B, ρ, S, q⟩ => by
    unfold mPick3 at q
    obtain ⟨d1, ρ1, e1', q⟩ := res_noex q
    obtain ⟨d2, ρ2, e2', q⟩ := res_noex q
    obtain ⟨d3, ρ3, e3', q⟩ := res_noex q
    obtain ⟨d, ρ4, e4', q⟩ := res_noex q
    cases d with
    | str z =>
      dsimp only at q
      cases hl : look3 z z1 z2 z3 d1 d2 d3 with
      | none => rw [hl] at q; exact q.elim
      | some w =>
        rw [hl] at q
        have q : ∀ H', SR X.K T hid B H' σ ρ4 → Ext hid σ ρ H σ ρ4 H' → ∀ v, Rp X.K (Fz hid σ ρ4 H') v w → Q v H' := q
        intro p hp
        have nh : ¬ hid p := fun z => by
          obtain ⟨o, e⟩ := S.hh p z
          rw [hp] at e
          cases e
        have S0 := S.hide (o := .dK []) hp
        refine ⟨hidD hid p, B, ρ, S0, ?_⟩
        rw [e1']
        intro H1 S1 E1 v1 r1
        refine ⟨hidD hid p, B, ρ1, S1, ?_⟩
        rw [e2']
        intro H2 S2 E2 v2 r2
        refine ⟨hidD hid p, B, ρ2, S2, ?_⟩
        rw [e3']
        intro H3 S3 E3 v3 r3
        have k3 : H3 p = some (.dK []) := by rw [E3.keep p (.inr rfl), E2.keep p (.inr rfl), E1.keep p (.inr rfl), upd_same]
        refine ⟨k3, [(.inr z1, v1), (.inr z2, v2), (.inr z3, v3)], rfl, by simp, ?_⟩
        have S4 := S3.hidden (o := .dK (mergeK [] [(.inr z1, v1), (.inr z2, v2), (.inr z3, v3)])) (show hidD hid p p from .inr rfl)
        refine ⟨hidD hid p, B, ρ3, S4, ?_⟩
        rw [e4']
        intro H5 S5 E5 y ry
        have k5 : H5 p = some (.dK (mergeK [] [(.inr z1, v1), (.inr z2, v2), (.inr z3, v3)])) := by rw [E5.keep p (.inr rfl), upd_same]
        have s5 : Same (Fz (hidD hid p) σ ρ3 H3) (Fz (hidD hid p) σ ρ4 H5) := by
          have z := E5.same
          rwa [Fz_upd (.inr rfl)] at z
        have sl : Same (Fz (hidD hid p) σ ρ4 H5) (Fz hid σ ρ4 H5) := fz_less (O := Oa (hidD hid p) σ ρ4) (O' := Oa hid σ ρ4) fun b hb => by
          rcases hb with hb | hb
          · exact .inl (.inl hb)
          · exact .inr hb
        have sc : Same (cut H5 p) H5 := fun b o e => by
          by_cases c : b = p
          · subst c; rw [cut_at] at e; cases e
          · rw [cut_ne c] at e; exact e
        have SF := (S5.unhide nh).grow sc
        have EF : Ext hid σ ρ H σ ρ4 H5 := ⟨by
          have z := E1.same
          rw [Fz_hidD hp] at z
          exact z.trans (E2.same.trans (E3.same.trans (s5.trans sl))), fun b hb => by
          have nb : b ≠ p := fun z => nh (z ▸ hb)
          rw [E5.keep b (.inl hb), upd_ne nb, E3.keep b (.inl hb), E2.keep b (.inl hb), E1.keep b (.inl hb), upd_ne nb]⟩
        have t1 := Rp.mono (E2.same.trans (E3.same.trans (s5.trans sl))) _ r1
        have t2 := Rp.mono (E3.same.trans (s5.trans sl)) _ r2
        have t3 := Rp.mono (s5.trans sl) _ r3
        have hy : y = .str z := rp_str ry
        subst hy
        have hv : valV (mergeK [] [(.inr z1, v1), (.inr z2, v2), (.inr z3, v3)]) (.inr z : Key) = if z = z3 then some v3 else if z = z2 then some v2 else if z = z1 then some v1 else none := by
          have x := val3 (.inr z1 : Key) (.inr z2) (.inr z3) (.inr z) v1 v2 v3
          simp only [Sum.inr.injEq] at x
          exact x
        have fin : ∃ v, (if z = z3 then some v3 else if z = z2 then some v2 else if z = z1 then some v1 else none) = some v ∧ Rp X.K (Fz hid σ ρ4 H5) v w := by
          unfold look3 at hl
          by_cases c3 : z = z3
          · rw [if_pos c3] at hl ⊢; cases hl; exact ⟨_, rfl, t3⟩
          · rw [if_neg c3] at hl ⊢
            by_cases c2 : z = z2
            · rw [if_pos c2] at hl ⊢; cases hl; exact ⟨_, rfl, t2⟩
            · rw [if_neg c2] at hl ⊢
              by_cases c1 : z = z1
              · rw [if_pos c1] at hl ⊢; cases hl; exact ⟨_, rfl, t1⟩
              · rw [if_neg c1] at hl; cases hl
        obtain ⟨v, ev, rv⟩ := fin
        refine ⟨p, v, rfl, ?_, q H5 SF EF v rv⟩
        have z := DGet.k (k := (.inr z : Key)) k5
        rw [hv, ev] at z
        exact z
    | _ => exact q.elim
end
end VL

set_option Elab.async false
set_option linter.all false
set_option maxRecDepth 100000
set_option maxHeartbeats 4000000
/-! V15: max and min of a list of numbers, str of a number or a text. -/
namespace VL
open PySem PySem.Spec PyProof.Rows L2
section
variable {K : PySem.W.Frag}
theorem maxI_spec : ∀ (ns : List Int) (n : Int), maxI n ns ∈ n :: ns ∧ ∀ y ∈ n :: ns, y ≤ maxI n ns
  | [], n => ⟨by simp [maxI], by simp [maxI]⟩
  | m :: ns, n => by
    show maxI (if m > n then m else n) ns ∈ _ ∧ ∀ y ∈ _, y ≤ maxI (if m > n then m else n) ns
    obtain ⟨h1, h2⟩ := maxI_spec ns (if m > n then m else n)
    generalize maxI (if m > n then m else n) ns = r at *
    refine ⟨?_, fun y hy => ?_⟩
    · rcases List.mem_cons.mp h1 with h | h
      · rw [h]; split <;> simp
      · simp [h]
    · have z := h2 _ List.mem_cons_self
      rcases List.mem_cons.mp hy with rfl | hy
      · split at z <;> omega
      · rcases List.mem_cons.mp hy with rfl | hy
        · split at z <;> omega
        · exact h2 y (List.mem_cons_of_mem _ hy)
theorem minI_spec : ∀ (ns : List Int) (n : Int), minI n ns ∈ n :: ns ∧ ∀ y ∈ n :: ns, minI n ns ≤ y
  | [], n => ⟨by simp [minI], by simp [minI]⟩
  | m :: ns, n => by
    show minI (if m < n then m else n) ns ∈ _ ∧ ∀ y ∈ _, minI (if m < n then m else n) ns ≤ y
    obtain ⟨h1, h2⟩ := minI_spec ns (if m < n then m else n)
    generalize minI (if m < n then m else n) ns = r at *
    refine ⟨?_, fun y hy => ?_⟩
    · rcases List.mem_cons.mp h1 with h | h
      · rw [h]; split <;> simp
      · simp [h]
    · have z := h2 _ List.mem_cons_self
      rcases List.mem_cons.mp hy with rfl | hy
      · split at z <;> omega
      · rcases List.mem_cons.mp hy with rfl | hy
        · split at z <;> omega
        · exact h2 y (List.mem_cons_of_mem _ hy)
theorem pure_max : PureN K (rMax K) maxD := by
  intro O H xs ds res Q hO rx ho q
  unfold maxD at ho
  split at ho
  · rename_i ds
    split at ho
    · rename_i n ns e
      cases ho
      obtain ⟨x, rfl, r⟩ := rp1 rx
      obtain ⟨a, ys, rfl, h1, h2⟩ := rp_lst r
      rw [intsD_of e] at h2
      rw [rp_ints h2] at h1
      refine ⟨a, n :: ns, rfl, SqL.of (fz_le _ _ h1), by simp, fun m hm hy => ?_⟩
      obtain ⟨s1, s2⟩ := maxI_spec ns n
      have : m = maxI n ns := Int.le_antisymm (s2 m hm) (hy _ s1)
      subst this
      exact q _ H (Same.refl _) (.int _)
    · cases ho
  · cases ho
theorem pure_min : PureN K (rMin K) minD := by
  intro O H xs ds res Q hO rx ho q
  unfold minD at ho
  split at ho
  · rename_i ds
    split at ho
    · rename_i n ns e
      cases ho
      obtain ⟨x, rfl, r⟩ := rp1 rx
      obtain ⟨a, ys, rfl, h1, h2⟩ := rp_lst r
      rw [intsD_of e] at h2
      rw [rp_ints h2] at h1
      refine ⟨a, n :: ns, rfl, SqL.of (fz_le _ _ h1), by simp, fun m hm hy => ?_⟩
      obtain ⟨s1, s2⟩ := minI_spec ns n
      have : m = minI n ns := Int.le_antisymm (hy _ s1) (s2 m hm)
      subst this
      exact q _ H (Same.refl _) (.int _)
    · cases ho
  · cases ho
def rStrD : List V → Hp → VK → Prop := fun xs H Q => (∃ i : Int, xs = [.int i] ∧ i.natAbs.log2 < 1920 ∧ Q (.str (toString i)) H) ∨ ∃ a, xs = [.str a] ∧ Q (.str a) H
theorem pure_str : PureN K rStrD strD := by
  intro O H xs ds res Q hO rx ho q
  unfold strD at ho
  split at ho
  · split at ho
    · rename_i i hz
      cases ho
      obtain ⟨x, rfl, r⟩ := rp1 rx
      exact .inl ⟨i, by rw [rp_int r], of_decide_eq_true hz, q _ H (Same.refl _) (.str _)⟩
    · cases ho
  · cases ho
    obtain ⟨x, rfl, r⟩ := rp1 rx
    exact .inr ⟨_, by rw [rp_str r], q _ H (Same.refl _) (.str _)⟩
  · cases ho
end
section
variable {X : Cx}
theorem call_strA : CallR X (.type "str") rStrD := by
  intro pins s σ H xs us Q I r h
  rcases h with h | h
  · exact call_str_int pins s σ H xs us Q I r h
  · exact SkE.call_str_str pins s σ H xs us Q I r h
end
end VL

set_option Elab.async false
set_option linter.all false
set_option maxRecDepth 100000
set_option maxHeartbeats 4000000
/-! VM0: reckoning with mirrors: outcomes, loops, comprehensions, draws. -/
namespace VL
open PySem

/-! ### an outcome that is good -/
def Ev {α : Type} (o : Oc α) (P : α → R → Prop) : Prop := ∃ a ρ, o = .ok a ρ ∧ P a ρ
theorem Ev.ok {α : Type} {a : α} {ρ : R} {P : α → R → Prop} (h : P a ρ) : Ev (.ok a ρ) P := ⟨a, ρ, rfl, h⟩
theorem Ev.of {α : Type} {o : Oc α} {a : α} {ρ : R} {P : α → R → Prop} (e : o = .ok a ρ) (h : P a ρ) : Ev o P := ⟨a, ρ, e, h⟩
theorem Ev.imp {α : Type} {o : Oc α} {P Q : α → R → Prop} (h : Ev o P) (k : ∀ a ρ, P a ρ → Q a ρ) : Ev o Q := let ⟨a, ρ, e, p⟩ := h; ⟨a, ρ, e, k a ρ p⟩
theorem Ev.bind {α β : Type} {o : Oc α} {g : α → R → Oc β} {P : β → R → Prop} (h : Ev o fun a ρ => Ev (g a ρ) P) : Ev (o.bind g) P := by
  obtain ⟨a, ρ, rfl, b, ρ', e, p⟩ := h
  exact ⟨b, ρ', e, p⟩
theorem ok_bind {α β : Type} {a : α} {ρ : R} {g : α → R → Oc β} : (Oc.ok a ρ).bind g = g a ρ := rfl

/-! ### comprehensions that change nothing -/
theorem lcLoop_pure {α : Type} {g : MG} {t : MT} {f : ME} {vs : List Nat} {ρ : R} (enc : α → PyData) (b : α → Bool) (e : α → PyData) : ∀ (xs : List α) (acc : List PyData),
    (∀ x ∈ xs, ∃ ρx, g (enc x) ρ = some ρx ∧ t ρx = .ok (b x) ρx ∧ (b x = true → f ρx = .ok (e x) ρx) ∧ wipeOk ρx vs = true ∧ wipeR ρx vs = ρ) → acc.length + xs.length ≤ 16777216 →
    lcLoop g t f vs (xs.map enc) ρ acc = .ok (acc ++ (xs.filter b).map e) ρ
  | [], acc, _, _ => by simp [lcLoop]
  | x :: xs, acc, h, hl => by
    obtain ⟨ρx, h1, h2, h3, h4, h5⟩ := h x List.mem_cons_self
    have hx : ∀ y ∈ xs, ∃ ρx, g (enc y) ρ = some ρx ∧ t ρx = .ok (b y) ρx ∧ (b y = true → f ρx = .ok (e y) ρx) ∧ wipeOk ρx vs = true ∧ wipeR ρx vs = ρ := fun y hy => h y (List.mem_cons_of_mem _ hy)
    simp only [List.length_cons] at hl
    show (match g (enc x) ρ with
      | none => Oc.no
      | some ρ1 => (t ρ1).bind fun b ρ2 => if b = true then (f ρ2).bind fun y ρ3 => if fits (acc.length + 1) && wipeOk ρ3 vs then lcLoop g t f vs (xs.map enc) (wipeR ρ3 vs) (acc ++ [y]) else .no
        else if wipeOk ρ2 vs then lcLoop g t f vs (xs.map enc) (wipeR ρ2 vs) acc else .no) = _
    simp only [h1, h2, ok_bind]
    cases hb : b x with
    | true =>
      have hf : (fits (acc.length + 1) && wipeOk ρx vs) = true := by rw [h4, Bool.and_true]; exact decide_eq_true (by omega)
      simp only [if_true, h3 hb, ok_bind, hf, h5]
      rw [lcLoop_pure enc b e xs (acc ++ [e x]) hx (by simp; omega), List.filter_cons_of_pos hb]
      simp
    | false =>
      simp only [Bool.false_eq_true, if_false, h4, if_true, h5]
      rw [lcLoop_pure enc b e xs acc hx (by omega), List.filter_cons_of_neg (by simp [hb])]
theorem mLc_pure {α : Type} {fs : ML} {g : MG} {t : MT} {f : ME} {vs : List Nat} {ρ ρ1 : R} (xs : List α) (enc : α → PyData) (b : α → Bool) (e : α → PyData) (h1 : fs ρ = .ok (xs.map enc) ρ1) (hw : wipeOk ρ1 vs = true)
    (hx : ∀ x ∈ xs, ∃ ρx, g (enc x) (wipeR ρ1 vs) = some ρx ∧ t ρx = .ok (b x) ρx ∧ (b x = true → f ρx = .ok (e x) ρx) ∧ wipeOk ρx vs = true ∧ wipeR ρx vs = wipeR ρ1 vs) (hl : xs.length ≤ 16777216) :
    mLc fs g t f vs ρ = .ok ((xs.filter b).map e) (restR ρ1 (wipeR ρ1 vs) vs) := by
  unfold mLc
  rw [h1, ok_bind, if_pos hw, lcLoop_pure enc b e xs [] hx (by simpa using hl)]
  rfl
/-- the same without a test -/
theorem mLc_map {α : Type} {fs : ML} {g : MG} {f : ME} {vs : List Nat} {ρ ρ1 : R} (xs : List α) (enc : α → PyData) (e : α → PyData) (h1 : fs ρ = .ok (xs.map enc) ρ1) (hw : wipeOk ρ1 vs = true)
    (hx : ∀ x ∈ xs, ∃ ρx, g (enc x) (wipeR ρ1 vs) = some ρx ∧ f ρx = .ok (e x) ρx ∧ wipeOk ρx vs = true ∧ wipeR ρx vs = wipeR ρ1 vs) (hl : xs.length ≤ 16777216) :
    mLc fs g mYes f vs ρ = .ok (xs.map e) (restR ρ1 (wipeR ρ1 vs) vs) := by
  have z := mLc_pure (t := mYes) xs enc (fun _ => true) e h1 hw (fun x hm => by
    obtain ⟨ρx, a, b, c, d⟩ := hx x hm
    exact ⟨ρx, a, rfl, fun _ => b, c, d⟩) hl
  rw [z, List.filter_eq_self.mpr (fun _ _ => rfl)]
/-! ### comprehensions whose elements change the state -/
theorem lcLoop_inv {g : MG} {t : MT} {f : ME} {vs : List Nat} {P : List PyData → R → Prop} (I : Nat → List PyData → R → Prop) (ds : List PyData) (hs : ds.length ≤ 16777216)
    (step : ∀ i d ρ acc, ds[i]? = some d → acc.length ≤ i → I i acc ρ → ∃ ρ1, g d ρ = some ρ1 ∧ Ev (t ρ1) fun b ρ2 => if b = true then Ev (f ρ2) fun y ρ3 => wipeOk ρ3 vs = true ∧ I (i + 1) (acc ++ [y]) (wipeR ρ3 vs) else wipeOk ρ2 vs = true ∧ I (i + 1) acc (wipeR ρ2 vs))
    (fin : ∀ acc ρ, I ds.length acc ρ → P acc ρ) : ∀ (i : Nat) (ρ : R) (acc : List PyData), i ≤ ds.length → acc.length ≤ i → I i acc ρ → Ev (lcLoop g t f vs (ds.drop i) ρ acc) P := by
  intro i ρ acc hi
  induction hk : ds.length - i generalizing i ρ acc with
  | zero =>
    intro hl h
    have e : i = ds.length := by omega
    subst e
    rw [List.drop_length]
    exact .ok (fin acc ρ h)
  | succ k ih =>
    intro hl h
    have lt : i < ds.length := by omega
    obtain ⟨ρ1, e1, b, ρ2, e2, h2⟩ := step i ds[i] ρ acc (List.getElem?_eq_getElem lt) hl h
    rw [List.drop_eq_getElem_cons lt]
    show Ev (match g ds[i] ρ with
      | none => Oc.no
      | some ρ1 => (t ρ1).bind fun b ρ2 => if b = true then (f ρ2).bind fun y ρ3 => if fits (acc.length + 1) && wipeOk ρ3 vs then lcLoop g t f vs (ds.drop (i + 1)) (wipeR ρ3 vs) (acc ++ [y]) else .no
        else if wipeOk ρ2 vs then lcLoop g t f vs (ds.drop (i + 1)) (wipeR ρ2 vs) acc else .no) P
    simp only [e1, e2, ok_bind]
    cases b with
    | true =>
      simp only [if_true] at h2 ⊢
      obtain ⟨y, ρ3, e3, hw, h3⟩ := h2
      have hf : (fits (acc.length + 1) && wipeOk ρ3 vs) = true := by rw [hw, Bool.and_true]; exact decide_eq_true (by omega)
      simp only [e3, ok_bind, hf, if_true]
      exact ih (i + 1) _ _ (by omega) (by omega) (by simp; omega) h3
    | false =>
      simp only [Bool.false_eq_true, if_false] at h2 ⊢
      simp only [h2.1, if_true]
      exact ih (i + 1) _ _ (by omega) (by omega) (by omega) h2.2
theorem mLc_inv {fs : ML} {g : MG} {t : MT} {f : ME} {vs : List Nat} {ρ ρ1 : R} {P : List PyData → R → Prop} (I : Nat → List PyData → R → Prop) (ds : List PyData) (h1 : fs ρ = .ok ds ρ1) (hs : ds.length ≤ 16777216) (hw : wipeOk ρ1 vs = true) (h0 : I 0 [] (wipeR ρ1 vs))
    (step : ∀ i d ρ acc, ds[i]? = some d → acc.length ≤ i → I i acc ρ → ∃ ρ1, g d ρ = some ρ1 ∧ Ev (t ρ1) fun b ρ2 => if b = true then Ev (f ρ2) fun y ρ3 => wipeOk ρ3 vs = true ∧ I (i + 1) (acc ++ [y]) (wipeR ρ3 vs) else wipeOk ρ2 vs = true ∧ I (i + 1) acc (wipeR ρ2 vs))
    (fin : ∀ acc ρ2, I ds.length acc ρ2 → P acc (restR ρ1 ρ2 vs)) : Ev (mLc fs g t f vs ρ) P := by
  unfold mLc
  rw [h1, ok_bind, if_pos hw]
  obtain ⟨acc, ρ2, e, h⟩ := lcLoop_inv (P := fun acc ρ2 => I ds.length acc ρ2) I ds hs step (fun _ _ h => h) 0 _ [] (Nat.zero_le _) (Nat.le_refl _) h0
  rw [List.drop_zero] at e
  rw [e]
  exact .ok (fin acc ρ2 h)
theorem mLc_invY {fs : ML} {g : MG} {f : ME} {vs : List Nat} {ρ ρ1 : R} {P : List PyData → R → Prop} (I : Nat → List PyData → R → Prop) (ds : List PyData) (h1 : fs ρ = .ok ds ρ1) (hs : ds.length ≤ 16777216) (hw : wipeOk ρ1 vs = true) (h0 : I 0 [] (wipeR ρ1 vs))
    (step : ∀ i d ρ acc, ds[i]? = some d → acc.length ≤ i → I i acc ρ → ∃ ρ1, g d ρ = some ρ1 ∧ ∃ y ρ3, f ρ1 = .ok y ρ3 ∧ wipeOk ρ3 vs = true ∧ I (i + 1) (acc ++ [y]) (wipeR ρ3 vs))
    (fin : ∀ acc ρ2, I ds.length acc ρ2 → P acc (restR ρ1 ρ2 vs)) : Ev (mLc fs g mYes f vs ρ) P :=
  mLc_inv I ds h1 hs hw h0 (fun i d ρ acc hd hl hI => by
    obtain ⟨ρ1, e1, y, ρ3, e2, hw, h⟩ := step i d ρ acc hd hl hI
    refine ⟨ρ1, e1, true, ρ1, rfl, ?_⟩
    simp only [if_true]
    exact ⟨y, ρ3, e2, hw, h⟩) fin
/-! ### loops -/
theorem loopS_inv {g : MG} {m : MS} {P : Fl → R → Prop} (I : Nat → R → Prop) (ds : List PyData)
    (step : ∀ i d ρ, ds[i]? = some d → I i ρ → ∃ ρ1, g d ρ = some ρ1 ∧ Ev (m ρ1) fun fl ρ2 => match fl with
      | .nx => I (i + 1) ρ2
      | .ct => I (i + 1) ρ2
      | .bk => P .nx ρ2
      | .rt d => P (.rt d) ρ2)
    (fin : ∀ ρ, I ds.length ρ → P .nx ρ) : ∀ (i : Nat) (ρ : R), i ≤ ds.length → I i ρ → Ev (loopS g m (ds.drop i) ρ) P := by
  intro i ρ hi
  induction hk : ds.length - i generalizing i ρ with
  | zero =>
    intro h
    have e : i = ds.length := by omega
    subst e
    rw [List.drop_length]
    exact .ok (fin ρ h)
  | succ k ih =>
    intro h
    have lt : i < ds.length := by omega
    obtain ⟨ρ1, e1, fl, ρ2, e2, h2⟩ := step i ds[i] ρ (List.getElem?_eq_getElem lt) h
    rw [List.drop_eq_getElem_cons lt]
    show Ev (match g ds[i] ρ with
      | none => Oc.no
      | some ρ1 => (m ρ1).bind fun fl ρ2 => match fl with
        | .nx => loopS g m (ds.drop (i + 1)) ρ2
        | .ct => loopS g m (ds.drop (i + 1)) ρ2
        | .bk => .ok .nx ρ2
        | .rt d => .ok (.rt d) ρ2) P
    simp only [e1, e2, ok_bind]
    cases fl with
    | nx => exact ih (i + 1) ρ2 (by omega) (by omega) h2
    | ct => exact ih (i + 1) ρ2 (by omega) (by omega) h2
    | bk => exact .ok h2
    | rt d => exact .ok h2
theorem mFor_inv {fs : ML} {g : MG} {m : MS} {ρ ρ0 : R} {P : Fl → R → Prop} (I : Nat → R → Prop) (ds : List PyData) (h1 : fs ρ = .ok ds ρ0) (h0 : I 0 ρ0)
    (step : ∀ i d ρ, ds[i]? = some d → I i ρ → ∃ ρ1, g d ρ = some ρ1 ∧ Ev (m ρ1) fun fl ρ2 => match fl with
      | .nx => I (i + 1) ρ2
      | .ct => I (i + 1) ρ2
      | .bk => P .nx ρ2
      | .rt d => P (.rt d) ρ2)
    (fin : ∀ ρ, I ds.length ρ → P .nx ρ) : Ev (mFor fs g m ρ) P := by
  unfold mFor
  rw [h1, ok_bind]
  have z := loopS_inv (P := P) I ds step fin 0 ρ0 (Nat.zero_le _) h0
  rw [List.drop_zero] at z
  exact z
end VL

set_option Elab.async false
set_option linter.all false
set_option maxRecDepth 100000
set_option maxHeartbeats 4000000
namespace VL
open PySem PySem.Spec PyProof.Rows L2
noncomputable def L_at : Mir := mFn 3 1
 ((mRet (m2 ixD (mLst (mLc (mItA range1D (mCons (mN lenD (mCons (mVar 1) mNil)) mNil)) (gNm 3) (mB (m2 eqD (m2 ixD (m2 ixD (mVar 0) (mVar 3)) (mC (.int 0))) (mVar 2))) (m2 ixD (mVar 1) (mVar 3)) [3])) (mC (.int 0)))))
noncomputable def L_cell : Mir := mFn 2 0
 ((mSeq (mIfS (mScrT 0) (mRet (mScrIx 0 (m2 modD (mVar 1) (mScrLen 0)))) mNx)
 (mRet (mC (.int 0)))))
noncomputable def L_mix : Mir := mFn 2 1
 ((mSeq (mSet 2 (m2 modD (m2 addD (mCall L_cell (mAr 0 (mAv (mVar 1) mANil))) (m2 mulD (mC (.int 104729)) (m2 addD (mVar 1) (mC (.int 1))))) (mC (.int 4294967291))))
 (mSeq (mSet 2 (m2 modD (m2 powD (mVar 2) (mC (.int 5))) (mC (.int 4294967279))))
 (mRet (m2 modD (m2 addD (m2 mulD (m2 divD (mVar 2) (mC (.int 64))) (mC (.int 69621))) (mVar 2)) (mC (.int 4294967231)))))))
noncomputable def L_draw : Mir := mFn 3 0
 ((mSeq (mMut 1 appendD (mC (.int 0)))
 (mRet (m2 modD (m2 divD (mCall L_mix (mAr 0 (mAv (mLenP 1) mANil))) (mC (.int 8))) (mVar 2)))))
noncomputable def L_pick : Mir := mFn 3 0
 ((mRet (m2 ixD (mVar 2) (mCall L_draw (mAr 0 (mAb 1 (mAv (mN lenD (mCons (mVar 2) mNil)) mANil)))))))
noncomputable def L_word : Mir := mFn 2 2
 ((mSeq (mSet 2 (mC (.str "abcdefghijklmnopqrstuvwxyz")))
 (mSeq (mIfS (mB (m2 gtD (mCall L_draw (mAr 0 (mAb 1 (mAv (mC (.int 8)) mANil)))) (mC (.int 0)))) (mRet (mCall L_pick (mAr 0 (mAb 1 (mAv (mLst (mDsp (mCons (mC (.str "a")) (mCons (mC (.str "ab")) (mCons (mC (.str "abc")) (mCons (mC (.str "b")) (mCons (mC (.str "ba")) (mCons (mC (.str "count")) (mCons (mC (.str "band")) mNil))))))))) mANil))))) mNx)
 (mRet (mStr1 joinD (mC (.str "")) (mLst (mLc (mItA range1D (mCons (m2 addD (mC (.int 1)) (mCall L_draw (mAr 0 (mAb 1 (mAv (mC (.int 8)) mANil))))) mNil)) (gNm 3) mYes (m2 ixD (mVar 2) (mCall L_draw (mAr 0 (mAb 1 (mAv (mC (.int 26)) mANil))))) [3])))))))
noncomputable def L_value : Mir := mFn 3 1
 ((mSeq (mIfS (mB (m2 eqD (mCall L_draw (mAr 0 (mAb 1 (mAv (mC (.int 6)) mANil)))) (mC (.int 0)))) (mRet (mC .none)) mNx)
 (mSeq (mIfS (mB (m2 eqD (mVar 2) (mC (.str "word")))) (mRet (mCall L_word (mAr 0 (mAb 1 mANil)))) mNx)
 (mSeq (mSet 3 (mLst (mDsp (mCons (mC (.int 0)) (mCons (mC (.int 1)) (mCons (mC (.int 1)) (mCons (mC (.int 2)) (mCons (mC (.int 7)) (mCons (m2 subD (mC (.int 0)) (mC (.int 1))) (mCons (m2 subD (mC (.int 0)) (mC (.int 7))) (mCons (mC (.int 1000000)) (mCons (m2 subD (mC (.int 0)) (mC (.int 1000000))) (mCons (m2 subD (mCall L_draw (mAr 0 (mAb 1 (mAv (mC (.int 100)) mANil)))) (mC (.int 50))) mNil)))))))))))))
 (mRet (mCall L_pick (mAr 0 (mAb 1 (mAv (mVar 3) mANil)))))))))
noncomputable def L_row : Mir := mFn 3 2
 ((mRet (mN tupD (mCons (mLst (mLc (mIt (mVar 2)) (gTp [(gNm 3), (gNm 4)]) mYes (mCall L_value (mAr 0 (mAb 1 (mAv (mVar 4) mANil)))) [3, 4])) mNil))))
noncomputable def L_behind_c0 : ML :=
 (mLc (mIt (mVar 0)) (gNm 5) (mB (m2 eqD (mSl (m2 ixD (mVar 5) (mC (.int 1))) mPn (mPs (mN lenD (mCons (mVar 2) mNil)))) (mVar 2))) (mVar 5) [5])
noncomputable def L_behind_c1 : ML :=
 (mLc (mIt (mVar 4)) (gNm 5) (mB (m2 eqD (mSl (m2 ixD (mVar 5) (mC (.int 2))) mPn (mPs (mN lenD (mCons (mVar 3) mNil)))) (mVar 3))) (m2 ixD (mVar 5) (mC (.int 0))) [5])
noncomputable def L_behind : Mir := mFn 2 4
 ((mSeq (mAsg (gTp [(gNm 2), (gNm 3)]) (mVar 1))
 (mSeq (mSet 4 (mLst L_behind_c0))
 (mRet (mLst L_behind_c1)))))
noncomputable def L_mark_c0 : ML :=
 (mLc (mIt (mVar 0)) (gNm 1) mYes (mIf (mB (m2 isD (mVar 1) (mC .none))) (mTup (mCons (mC (.int 0)) (mCons (mC (.int 0)) (mCons (mC (.str "")) mNil)))) (mIf (mTru (m1 (isiD "str") (mVar 1))) (mTup (mCons (mC (.int 1)) (mCons (mC (.int 0)) (mCons (mVar 1) mNil)))) (mTup (mCons (mC (.int 1)) (mCons (mVar 1) (mCons (mC (.str "")) mNil)))))) [1])
noncomputable def L_mark : Mir := mFn 1 1
 ((mRet (mLst L_mark_c0)))
noncomputable def L_heads_c0 : ML :=
 (mLc (mItA range2D (mCons (mC (.int 1)) (mCons (m2 addD (mN lenD (mCons (mVar 2) mNil)) (mC (.int 1))) mNil))) (gNm 3) mYes (mSl (mVar 2) mPn (mPs (mVar 3))) [3])
noncomputable def L_heads_b0 : MS :=
 (mSet 1 (m2 addD (mVar 1) (mLst L_heads_c0)))
noncomputable def L_heads_l0 : MS :=
 (mFor (mIt (mVar 0)) (gNm 2) L_heads_b0)
noncomputable def L_heads_c1 : ML :=
 (mLc (mItA range1D (mCons (mN lenD (mCons (mVar 1) mNil)) mNil)) (gNm 3) (mB (m2 (inD not) (m2 ixD (mVar 1) (mVar 3)) (mSl (mVar 1) mPn (mPs (mVar 3))))) (m2 ixD (mVar 1) (mVar 3)) [3])
noncomputable def L_heads_c2 : ML :=
 (mLc (mItA range1D (mCons (mN lenD (mCons (mVar 1) mNil)) mNil)) (gNm 3) mYes (mTup (mCons (mCall L_mark (mAv (m2 ixD (mVar 1) (mVar 3)) mANil)) (mCons (mVar 3) mNil))) [3])
noncomputable def L_heads_c3 : ML :=
 (mLc (mIt (mVar 4)) (gTp [(gNm 5), (gNm 3)]) mYes (m2 ixD (mVar 1) (mVar 3)) [5, 3])
noncomputable def L_heads : Mir := mFn 1 5
 ((mSeq (mSet 1 (mLst (mDsp (mCons (mTup mNil) mNil))))
 (mSeq L_heads_l0
 (mSeq (mSet 1 (mLst L_heads_c1))
 (mSeq (mSet 4 (mN sortD (mCons (mLst L_heads_c2) mNil)))
 (mRet (mLst L_heads_c3)))))))
noncomputable def L_counts_b0 : MS :=
 (mSeq (mSet 4 (mCall L_at (mAv (mVar 0) (mAv (mVar 2) (mAv (m2 ixD (mVar 3) (mC (.int 1))) mANil)))))
 (mSeq (mIfS (mOr (mAnd (mB (m2 eqD (m2 ixD (mVar 3) (mC (.int 0))) (mC (.str "is")))) (mB (m2 neD (mVar 4) (m2 ixD (mVar 3) (mC (.int 2)))))) (mAnd (mB (m2 eqD (m2 ixD (mVar 3) (mC (.int 0))) (mC (.str "not")))) (mB (m2 eqD (mVar 4) (m2 ixD (mVar 3) (mC (.int 2))))))) (mRet (mC (.bool false))) mNx)
 (mSeq (mIfS (mAnd (mB (m2 eqD (m2 ixD (mVar 3) (mC (.int 0))) (mC (.str "from")))) (mB (m2 isD (mVar 4) (mC .none)))) (mRet (mC (.bool false))) mNx)
 (mIfS (mAnd (mB (m2 eqD (m2 ixD (mVar 3) (mC (.int 0))) (mC (.str "from")))) (mOr (mB (m2 ltD (mVar 4) (m2 ixD (mVar 3) (mC (.int 2))))) (mB (m2 ltD (m2 ixD (mVar 3) (mC (.int 3))) (mVar 4))))) (mRet (mC (.bool false))) mNx))))
noncomputable def L_counts_l0 : MS :=
 (mFor (mIt (mVar 1)) (gNm 3) L_counts_b0)
noncomputable def L_counts : Mir := mFn 3 2
 ((mSeq L_counts_l0
 (mRet (mC (.bool true)))))
noncomputable def L_path_b0 : MS :=
 (mSeq (mSet 5 (mCall L_at (mAv (mVar 0) (mAv (mVar 2) (mAv (mIf (mTru (m1 (isiD "str") (mVar 4))) (mVar 4) (m2 ixD (mVar 4) (mC (.int 1)))) mANil)))))
 (mSeq (mIfS (mAnd (mB (m2 isntD (mVar 5) (mC .none))) (mNot (mTru (m1 (isiD "str") (mVar 4))))) (mSet 5 (mIf (mB (m2 eqD (m2 ixD (mVar 4) (mC (.int 0))) (mC (.str "band")))) (m2 subD (mVar 5) (m2 modD (mVar 5) (m2 ixD (mVar 4) (mC (.int 2))))) (mSl (mVar 5) mPn (mPs (m2 ixD (mVar 4) (mC (.int 2))))))) mNx)
 (mMut 3 appendD (mVar 5))))
noncomputable def L_path_l0 : MS :=
 (mFor (mIt (mVar 1)) (gNm 4) L_path_b0)
noncomputable def L_path : Mir := mFn 3 3
 ((mSeq (mSetO 3 (mDsp mNil))
 (mSeq L_path_l0
 (mRet (mN tupD (mCons (mRd 3) mNil))))))
noncomputable def L_rows_c0 : ML :=
 (mLc (mItA range1D (mCons (mN lenD (mCons (m2 ixD (mVar 0) (mC (.int 1))) mNil)) mNil)) (gNm 4) (mTru (mCall L_counts (mAv (mVar 2) (mAv (m2 ixD (mVar 1) (mC (.int 3))) (mAv (m2 ixD (m2 ixD (mVar 0) (mC (.int 1))) (mVar 4)) mANil))))) (mVar 4) [4])
noncomputable def L_rows_b0 : MS :=
 (mSeq (mSet 6 (m2 ixD (m2 ixD (mVar 0) (mC (.int 1))) (mVar 4)))
 (mMut 5 appendD (mTup (mCons (mVar 4) (mCons (mCall L_path (mAv (mVar 2) (mAv (m2 ixD (mVar 1) (mC (.int 0))) (mAv (mVar 6) mANil)))) (mCons (mCall L_path (mAv (mVar 2) (mAv (m2 ixD (mVar 1) (mC (.int 1))) (mAv (mVar 6) mANil)))) mNil))))))
noncomputable def L_rows_l0 : MS :=
 (mFor (mIt (mVar 3)) (gNm 4) L_rows_b0)
noncomputable def L_rows : Mir := mFn 2 5
 ((mSeq (mSet 2 (m2 ixD (mVar 0) (mC (.int 0))))
 (mSeq (mSet 3 (mLst L_rows_c0))
 (mSeq (mSetO 5 (mDsp mNil))
 (mSeq L_rows_l0
 (mRet (mRd 5)))))))
noncomputable def L_least_t0 : MT :=
 (mB (m2 gtD (mVar 3) (mC (.int 0))))
noncomputable def L_least_b0 : MS :=
 (mSet2 2 3 (mVar 3) (m2 modD (mVar 2) (mVar 3)))
noncomputable def L_least_l0 : MS :=
 (mWhile L_least_t0 L_least_b0)
noncomputable def L_least : Mir := mFn 2 3
 ((mSeq (mIfS (mB (m2 eqD (mVar 1) (mC (.int 0)))) (mRet (mC .none)) mNx)
 (mSeq (mSet2 2 3 (mN absD (mCons (mVar 0) mNil)) (mN absD (mCons (mVar 1) mNil)))
 (mSeq L_least_l0
 (mSeq (mSet 4 (mIf (mB (m2 gtD (mVar 1) (mC (.int 0)))) (mVar 2) (m2 subD (mC (.int 0)) (mVar 2))))
 (mRet (mTup (mCons (m2 divD (mVar 0) (mVar 4)) (mCons (m2 divD (mVar 1) (mVar 4)) mNil)))))))))
noncomputable def L_columns : Mir := mFn 2 5
 ((mSeq (mSet 2 (mLst (mDsp (mCons (mC (.str "w")) (mCons (mC (.str "n")) (mCons (mC (.str "word")) (mCons (mC (.str "size")) (mCons (mC (.str "of")) (mCons (mC (.str "abcdefgh")) mNil)))))))))
 (mSeq (mSet 3 (mCall L_draw (mAr 0 (mAb 1 (mAv (mC (.int 6)) mANil)))))
 (mSeq (mSet 2 (m2 addD (mSl (mVar 2) (mPs (mVar 3)) mPn) (mSl (mVar 2) mPn (mPs (mVar 3)))))
 (mSeq (mSet 4 (m2 addD (mLst (mDsp (mCons (mC (.str "word")) (mCons (mC (.str "number")) mNil)))) (mLst (mLc (mItA range1D (mCons (mC (.int 4)) mNil)) (gNm 5) mYes (mCall L_pick (mAr 0 (mAb 1 (mAv (mLst (mDsp (mCons (mC (.str "word")) (mCons (mC (.str "number")) mNil)))) mANil)))) [5]))))
 (mSeq (mSet 6 (mLst (mLc (mItA range1D (mCons (m2 addD (mC (.int 2)) (mCall L_draw (mAr 0 (mAb 1 (mAv (mC (.int 5)) mANil))))) mNil)) (gNm 5) mYes (mTup (mCons (m2 ixD (mVar 2) (mVar 5)) (mCons (m2 ixD (mVar 4) (mVar 5)) mNil))) [5])))
 (mSeq (mSet 3 (mCall L_draw (mAr 0 (mAb 1 (mAv (mN lenD (mCons (mVar 6) mNil)) mANil)))))
 (mRet (mN tupD (mCons (m2 addD (mSl (mVar 6) (mPs (mVar 3)) mPn) (mSl (mVar 6) mPn (mPs (mVar 3)))) mNil))))))))))
noncomputable def L_mark_k04_c0 : ML :=
 (mLc (mIt (mVar 0)) (gNm 1) mYes (mIf (mB (m2 isD (mVar 1) (mC .none))) (mTup (mCons (mC (.int 0)) (mCons (mC (.int 0)) (mCons (mC (.str "")) mNil)))) (mIf (mTru (m1 (isiD "str") (mVar 1))) (mTup (mCons (mC (.int 1)) (mCons (mC (.int 0)) (mCons (mVar 1) mNil)))) (mTup (mCons (mC (.int 1)) (mCons (mVar 1) (mCons (mC (.str "")) mNil)))))) [1])
noncomputable def L_mark_k04 : Mir := mFn 1 1
 ((mRet (mLst L_mark_k04_c0)))
noncomputable def L_heads_k04_c0 : ML :=
 (mLc (mItA range2D (mCons (mC (.int 1)) (mCons (m2 addD (mN lenD (mCons (mVar 2) mNil)) (mC (.int 1))) mNil))) (gNm 3) mYes (mSl (mVar 2) mPn (mPs (mVar 3))) [3])
noncomputable def L_heads_k04_b0 : MS :=
 (mSet 1 (m2 addD (mVar 1) (mLst L_heads_k04_c0)))
noncomputable def L_heads_k04_l0 : MS :=
 (mFor (mIt (mVar 0)) (gNm 2) L_heads_k04_b0)
noncomputable def L_heads_k04_c1 : ML :=
 (mLc (mItA range1D (mCons (mN lenD (mCons (mVar 1) mNil)) mNil)) (gNm 3) (mB (m2 (inD not) (m2 ixD (mVar 1) (mVar 3)) (mSl (mVar 1) mPn (mPs (mVar 3))))) (m2 ixD (mVar 1) (mVar 3)) [3])
noncomputable def L_heads_k04_c2 : ML :=
 (mLc (mItA range1D (mCons (mN lenD (mCons (mVar 1) mNil)) mNil)) (gNm 3) mYes (mTup (mCons (mCall L_mark_k04 (mAv (m2 ixD (mVar 1) (mVar 3)) mANil)) (mCons (mVar 3) mNil))) [3])
noncomputable def L_heads_k04_c3 : ML :=
 (mLc (mIt (mVar 4)) (gTp [(gNm 5), (gNm 3)]) mYes (m2 ixD (mVar 1) (mVar 3)) [5, 3])
noncomputable def L_heads_k04 : Mir := mFn 1 5
 ((mSeq (mSet 1 (mLst (mDsp (mCons (mTup mNil) mNil))))
 (mSeq L_heads_k04_l0
 (mSeq (mSet 1 (mLst L_heads_k04_c1))
 (mSeq (mSet 4 (mN sortD (mCons (mLst L_heads_k04_c2) mNil)))
 (mRet (mLst L_heads_k04_c3)))))))
noncomputable def L_mark_k70_c0 : ML :=
 (mLc (mIt (mVar 0)) (gNm 1) mYes (mIf (mB (m2 isD (mVar 1) (mC .none))) (mTup (mCons (mC (.int 0)) (mCons (mC (.int 0)) (mCons (mC (.str "")) mNil)))) (mIf (mTru (m1 (isiD "str") (mVar 1))) (mTup (mCons (mC (.int 1)) (mCons (mC (.int 0)) (mCons (mVar 1) mNil)))) (mTup (mCons (mC (.int 1)) (mCons (mVar 1) (mCons (mC (.str "")) mNil)))))) [1])
noncomputable def L_mark_k70 : Mir := mFn 1 1
 ((mRet (mLst L_mark_k70_c0)))
noncomputable def L_heads_k70_c0 : ML :=
 (mLc (mItA range2D (mCons (mC (.int 1)) (mCons (m2 addD (mN lenD (mCons (mVar 2) mNil)) (mC (.int 1))) mNil))) (gNm 3) mYes (mSl (mVar 2) mPn (mPs (mVar 3))) [3])
noncomputable def L_heads_k70_b0 : MS :=
 (mSet 1 (m2 addD (mVar 1) (mLst L_heads_k70_c0)))
noncomputable def L_heads_k70_l0 : MS :=
 (mFor (mIt (mVar 0)) (gNm 2) L_heads_k70_b0)
noncomputable def L_heads_k70_c1 : ML :=
 (mLc (mItA range1D (mCons (mN lenD (mCons (mVar 1) mNil)) mNil)) (gNm 3) (mB (m2 (inD not) (m2 ixD (mVar 1) (mVar 3)) (mSl (mVar 1) mPn (mPs (mVar 3))))) (m2 ixD (mVar 1) (mVar 3)) [3])
noncomputable def L_heads_k70_c2 : ML :=
 (mLc (mItA range1D (mCons (mN lenD (mCons (mVar 1) mNil)) mNil)) (gNm 3) mYes (mTup (mCons (mCall L_mark_k70 (mAv (m2 ixD (mVar 1) (mVar 3)) mANil)) (mCons (mVar 3) mNil))) [3])
noncomputable def L_heads_k70_c3 : ML :=
 (mLc (mIt (mVar 4)) (gTp [(gNm 5), (gNm 3)]) mYes (m2 ixD (mVar 1) (mVar 3)) [5, 3])
noncomputable def L_heads_k70 : Mir := mFn 1 5
 ((mSeq (mSet 1 (mLst (mDsp (mCons (mTup mNil) mNil))))
 (mSeq L_heads_k70_l0
 (mSeq (mSet 1 (mLst L_heads_k70_c1))
 (mSeq (mSet 4 (mN sortD (mCons (mLst L_heads_k70_c2) mNil)))
 (mRet (mLst L_heads_k70_c3)))))))
noncomputable def L_key : Mir := mFn 3 3
 ((mSeq (mAsg (gTp [(gNm 3), (gNm 4)]) (mCall L_pick (mAr 0 (mAb 1 (mAv (mVar 2) mANil)))))
 (mSeq (mSet 5 (mCall L_draw (mAr 0 (mAb 1 (mAv (mC (.int 3)) mANil)))))
 (mSeq (mIfS (mB (m2 gtD (mVar 5) (mC (.int 0)))) (mRet (mVar 3)) mNx)
 (mSeq (mIfS (mB (m2 eqD (mVar 4) (mC (.str "number")))) (mRet (mTup (mCons (mC (.str "band")) (mCons (mVar 3) (mCons (mCall L_pick (mAr 0 (mAb 1 (mAv (mLst (mDsp (mCons (mC (.int 1)) (mCons (mC (.int 2)) (mCons (mC (.int 3)) (mCons (mC (.int 10)) (mCons (mC (.int 1000000)) mNil))))))) mANil)))) mNil))))) mNx)
 (mRet (mTup (mCons (mC (.str "first")) (mCons (mVar 3) (mCons (mCall L_pick (mAr 0 (mAb 1 (mAv (mLst (mDsp (mCons (mC (.int 1)) (mCons (mC (.int 1)) (mCons (mC (.int 2)) (mCons (mC (.int 8)) mNil)))))) mANil)))) mNil))))))))))
noncomputable def L_table : Mir := mFn 3 3
 ((mSeq (mSet 3 (mCall L_columns (mAr 0 (mAb 1 mANil))))
 (mSeq (mSet 4 (mLst (mLc (mItA range1D (mCons (mCall L_draw (mAr 0 (mAb 1 (mAv (m2 addD (mVar 2) (mC (.int 1))) mANil)))) mNil)) (gNm 5) mYes (mCall L_row (mAr 0 (mAb 1 (mAv (mVar 3) mANil)))) [5])))
 (mRet (mTup (mCons (mVar 3) (mCons (mVar 4) mNil)))))))
noncomputable def L_sift : Mir := mFn 3 3
 ((mSeq (mAsg (gTp [(gNm 3), (gNm 4)]) (mCall L_pick (mAr 0 (mAb 1 (mAv (mVar 2) mANil)))))
 (mSeq (mIfS (mAnd (mB (m2 eqD (mVar 4) (mC (.str "number")))) (mB (m2 eqD (mCall L_draw (mAr 0 (mAb 1 (mAv (mC (.int 2)) mANil)))) (mC (.int 0))))) (mSeq (mSet 5 (mCall L_pick (mAr 0 (mAb 1 (mAv (mLst (mDsp (mCons (m2 subD (mC (.int 0)) (mC (.int 1000000))) (mCons (m2 subD (mC (.int 0)) (mC (.int 5))) (mCons (mC (.int 0)) mNil))))) mANil)))))
 (mRet (mTup (mCons (mC (.str "from")) (mCons (mVar 3) (mCons (mVar 5) (mCons (mCall L_pick (mAr 0 (mAb 1 (mAv (mLst (mDsp (mCons (mC (.int 1)) (mCons (mC (.int 50)) (mCons (mC (.int 1000000)) (mCons (m2 subD (mC (.int 0)) (mC (.int 9))) mNil)))))) mANil)))) mNil))))))) mNx)
 (mRet (mTup (mCons (mCall L_pick (mAr 0 (mAb 1 (mAv (mLst (mDsp (mCons (mC (.str "is")) (mCons (mC (.str "not")) (mCons (mC (.str "not")) mNil))))) mANil)))) (mCons (mVar 3) (mCons (mCall L_value (mAr 0 (mAb 1 (mAv (mVar 4) mANil)))) mNil))))))))
noncomputable def L_sum : Mir := mFn 3 5
 ((mSeq (mSet 3 (mCall L_draw (mAr 0 (mAb 1 (mAv (mC (.int 10)) mANil)))))
 (mSeq (mSet 4 (mLst (mLc (mIt (mVar 2)) (gTp [(gNm 5), (gNm 6)]) (mB (m2 eqD (mVar 6) (mC (.str "number")))) (mVar 5) [5, 6])))
 (mSeq (mIfS (mB (m2 eqD (mVar 3) (mC (.int 0)))) (mRet (mTup (mCons (mC (.str "count")) mNil))) mNx)
 (mSeq (mIfS (mB (m2 ltD (mVar 3) (mC (.int 3)))) (mRet (mTup (mCons (mCall L_pick (mAr 0 (mAb 1 (mAv (mLst (mDsp (mCons (mC (.str "unlike")) (mCons (mC (.str "filled")) mNil)))) mANil)))) (mCons (m2 ixD (mCall L_pick (mAr 0 (mAb 1 (mAv (mVar 2) mANil)))) (mC (.int 0))) mNil)))) mNx)
 (mSeq (mSet 7 (mLst (mDsp (mCons (mC (.str "sum")) (mCons (mC (.str "least")) (mCons (mC (.str "greatest")) (mCons (mC (.str "mean")) (mCons (mC (.str "of all")) (mCons (mC (.str "of row")) (mCons (mC (.str "of column")) mNil))))))))))
 (mRet (mTup (mCons (m2 ixD (mVar 7) (m2 subD (mVar 3) (mC (.int 3)))) (mCons (mCall L_pick (mAr 0 (mAb 1 (mAv (mVar 4) mANil)))) mNil))))))))))
noncomputable def L_plan : Mir := mFn 4 6
 ((mSeq (mSet 4 (mLst (mLc (mItA range1D (mCons (m2 mulD (mC (.int 2)) (mVar 3)) mNil)) (gNm 5) mYes (mCall L_key (mAr 0 (mAb 1 (mAv (mVar 2) mANil)))) [5])))
 (mSeq (mSet 6 (mN tupD (mCons (mSl (mVar 4) mPn (mPs (mCall L_draw (mAr 0 (mAb 1 (mAv (m2 addD (mVar 3) (mC (.int 1))) mANil)))))) mNil)))
 (mSeq (mSet 7 (mN tupD (mCons (mLst (mLc (mItA range1D (mCons (m2 addD (mC (.int 1)) (mCall L_draw (mAr 0 (mAb 1 (mAv (mC (.int 4)) mANil))))) mNil)) (gNm 5) mYes (mCall L_sum (mAr 0 (mAb 1 (mAv (mVar 2) mANil)))) [5])) mNil)))
 (mSeq (mSet 8 (mCall L_pick (mAr 0 (mAb 1 (mAv (mLst (mDsp (mCons (mC (.int 0)) (mCons (mC (.int 0)) (mCons (mC (.int 1)) (mCons (mC (.int 2)) (mCons (mC (.int 3)) mNil))))))) mANil)))))
 (mSeq (mSet 9 (mN tupD (mCons (mLst (mLc (mItA range1D (mCons (mVar 8) mNil)) (gNm 5) mYes (mCall L_sift (mAr 0 (mAb 1 (mAv (mVar 2) mANil)))) [5])) mNil)))
 (mRet (mTup (mCons (mVar 6) (mCons (mN tupD (mCons (mSl (mVar 4) (mPs (mVar 3)) (mPs (m2 addD (mVar 3) (mCall L_draw (mAr 0 (mAb 1 (mAv (m2 addD (mVar 3) (mC (.int 1))) mANil))))))) mNil)) (mCons (mVar 7) (mCons (mVar 9) mNil))))))))))))
noncomputable def M_is_whole : Mir := mFn 3 0
 ((mRet (mAndV (m1 (isiD "int") (mVar 0)) (mAndV (mNotV (m1 (isiD "bool") (mVar 0))) (mChain leD leD (mVar 1) (mVar 0) (mVar 2))))))
noncomputable def M_is_word : Mir := mFn 1 1
 ((mRet (mAndV (m1 (isiD "str") (mVar 0)) (mAndV (mChain leD leD (mC (.int 1)) (mN lenD (mCons (mVar 0) mNil)) (mC (.int 8))) (mN allD (mCons (mLst (mLc (mItS (mVar 0)) (gNm 1) mYes (m2 (inD id) (mVar 1) (mC (.str "abcdefghijklmnopqrstuvwxyz"))) [1])) mNil))))))
noncomputable def M_place_of : Mir := mFn 2 2
 ((mSeq (mSet 2 (mLst (mLc (mItA range1D (mCons (mN lenD (mCons (mVar 0) mNil)) mNil)) (gNm 3) (mB (m2 eqD (m2 ixD (m2 ixD (mVar 0) (mVar 3)) (mC (.int 0))) (mVar 1))) (mVar 3) [3])))
 (mRet (mIf (mTru (mVar 2)) (m2 ixD (mVar 2) (mC (.int 0))) (mC .none)))))
noncomputable def M_kind_of : Mir := mFn 2 1
 ((mSeq (mSet 2 (mIf (mTru (mCall M_is_word (mAv (mVar 1) mANil))) (mCall M_place_of (mAv (mVar 0) (mAv (mVar 1) mANil))) (mC .none)))
 (mRet (mIf (mB (m2 isD (mVar 2) (mC .none))) (mC .none) (m2 ixD (m2 ixD (mVar 0) (mVar 2)) (mC (.int 1)))))))
noncomputable def M_is_key : Mir := mFn 2 0
 ((mSeq (mIfS (mTru (m1 (isiD "str") (mVar 1))) (mRet (m2 isntD (mCall M_kind_of (mAv (mVar 0) (mAv (mVar 1) mANil))) (mC .none))) mNx)
 (mSeq (mIfS (mOr (mNot (mTru (m1 (isiD "tuple") (mVar 1)))) (mOr (mB (m2 neD (mN lenD (mCons (mVar 1) mNil)) (mC (.int 3)))) (mNot (mTru (m1 (isiD "str") (m2 ixD (mVar 1) (mC (.int 0)))))))) (mRet (mC (.bool false))) mNx)
 (mSeq (mIfS (mB (m2 eqD (m2 ixD (mVar 1) (mC (.int 0))) (mC (.str "band")))) (mRet (mAndV (m2 eqD (mCall M_kind_of (mAv (mVar 0) (mAv (m2 ixD (mVar 1) (mC (.int 1))) mANil))) (mC (.str "number"))) (mCall M_is_whole (mAv (m2 ixD (mVar 1) (mC (.int 2))) (mAv (mC (.int 1)) (mAv (mC (.int 1000000)) mANil)))))) mNx)
 (mRet (mAndV (m2 eqD (m2 ixD (mVar 1) (mC (.int 0))) (mC (.str "first"))) (mAndV (m2 eqD (mCall M_kind_of (mAv (mVar 0) (mAv (m2 ixD (mVar 1) (mC (.int 1))) mANil))) (mC (.str "word"))) (mCall M_is_whole (mAv (m2 ixD (mVar 1) (mC (.int 2))) (mAv (mC (.int 1)) (mAv (mC (.int 8)) mANil)))))))))))
noncomputable def M_is_value : Mir := mFn 2 0
 ((mSeq (mIfS (mB (m2 isD (mVar 1) (mC .none))) (mRet (mC (.bool true))) mNx)
 (mRet (mIf (mB (m2 eqD (mVar 0) (mC (.str "word")))) (mCall M_is_word (mAv (mVar 1) mANil)) (mCall M_is_whole (mAv (mVar 1) (mAv (m2 subD (mC (.int 0)) (mC (.int 1000000))) (mAv (mC (.int 1000000)) mANil))))))))
noncomputable def M_is_sift : Mir := mFn 2 2
 ((mSeq (mIfS (mOr (mNot (mTru (m1 (isiD "tuple") (mVar 1)))) (mOr (mB (m2 eqD (mN lenD (mCons (mVar 1) mNil)) (mC (.int 0)))) (mNot (mTru (m1 (isiD "str") (m2 ixD (mVar 1) (mC (.int 0)))))))) (mRet (mC (.bool false))) mNx)
 (mSeq (mIfS (mB (m2 (inD id) (m2 ixD (mVar 1) (mC (.int 0))) (mTup (mCons (mC (.str "is")) (mCons (mC (.str "not")) mNil))))) (mSeq (mSet 2 (mIf (mB (m2 eqD (mN lenD (mCons (mVar 1) mNil)) (mC (.int 3)))) (mCall M_kind_of (mAv (mVar 0) (mAv (m2 ixD (mVar 1) (mC (.int 1))) mANil))) (mC .none)))
 (mRet (mAndV (m2 isntD (mVar 2) (mC .none)) (mCall M_is_value (mAv (mVar 2) (mAv (m2 ixD (mVar 1) (mC (.int 2))) mANil)))))) mNx)
 (mSeq (mIfS (mOr (mB (m2 neD (m2 ixD (mVar 1) (mC (.int 0))) (mC (.str "from")))) (mOr (mB (m2 neD (mN lenD (mCons (mVar 1) mNil)) (mC (.int 4)))) (mB (m2 neD (mCall M_kind_of (mAv (mVar 0) (mAv (m2 ixD (mVar 1) (mC (.int 1))) mANil))) (mC (.str "number")))))) (mRet (mC (.bool false))) mNx)
 (mRet (mN allD (mCons (mLst (mLc (mIt (mSl (mVar 1) (mPs (mC (.int 2))) mPn)) (gNm 3) mYes (mCall M_is_whole (mAv (mVar 3) (mAv (m2 subD (mC (.int 0)) (mC (.int 1000000))) (mAv (mC (.int 1000000)) mANil)))) [3])) mNil)))))))
noncomputable def M_is_sum : Mir := mFn 2 0
 ((mSeq (mIfS (mOr (mNot (mTru (m1 (isiD "tuple") (mVar 1)))) (mOr (mB (m2 eqD (mN lenD (mCons (mVar 1) mNil)) (mC (.int 0)))) (mNot (mTru (m1 (isiD "str") (m2 ixD (mVar 1) (mC (.int 0)))))))) (mRet (mC (.bool false))) mNx)
 (mSeq (mIfS (mB (m2 eqD (m2 ixD (mVar 1) (mC (.int 0))) (mC (.str "count")))) (mRet (m2 eqD (mN lenD (mCons (mVar 1) mNil)) (mC (.int 1)))) mNx)
 (mSeq (mIfS (mB (m2 neD (mN lenD (mCons (mVar 1) mNil)) (mC (.int 2)))) (mRet (mC (.bool false))) mNx)
 (mSeq (mIfS (mOr (mB (m2 (inD id) (m2 ixD (mVar 1) (mC (.int 0))) (mC (.tuple [(.str "sum"), (.str "least"), (.str "greatest"), (.str "mean")])))) (mB (m2 (inD id) (m2 ixD (mVar 1) (mC (.int 0))) (mC (.tuple [(.str "of all"), (.str "of row"), (.str "of column")]))))) (mRet (m2 eqD (mCall M_kind_of (mAv (mVar 0) (mAv (m2 ixD (mVar 1) (mC (.int 1))) mANil))) (mC (.str "number")))) mNx)
 (mRet (mAndV (m2 (inD id) (m2 ixD (mVar 1) (mC (.int 0))) (mTup (mCons (mC (.str "unlike")) (mCons (mC (.str "filled")) mNil)))) (m2 isntD (mCall M_kind_of (mAv (mVar 0) (mAv (m2 ixD (mVar 1) (mC (.int 1))) mANil))) (mC .none)))))))))
noncomputable def M_are_all : Mir := mFn 4 1
 ((mRet (mAndV (m1 (isiD "tuple") (mVar 0)) (mAndV (m2 leD (mN lenD (mCons (mVar 0) mNil)) (mVar 1)) (mN allD (mCons (mLst (mLc (mIt (mVar 0)) (gNm 4) mYes (mCallL 2 [(0, M_is_key), (1, M_is_sum), (2, M_is_sift)] (mAv (mVar 3) (mAv (mVar 4) mANil))) [4])) mNil))))))
noncomputable def M_are_columns : Mir := mFn 1 1
 ((mSeq (mIfS (mOr (mNot (mTru (m1 (isiD "tuple") (mVar 0)))) (mNot (mB (mChain leD leD (mC (.int 1)) (mN lenD (mCons (mVar 0) mNil)) (mC (.int 6)))))) (mRet (mC (.bool false))) mNx)
 (mSeq (mIfS (mNot (mTru (mN allD (mCons (mLst (mLc (mIt (mVar 0)) (gNm 1) mYes (mAndV (m1 (isiD "tuple") (mVar 1)) (mAndV (m2 eqD (mN lenD (mCons (mVar 1) mNil)) (mC (.int 2))) (mCall M_is_word (mAv (m2 ixD (mVar 1) (mC (.int 0))) mANil)))) [1])) mNil)))) (mRet (mC (.bool false))) mNx)
 (mSeq (mIfS (mNot (mTru (mN allD (mCons (mLst (mLc (mIt (mVar 0)) (gNm 1) mYes (mAndV (m1 (isiD "str") (m2 ixD (mVar 1) (mC (.int 1)))) (m2 (inD id) (m2 ixD (mVar 1) (mC (.int 1))) (mC (.tuple [(.str "word"), (.str "number")])))) [1])) mNil)))) (mRet (mC (.bool false))) mNx)
 (mRet (m2 eqD (m1 lenSetD (mLst (mLc (mIt (mVar 0)) (gNm 1) mYes (m2 ixD (mVar 1) (mC (.int 0))) [1]))) (mN lenD (mCons (mVar 0) mNil))))))))
noncomputable def M_look_columns : Mir := mFn 1 0
 ((mIfS (mNot (mTru (mCall M_are_columns (mAv (mVar 0) mANil)))) (mRaise 0) mNx))
noncomputable def M_look_plan : Mir := mFn 2 0
 ((mSeq (mDrop (mCall M_look_columns (mAv (mVar 0) mANil)))
 (mSeq (mIfS (mOr (mNot (mTru (m1 (isiD "tuple") (mVar 1)))) (mB (m2 neD (mN lenD (mCons (mVar 1) mNil)) (mC (.int 4))))) (mRaise 2) mNx)
 (mSeq (mIfS (mOr (mNot (mTru (mCall M_are_all (mAv (m2 ixD (mVar 1) (mC (.int 0))) (mAv (mC (.int 3)) (mAf 0 (mAv (mVar 0) mANil))))))) (mNot (mTru (mCall M_are_all (mAv (m2 ixD (mVar 1) (mC (.int 1))) (mAv (mC (.int 3)) (mAf 0 (mAv (mVar 0) mANil)))))))) (mRaise 2) mNx)
 (mSeq (mIfS (mOr (mNot (mTru (mCall M_are_all (mAv (m2 ixD (mVar 1) (mC (.int 2))) (mAv (mC (.int 4)) (mAf 1 (mAv (mVar 0) mANil))))))) (mB (m2 eqD (mN lenD (mCons (m2 ixD (mVar 1) (mC (.int 2))) mNil)) (mC (.int 0))))) (mRaise 2) mNx)
 (mIfS (mNot (mTru (mCall M_are_all (mAv (m2 ixD (mVar 1) (mC (.int 3))) (mAv (mC (.int 3)) (mAf 2 (mAv (mVar 0) mANil))))))) (mRaise 2) mNx))))))
noncomputable def M_look_row : Mir := mFn 2 1
 ((mSeq (mIfS (mOr (mNot (mTru (m1 (isiD "tuple") (mVar 1)))) (mB (m2 neD (mN lenD (mCons (mVar 1) mNil)) (mN lenD (mCons (mVar 0) mNil))))) (mRaise 1) mNx)
 (mIfS (mNot (mTru (mN allD (mCons (mLst (mLc (mItA range1D (mCons (mN lenD (mCons (mVar 1) mNil)) mNil)) (gNm 2) mYes (mCall M_is_value (mAv (m2 ixD (m2 ixD (mVar 0) (mVar 2)) (mC (.int 1))) (mAv (m2 ixD (mVar 1) (mVar 2)) mANil))) [2])) mNil)))) (mRaise 1) mNx)))
noncomputable def M_look_table : Mir := mFn 1 1
 ((mSeq (mIfS (mOr (mNot (mTru (m1 (isiD "tuple") (mVar 0)))) (mB (m2 neD (mN lenD (mCons (mVar 0) mNil)) (mC (.int 2))))) (mRaise 0) mNx)
 (mSeq (mDrop (mCall M_look_columns (mAv (m2 ixD (mVar 0) (mC (.int 0))) mANil)))
 (mSeq (mIfS (mOr (mNot (mTru (m1 (isiD "list") (m2 ixD (mVar 0) (mC (.int 1)))))) (mB (m2 gtD (mN lenD (mCons (m2 ixD (mVar 0) (mC (.int 1))) mNil)) (mC (.int 24))))) (mRaise 0) mNx)
 (mFor (mIt (m2 ixD (mVar 0) (mC (.int 1)))) (gNm 1) (mDrop (mCall M_look_row (mAv (m2 ixD (mVar 0) (mC (.int 0))) (mAv (mVar 1) mANil)))))))))
noncomputable def M_look_all : Mir := mFn 2 0
 ((mSeq (mDrop (mCall M_look_table (mAv (mVar 0) mANil)))
 (mDrop (mCall M_look_plan (mAv (m2 ixD (mVar 0) (mC (.int 0))) (mAv (mVar 1) mANil))))))
noncomputable def M_counts : Mir := mFn 3 2
 ((mSeq (mFor (mIt (mVar 1)) (gNm 3) (mSeq (mSet 4 (m2 ixD (mVar 2) (mCall M_place_of (mAv (mVar 0) (mAv (m2 ixD (mVar 3) (mC (.int 1))) mANil)))))
 (mIfS (mB (m2 eqD (m2 ixD (mVar 3) (mC (.int 0))) (mC (.str "from")))) (mIfS (mOr (mB (m2 isD (mVar 4) (mC .none))) (mNot (mB (mChain leD leD (m2 ixD (mVar 3) (mC (.int 2))) (mVar 4) (m2 ixD (mVar 3) (mC (.int 3))))))) (mRet (mC (.bool false))) mNx) (mIfS (mB (m2 neD (m2 eqD (mVar 4) (m2 ixD (mVar 3) (mC (.int 2)))) (m2 eqD (m2 ixD (mVar 3) (mC (.int 0))) (mC (.str "is"))))) (mRet (mC (.bool false))) mNx))))
 (mRet (mC (.bool true)))))
noncomputable def M_key_in : Mir := mFn 3 1
 ((mSeq (mIfS (mTru (m1 (isiD "str") (mVar 1))) (mRet (m2 ixD (mVar 2) (mCall M_place_of (mAv (mVar 0) (mAv (mVar 1) mANil))))) mNx)
 (mSeq (mSet 3 (m2 ixD (mVar 2) (mCall M_place_of (mAv (mVar 0) (mAv (m2 ixD (mVar 1) (mC (.int 1))) mANil)))))
 (mSeq (mIfS (mB (m2 isD (mVar 3) (mC .none))) (mRet (mC .none)) mNx)
 (mRet (mIf (mB (m2 eqD (m2 ixD (mVar 1) (mC (.int 0))) (mC (.str "band")))) (m2 mulD (m2 divD (mVar 3) (m2 ixD (mVar 1) (mC (.int 2)))) (m2 ixD (mVar 1) (mC (.int 2)))) (mSl (mVar 3) mPn (mPs (m2 ixD (mVar 1) (mC (.int 2)))))))))))
noncomputable def M_path_in : Mir := mFn 3 1
 ((mRet (mN tupD (mCons (mLst (mLc (mIt (mVar 1)) (gNm 3) mYes (mCall M_key_in (mAv (mVar 0) (mAv (mVar 3) (mAv (mVar 2) mANil)))) [3])) mNil))))
noncomputable def M_counted : Mir := mFn 2 4
 ((mSeq (mAsg (gTp [(gNm 2), (gNm 3)]) (mVar 0))
 (mSeq (mSetO 4 (mDsp mNil))
 (mSeq (mFor (mItA range1D (mCons (mN lenD (mCons (mVar 3) mNil)) mNil)) (gNm 5) (mIfS (mTru (mCall M_counts (mAv (mVar 2) (mAv (m2 ixD (mVar 1) (mC (.int 3))) (mAv (m2 ixD (mVar 3) (mVar 5)) mANil))))) (mMut 4 appendD (mTup (mCons (mVar 5) (mCons (mCall M_path_in (mAv (mVar 2) (mAv (m2 ixD (mVar 1) (mC (.int 0))) (mAv (m2 ixD (mVar 3) (mVar 5)) mANil)))) (mCons (mCall M_path_in (mAv (mVar 2) (mAv (m2 ixD (mVar 1) (mC (.int 1))) (mAv (m2 ixD (mVar 3) (mVar 5)) mANil)))) mNil))))) mNx))
 (mRet (mRd 4))))))
noncomputable def M_rank : Mir := mFn 1 0
 ((mSeq (mIfS (mB (m2 isD (mVar 0) (mC .none))) (mRet (mTup (mCons (mC (.int 0)) (mCons (mC (.int 0)) (mCons (mC (.str "")) mNil))))) mNx)
 (mRet (mIf (mTru (m1 (isiD "int") (mVar 0))) (mTup (mCons (mC (.int 1)) (mCons (mVar 0) (mCons (mC (.str "")) mNil)))) (mTup (mCons (mC (.int 1)) (mCons (mC (.int 0)) (mCons (mVar 0) mNil))))))))
noncomputable def M_ranked : Mir := mFn 1 1
 ((mRet (mLst (mLc (mIt (mVar 0)) (gNm 1) mYes (mCall M_rank (mAv (mVar 1) mANil)) [1]))))
noncomputable def M_with_heads : Mir := mFn 2 5
 ((mSeq (mDict 2 0 (dSeq (dPut 2 (mTup mNil)) (dFor 2 (mIt (mVar 0)) (gNm 3) (dFor 2 (mItA range1D (mCons (m2 addD (mVar 1) (mC (.int 1))) mNil)) (gNm 4) (dPut 2 (mSl (mVar 3) mPn (mPs (mVar 4))))))))
 (mSeq (mSet 5 (mN sortD (mCons (mLst (mLc (mItA range1D (mCons (mN lenD (mCons (mVar 0) mNil)) mNil)) (gNm 4) mYes (mTup (mCons (mCall M_ranked (mAv (m2 ixD (mVar 0) (mVar 4)) mANil)) (mCons (mVar 4) mNil))) [4])) mNil)))
 (mRet (mLst (mLc (mIt (mVar 5)) (gTp [(gNm 6), (gNm 4)]) mYes (m2 ixD (mVar 0) (mVar 4)) [6, 4]))))))
noncomputable def M_sides : Mir := mFn 2 3
 ((mSeq (mSet 2 (mCall M_counted (mAv (mVar 0) (mAv (mVar 1) mANil))))
 (mSeq (mSet 3 (mCall M_with_heads (mAv (mLst (mLc (mIt (mVar 2)) (gNm 4) mYes (m2 ixD (mVar 4) (mC (.int 1))) [4])) (mAv (mN lenD (mCons (m2 ixD (mVar 1) (mC (.int 0))) mNil)) mANil))))
 (mRet (mTup (mCons (mVar 3) (mCons (mCall M_with_heads (mAv (mLst (mLc (mIt (mVar 2)) (gNm 4) mYes (m2 ixD (mVar 4) (mC (.int 2))) [4])) (mAv (mN lenD (mCons (m2 ixD (mVar 1) (mC (.int 1))) mNil)) mANil))) mNil)))))))
noncomputable def M_heads : Mir := mFn 2 0
 ((mSeq (mDrop (mCall M_look_all (mAv (mVar 0) (mAv (mVar 1) mANil))))
 (mRet (mCall M_sides (mAv (mVar 0) (mAv (mVar 1) mANil))))))
noncomputable def M_look_place : Mir := mFn 4 2
 ((mSeq (mAsg (gTp [(gNm 4), (gNm 5)]) (mCall M_sides (mAv (mVar 0) (mAv (mVar 1) mANil))))
 (mIfS (mOr (mB (m2 (inD not) (mVar 2) (mVar 4))) (mB (m2 (inD not) (mVar 3) (mVar 5)))) (mRaise 3) mNx)))
noncomputable def M_begins : Mir := mFn 2 0
 ((mRet (m2 eqD (mSl (mVar 0) mPn (mPs (mN lenD (mCons (mVar 1) mNil)))) (mVar 1))))
noncomputable def M_members : Mir := mFn 3 1
 ((mRet (mLst (mLc (mIt (mVar 0)) (gNm 3) (mAnd (mTru (mCall M_begins (mAv (m2 ixD (mVar 3) (mC (.int 1))) (mAv (mVar 1) mANil)))) (mTru (mCall M_begins (mAv (m2 ixD (mVar 3) (mC (.int 2))) (mAv (mVar 2) mANil))))) (m2 ixD (mVar 3) (mC (.int 0))) [3]))))
noncomputable def M_opened : Mir := mFn 4 0
 ((mSeq (mDrop (mCall M_look_all (mAv (mVar 0) (mAv (mVar 1) mANil))))
 (mSeq (mDrop (mCall M_look_place (mAv (mVar 0) (mAv (mVar 1) (mAv (mVar 2) (mAv (mVar 3) mANil))))))
 (mRet (mCall M_members (mAv (mCall M_counted (mAv (mVar 0) (mAv (mVar 1) mANil))) (mAv (mVar 2) (mAv (mVar 3) mANil))))))))
noncomputable def M_divisor : Mir := mFn 2 0
 ((mSeq (mWhile (mTru (mVar 1)) (mSet2 0 1 (mVar 1) (m2 modD (mVar 0) (mVar 1))))
 (mRet (mN absD (mCons (mVar 0) mNil)))))
noncomputable def M_least : Mir := mFn 2 1
 ((mSeq (mIfS (mB (m2 eqD (mVar 1) (mC (.int 0)))) (mRet (mC .none)) mNx)
 (mSeq (mIfS (mB (m2 ltD (mVar 1) (mC (.int 0)))) (mSet2 0 1 (m2 subD (mC (.int 0)) (mVar 0)) (m2 subD (mC (.int 0)) (mVar 1))) mNx)
 (mSeq (mSet 2 (mCall M_divisor (mAv (mVar 0) (mAv (mVar 1) mANil))))
 (mRet (mTup (mCons (m2 divD (mVar 0) (mVar 2)) (mCons (m2 divD (mVar 1) (mVar 2)) mNil))))))))
noncomputable def M_values_of : Mir := mFn 3 4
 ((mSeq (mSet 3 (mCall M_place_of (mAv (m2 ixD (mVar 0) (mC (.int 0))) (mAv (mVar 1) mANil))))
 (mSeq (mSet 4 (mLst (mLc (mIt (mVar 2)) (gNm 5) mYes (m2 ixD (m2 ixD (m2 ixD (mVar 0) (mC (.int 1))) (mVar 5)) (mVar 3)) [5])))
 (mRet (mLst (mLc (mIt (mVar 4)) (gNm 6) (mB (m2 isntD (mVar 6) (mC .none))) (mVar 6) [6]))))))
noncomputable def M_one_sum : Mir := mFn 5 3
 ((mSeq (mSet 5 (mCall M_members (mAv (mVar 1) (mAv (mVar 3) (mAv (mVar 4) mANil)))))
 (mSeq (mIfS (mB (m2 eqD (m2 ixD (mVar 2) (mC (.int 0))) (mC (.str "count")))) (mRet (mN lenD (mCons (mVar 5) mNil))) mNx)
 (mSeq (mSet 6 (mCall M_values_of (mAv (mVar 0) (mAv (m2 ixD (mVar 2) (mC (.int 1))) (mAv (mVar 5) mANil)))))
 (mSeq (mIfS (mB (m2 eqD (m2 ixD (mVar 2) (mC (.int 0))) (mC (.str "filled")))) (mRet (mN lenD (mCons (mVar 6) mNil))) mNx)
 (mSeq (mIfS (mB (m2 eqD (m2 ixD (mVar 2) (mC (.int 0))) (mC (.str "unlike")))) (mRet (m1 lenSetD (mVar 6))) mNx)
 (mSeq (mIfS (mB (m2 eqD (m2 ixD (mVar 2) (mC (.int 0))) (mC (.str "sum")))) (mRet (mN sumD (mCons (mVar 6) mNil))) mNx)
 (mSeq (mIfS (mB (m2 eqD (m2 ixD (mVar 2) (mC (.int 0))) (mC (.str "mean")))) (mRet (mCall M_least (mAv (mN sumD (mCons (mVar 6) mNil)) (mAv (mN lenD (mCons (mVar 6) mNil)) mANil)))) mNx)
 (mSeq (mIfS (mB (m2 (inD id) (m2 ixD (mVar 2) (mC (.int 0))) (mTup (mCons (mC (.str "least")) (mCons (mC (.str "greatest")) mNil))))) (mRet (mIf (mNot (mTru (mVar 6))) (mC .none) (mIf (mB (m2 eqD (m2 ixD (mVar 2) (mC (.int 0))) (mC (.str "least")))) (mN minD (mCons (mVar 6) mNil)) (mN maxD (mCons (mVar 6) mNil))))) mNx)
 (mSeq (mSet 7 (mPick3 "of all" "of row" "of column" (mTup (mCons (mTup mNil) (mCons (mTup mNil) mNil))) (mTup (mCons (mVar 3) (mCons (mTup mNil) mNil))) (mTup (mCons (mTup mNil) (mCons (mVar 4) mNil))) (m2 ixD (mVar 2) (mC (.int 0)))))
 (mRet (mCall M_least (mAv (mN sumD (mCons (mVar 6) mNil)) (mAv (mN sumD (mCons (mCall M_values_of (mAv (mVar 0) (mAv (m2 ixD (mVar 2) (mC (.int 1))) (mAv (mCall M_members (mAv (mVar 1) (mAv (m2 ixD (mVar 7) (mC (.int 0))) (mAv (m2 ixD (mVar 7) (mC (.int 1))) mANil)))) mANil)))) mNil)) mANil))))))))))))))
noncomputable def M_cell_of : Mir := mFn 5 1
 ((mRet (mN tupD (mCons (mLst (mLc (mIt (m2 ixD (mVar 1) (mC (.int 2)))) (gNm 5) mYes (mCall M_one_sum (mAv (mVar 0) (mAv (mVar 2) (mAv (mVar 5) (mAv (mVar 3) (mAv (mVar 4) mANil)))))) [5])) mNil))))
noncomputable def M_sheet_of_c0 : ML :=
 (mLc (mIt (mVar 3)) (gNm 7) mYes (mCall M_cell_of (mAv (mVar 0) (mAv (mVar 1) (mAv (mVar 4) (mAv (mVar 6) (mAv (mVar 7) mANil)))))) [7])
noncomputable def M_sheet_of_c1 : ML :=
 (mLc (mIt (mVar 2)) (gNm 6) mYes (mLst M_sheet_of_c0) [6])
noncomputable def M_sheet_of : Mir := mFn 2 6
 ((mSeq (mAsg (gTp [(gNm 2), (gNm 3)]) (mCall M_sides (mAv (mVar 0) (mAv (mVar 1) mANil))))
 (mSeq (mSet 4 (mCall M_counted (mAv (mVar 0) (mAv (mVar 1) mANil))))
 (mSeq (mSet 5 (mLst M_sheet_of_c1))
 (mRet (mTup (mCons (mVar 2) (mCons (mVar 3) (mCons (mVar 5) mNil)))))))))
noncomputable def M_sheet : Mir := mFn 2 0
 ((mSeq (mDrop (mCall M_look_all (mAv (mVar 0) (mAv (mVar 1) mANil))))
 (mRet (mCall M_sheet_of (mAv (mVar 0) (mAv (mVar 1) mANil))))))
noncomputable def M_strained_c0 : ML :=
 (mLc (mIt (m2 ixD (mVar 0) (mC (.int 1)))) (gNm 2) (mTru (mCall M_counts (mAv (m2 ixD (mVar 0) (mC (.int 0))) (mAv (mVar 1) (mAv (mVar 2) mANil))))) (mVar 2) [2])
noncomputable def M_strained : Mir := mFn 2 1
 ((mSeq (mDrop (mCall M_look_table (mAv (mVar 0) mANil)))
 (mSeq (mIfS (mNot (mTru (mCall M_are_all (mAv (mVar 1) (mAv (mC (.int 3)) (mAf 2 (mAv (m2 ixD (mVar 0) (mC (.int 0))) mANil))))))) (mRaise 2) mNx)
 (mRet (mTup (mCons (m2 ixD (mVar 0) (mC (.int 0))) (mCons (mLst M_strained_c0) mNil)))))))
noncomputable def L_least_k12 : Mir := mFn 2 3
 ((mSeq (mIfS (mB (m2 eqD (mVar 1) (mC (.int 0)))) (mRet (mC .none)) mNx)
 (mSeq (mSet2 2 3 (mN absD (mCons (mVar 0) mNil)) (mN absD (mCons (mVar 1) mNil)))
 (mSeq (mWhile (mB (m2 gtD (mVar 3) (mC (.int 0)))) (mSet2 2 3 (mVar 3) (m2 modD (mVar 2) (mVar 3))))
 (mSeq (mSet 4 (mIf (mB (m2 gtD (mVar 1) (mC (.int 0)))) (mVar 2) (m2 subD (mC (.int 0)) (mVar 2))))
 (mRet (mTup (mCons (m2 divD (mVar 0) (mVar 4)) (mCons (m2 divD (mVar 1) (mVar 4)) mNil)))))))))
noncomputable def M_cell : Mir := mFn 4 0
 ((mSeq (mDrop (mCall M_look_all (mAv (mVar 0) (mAv (mVar 1) mANil))))
 (mSeq (mDrop (mCall M_look_place (mAv (mVar 0) (mAv (mVar 1) (mAv (mVar 2) (mAv (mVar 3) mANil))))))
 (mRet (mCall M_cell_of (mAv (mVar 0) (mAv (mVar 1) (mAv (mCall M_counted (mAv (mVar 0) (mAv (mVar 1) mANil))) (mAv (mVar 2) (mAv (mVar 3) mANil))))))))))
noncomputable def M_children_c0 : ML :=
 (mLc (mIt (mVar 0)) (gNm 2) (mAnd (mB (m2 eqD (mN lenD (mCons (mVar 2) mNil)) (m2 addD (mN lenD (mCons (mVar 1) mNil)) (mC (.int 1))))) (mTru (mCall M_begins (mAv (mVar 2) (mAv (mVar 1) mANil))))) (mVar 2) [2])
noncomputable def M_children : Mir := mFn 2 1
 ((mRet (mLst M_children_c0)))
noncomputable def M_look_sum : Mir := mFn 2 0
 ((mIfS (mNot (mTru (mCall M_is_whole (mAv (mVar 1) (mAv (mC (.int 0)) (mAv (m2 subD (mN lenD (mCons (m2 ixD (mVar 0) (mC (.int 2))) mNil)) (mC (.int 1))) mANil)))))) (mRaise 4) mNx))
noncomputable def M_more_than : Mir := mFn 2 0
 ((mSeq (mIfS (mOr (mB (m2 isD (mVar 0) (mC .none))) (mB (m2 isD (mVar 1) (mC .none)))) (mRet (mC .none)) mNx)
 (mSeq (mIfS (mTru (m1 (isiD "tuple") (mVar 1))) (mRet (mCall M_least (mAv (m2 subD (m2 mulD (m2 ixD (mVar 1) (mC (.int 0))) (m2 ixD (mVar 0) (mC (.int 1)))) (m2 mulD (m2 ixD (mVar 0) (mC (.int 0))) (m2 ixD (mVar 1) (mC (.int 1))))) (mAv (m2 mulD (m2 ixD (mVar 1) (mC (.int 1))) (m2 ixD (mVar 0) (mC (.int 1)))) mANil)))) mNx)
 (mRet (m2 subD (mVar 1) (mVar 0))))))
noncomputable def M_grown : Mir := mFn 4 7
 ((mSeq (mDrop (mCall M_look_all (mAv (mVar 0) (mAv (mVar 1) mANil))))
 (mSeq (mAsg (gTp [(gNm 4), (gNm 5)]) (mCall M_sides (mAv (mVar 0) (mAv (mVar 1) mANil))))
 (mSeq (mIfS (mB (m2 (inD not) (mVar 2) (mVar 4))) (mRaise 3) mNx)
 (mSeq (mDrop (mCall M_look_sum (mAv (mVar 1) (mAv (mVar 3) mANil))))
 (mSeq (mSet 6 (mCall M_counted (mAv (mVar 0) (mAv (mVar 1) mANil))))
 (mSeq (mSetO 7 (mDsp mNil))
 (mSeq (mSet 8 (mC .none))
 (mSeq (mFor (mIt (mVar 5)) (gNm 9) (mIfS (mB (m2 eqD (mN lenD (mCons (mVar 9) mNil)) (mN lenD (mCons (m2 ixD (mVar 1) (mC (.int 1))) mNil)))) (mSeq (mSet 10 (mCall M_one_sum (mAv (mVar 0) (mAv (mVar 6) (mAv (m2 ixD (m2 ixD (mVar 1) (mC (.int 2))) (mVar 3)) (mAv (mVar 2) (mAv (mVar 9) mANil)))))))
 (mSeq (mMut 7 appendD (mTup (mCons (mVar 9) (mCons (mCall M_more_than (mAv (mVar 8) (mAv (mVar 10) mANil))) mNil))))
 (mSet 8 (mVar 10)))) mNx))
 (mRet (mRd 7)))))))))))
noncomputable def M_is_kept_c0 : ML :=
 (mLc (mIt (m2 ixD (mVar 2) (mC (.int 2)))) (gNm 3) mYes (m2 (inD id) (mVar 3) (m2 ixD (mVar 1) (mC (.int 2)))) [3])
noncomputable def M_is_kept : Mir := mFn 3 1
 ((mSeq (mDrop (mCall M_look_plan (mAv (mVar 0) (mAv (mVar 1) mANil))))
 (mSeq (mDrop (mCall M_look_plan (mAv (mVar 0) (mAv (mVar 2) mANil))))
 (mSeq (mIfS (mOr (mB (m2 neD (m2 ixD (mVar 1) (mC (.int 3))) (m2 ixD (mVar 2) (mC (.int 3))))) (mOr (mB (m2 neD (m2 ixD (mVar 2) (mC (.int 0))) (mSl (m2 ixD (mVar 1) (mC (.int 0))) mPn (mPs (mN lenD (mCons (m2 ixD (mVar 2) (mC (.int 0))) mNil)))))) (mB (m2 neD (m2 ixD (mVar 2) (mC (.int 1))) (mSl (m2 ixD (mVar 1) (mC (.int 1))) mPn (mPs (mN lenD (mCons (m2 ixD (mVar 2) (mC (.int 1))) mNil)))))))) (mRet (mC (.bool false))) mNx)
 (mRet (mN allD (mCons (mLst M_is_kept_c0) mNil)))))))
noncomputable def M_fitted : Mir := mFn 2 0
 ((mSeq (mIfS (mOr (mB (m2 gtD (mN lenD (mCons (mVar 0) mNil)) (mC (.int 6)))) (mB (m2 gtD (mN lenD (mCons (mVar 1) mNil)) (mC (.int 24))))) (mRaise 0) mNx)
 (mRet (mTup (mCons (mVar 0) (mCons (mVar 1) mNil))))))
noncomputable def M_joined_c0 : ML :=
 (mLc (mItA range1D (mCons (mN lenD (mCons (m2 ixD (mVar 1) (mC (.int 0))) mNil)) mNil)) (gNm 7) (mB (m2 neD (mVar 7) (mVar 5))) (mVar 7) [7])
noncomputable def M_joined_c1 : ML :=
 (mLc (mIt (mVar 6)) (gNm 7) mYes (m2 isntD (mCall M_place_of (mAv (m2 ixD (mVar 0) (mC (.int 0))) (mAv (m2 ixD (m2 ixD (m2 ixD (mVar 1) (mC (.int 0))) (mVar 7)) (mC (.int 0))) mANil))) (mC .none)) [7])
noncomputable def M_joined_c2 : ML :=
 (mLc (mIt (m2 ixD (mVar 1) (mC (.int 1)))) (gNm 11) (mAnd (mB (m2 eqD (m2 ixD (mVar 11) (mVar 5)) (m2 ixD (mVar 9) (mVar 4)))) (mB (m2 isntD (m2 ixD (mVar 9) (mVar 4)) (mC .none)))) (mVar 11) [11])
noncomputable def M_joined_c3 : ML :=
 (mLc (mIt (mVar 6)) (gNm 7) mYes (m2 ixD (mVar 11) (mVar 7)) [7])
noncomputable def M_joined_c4 : ML :=
 (mLc (mIt (mVar 10)) (gNm 11) mYes (m2 addD (mVar 9) (mN tupD (mCons (mLst M_joined_c3) mNil))) [11])
noncomputable def M_joined_b0 : MS :=
 (mSeq (mSet 10 (mLst M_joined_c2))
 (mSeq (mMut 8 extendD (mLst M_joined_c4))
 (mIfS (mAnd (mNot (mTru (mVar 10))) (mTru (mVar 3))) (mMut 8 appendD (m2 addD (mVar 9) (m2 mulD (mTup (mCons (mC .none) mNil)) (mN lenD (mCons (mVar 6) mNil))))) mNx)))
noncomputable def M_joined_l0 : MS :=
 (mFor (mIt (m2 ixD (mVar 0) (mC (.int 1)))) (gNm 9) M_joined_b0)
noncomputable def M_joined_c5 : ML :=
 (mLc (mIt (mVar 6)) (gNm 7) mYes (m2 ixD (m2 ixD (mVar 1) (mC (.int 0))) (mVar 7)) [7])
noncomputable def M_joined : Mir := mFn 4 8
 ((mSeq (mDrop (mCall M_look_table (mAv (mVar 0) mANil)))
 (mSeq (mDrop (mCall M_look_table (mAv (mVar 1) mANil)))
 (mSeq (mIfS (mOr (mB (m2 isD (mCall M_kind_of (mAv (m2 ixD (mVar 0) (mC (.int 0))) (mAv (mVar 2) mANil))) (mC .none))) (mB (m2 neD (mCall M_kind_of (mAv (m2 ixD (mVar 0) (mC (.int 0))) (mAv (mVar 2) mANil))) (mCall M_kind_of (mAv (m2 ixD (mVar 1) (mC (.int 0))) (mAv (mVar 2) mANil)))))) (mRaise 0) mNx)
 (mSeq (mAsg (gTp [(gNm 4), (gNm 5)]) (mTup (mCons (mCall M_place_of (mAv (m2 ixD (mVar 0) (mC (.int 0))) (mAv (mVar 2) mANil))) (mCons (mCall M_place_of (mAv (m2 ixD (mVar 1) (mC (.int 0))) (mAv (mVar 2) mANil))) mNil))))
 (mSeq (mSet 6 (mLst M_joined_c0))
 (mSeq (mIfS (mTru (mN anyD (mCons (mLst M_joined_c1) mNil))) (mRaise 0) mNx)
 (mSeq (mSetO 8 (mDsp mNil))
 (mSeq M_joined_l0
 (mRet (mCall M_fitted (mAv (m2 addD (m2 ixD (mVar 0) (mC (.int 0))) (mN tupD (mCons (mLst M_joined_c5) mNil))) (mAv (mRd 8) mANil)))))))))))))
noncomputable def M_picked_c0 : ML :=
 (mLc (mIt (mVar 1)) (gNm 2) mYes (m2 isntD (mCall M_kind_of (mAv (m2 ixD (mVar 0) (mC (.int 0))) (mAv (mVar 2) mANil))) (mC .none)) [2])
noncomputable def M_picked_c1 : ML :=
 (mLc (mIt (mVar 1)) (gNm 2) mYes (mCall M_place_of (mAv (m2 ixD (mVar 0) (mC (.int 0))) (mAv (mVar 2) mANil))) [2])
noncomputable def M_picked_c2 : ML :=
 (mLc (mIt (mVar 3)) (gNm 5) mYes (m2 ixD (m2 ixD (mVar 0) (mC (.int 0))) (mVar 5)) [5])
noncomputable def M_picked_c3 : ML :=
 (mLc (mIt (mVar 3)) (gNm 5) mYes (m2 ixD (mVar 6) (mVar 5)) [5])
noncomputable def M_picked_c4 : ML :=
 (mLc (mIt (m2 ixD (mVar 0) (mC (.int 1)))) (gNm 6) mYes (mN tupD (mCons (mLst M_picked_c3) mNil)) [6])
noncomputable def M_picked : Mir := mFn 2 5
 ((mSeq (mDrop (mCall M_look_table (mAv (mVar 0) mANil)))
 (mSeq (mIfS (mOr (mNot (mTru (m1 (isiD "tuple") (mVar 1)))) (mB (m2 eqD (mN lenD (mCons (mVar 1) mNil)) (mC (.int 0))))) (mRaise 0) mNx)
 (mSeq (mIfS (mNot (mTru (mN allD (mCons (mLst M_picked_c0) mNil)))) (mRaise 0) mNx)
 (mSeq (mIfS (mB (m2 ltD (m1 lenSetD (mVar 1)) (mN lenD (mCons (mVar 1) mNil)))) (mRaise 0) mNx)
 (mSeq (mSet 3 (mLst M_picked_c1))
 (mSeq (mSet 4 (mN tupD (mCons (mLst M_picked_c2) mNil)))
 (mRet (mTup (mCons (mVar 4) (mCons (mLst M_picked_c4) mNil)))))))))))
noncomputable def L_two : Mir := mFn 3 6
 ((mSeq (mSet 3 (mCall L_table (mAr 0 (mAb 1 (mAv (mVar 2) mANil)))))
 (mSeq (mAsg (gTp [(gNm 4), (gNm 5)]) (mVar 3))
 (mSeq (mSet 6 (m2 addD (mSl (mVar 5) (mPs (mCall L_draw (mAr 0 (mAb 1 (mAv (m2 addD (mN lenD (mCons (mVar 5) mNil)) (mC (.int 1))) mANil))))) mPn) (mSl (mVar 5) mPn (mPs (mCall L_draw (mAr 0 (mAb 1 (mAv (mC (.int 3)) mANil))))))))
 (mSeq (mSet 7 (mLst (mLc (mItA range1D (mCons (mCall L_draw (mAr 0 (mAb 1 (mAv (mC (.int 4)) mANil)))) mNil)) (gNm 8) mYes (mCall L_row (mAr 0 (mAb 1 (mAv (mVar 4) mANil)))) [8])))
 (mRet (mTup (mCons (mVar 3) (mCons (mTup (mCons (mVar 4) (mCons (m2 addD (mVar 6) (mVar 7)) mNil))) mNil)))))))))
noncomputable def M_look_two : Mir := mFn 2 0
 ((mSeq (mDrop (mCall M_look_table (mAv (mVar 0) mANil)))
 (mSeq (mDrop (mCall M_look_table (mAv (mVar 1) mANil)))
 (mIfS (mB (m2 neD (m2 ixD (mVar 0) (mC (.int 0))) (m2 ixD (mVar 1) (mC (.int 0))))) (mRaise 0) mNx))))
noncomputable def M_changes : Mir := mFn 2 5
 ((mSeq (mDrop (mCall M_look_two (mAv (mVar 0) (mAv (mVar 1) mANil))))
 (mSeq (mSetO 2 (mLR1 (mN lenD (mCons (m2 ixD (mVar 1) (mC (.int 1))) mNil))))
 (mSeq (mSetO 3 (mDsp mNil))
 (mSeq (mFor (mItA range1D (mCons (mN lenD (mCons (m2 ixD (mVar 0) (mC (.int 1))) mNil)) mNil)) (gNm 4) (mSeq (mSet 5 (mLst (mPeek 2 fun ds => mLc (mKn ds) (gNm 6) (mB (m2 eqD (m2 ixD (m2 ixD (mVar 1) (mC (.int 1))) (mVar 6)) (m2 ixD (m2 ixD (mVar 0) (mC (.int 1))) (mVar 4)))) (mVar 6) [6])))
 (mIfS (mTru (mVar 5)) (mMut 2 removeD (m2 ixD (mVar 5) (mC (.int 0)))) (mMut 3 appendD (mVar 4)))))
 (mRet (mTup (mCons (mRd 3) (mCons (mRd 2) mNil)))))))))
noncomputable def M_look_runs : Mir := mFn 2 0
 ((mSeq (mDrop (mCall M_look_sum (mAv (mVar 0) (mAv (mVar 1) mANil))))
 (mIfS (mB (m2 (inD not) (m2 ixD (m2 ixD (m2 ixD (mVar 0) (mC (.int 2))) (mVar 1)) (mC (.int 0))) (mTup (mCons (mC (.str "count")) (mCons (mC (.str "sum")) (mCons (mC (.str "filled")) mNil)))))) (mRaise 4) mNx)))
noncomputable def M_heads_of_c0 : ML :=
 (mLc (mIt (m2 ixD (mCall M_sides (mAv (mVar 1) (mAv (mVar 2) mANil))) (mC (.int 0)))) (gNm 4) (mB (m2 (inD not) (mVar 4) (mVar 3))) (mVar 4) [4])
noncomputable def M_heads_of_c1 : ML :=
 (mLc (mItA range1D (mCons (mN lenD (mCons (mVar 3) mNil)) mNil)) (gNm 6) mYes (mTup (mCons (mCall M_ranked (mAv (m2 ixD (mVar 3) (mVar 6)) mANil)) (mCons (mVar 6) mNil))) [6])
noncomputable def M_heads_of_c2 : ML :=
 (mLc (mIt (mVar 5)) (gTp [(gNm 7), (gNm 6)]) mYes (m2 ixD (mVar 3) (mVar 6)) [7, 6])
noncomputable def M_heads_of : Mir := mFn 3 5
 ((mSeq (mSet 3 (m2 ixD (mCall M_sides (mAv (mVar 0) (mAv (mVar 2) mANil))) (mC (.int 0))))
 (mSeq (mSet 3 (m2 addD (mVar 3) (mLst M_heads_of_c0)))
 (mSeq (mSet 5 (mN sortD (mCons (mLst M_heads_of_c1) mNil)))
 (mRet (mLst M_heads_of_c2))))))
noncomputable def M_sum_at : Mir := mFn 4 0
 ((mRet (mCall M_one_sum (mAv (mVar 0) (mAv (mCall M_counted (mAv (mVar 0) (mAv (mVar 1) mANil))) (mAv (m2 ixD (m2 ixD (mVar 1) (mC (.int 2))) (mVar 3)) (mAv (mVar 2) (mAv (mTup mNil) mANil))))))))
noncomputable def M_parted_b0 : MS :=
 (mIfS (mAnd (mB (m2 eqD (mN lenD (mCons (mVar 7) mNil)) (m2 addD (mN lenD (mCons (mVar 3) mNil)) (mC (.int 1))))) (mTru (mCall M_begins (mAv (mVar 7) (mAv (mVar 3) mANil))))) (mSeq (mSet 8 (m2 subD (mCall M_sum_at (mAv (mVar 1) (mAv (mVar 2) (mAv (mVar 7) (mAv (mVar 4) mANil))))) (mCall M_sum_at (mAv (mVar 0) (mAv (mVar 2) (mAv (mVar 7) (mAv (mVar 4) mANil)))))))
 (mMut 6 extendD (mIf (mB (m2 eqD (mVar 8) (mC (.int 0)))) (mLst (mDsp mNil)) (mLst (mDsp (mCons (mTup (mCons (mVar 7) (mCons (mVar 8) mNil))) mNil)))))) mNx)
noncomputable def M_parted_l0 : MS :=
 (mFor (mIt (mVar 5)) (gNm 7) M_parted_b0)
noncomputable def M_parted : Mir := mFn 5 4
 ((mSeq (mDrop (mCall M_look_two (mAv (mVar 0) (mAv (mVar 1) mANil))))
 (mSeq (mDrop (mCall M_look_plan (mAv (m2 ixD (mVar 0) (mC (.int 0))) (mAv (mVar 2) mANil))))
 (mSeq (mSet 5 (mCall M_heads_of (mAv (mVar 0) (mAv (mVar 1) (mAv (mVar 2) mANil)))))
 (mSeq (mIfS (mB (m2 (inD not) (mVar 3) (mVar 5))) (mRaise 3) mNx)
 (mSeq (mDrop (mCall M_look_runs (mAv (mVar 2) (mAv (mVar 4) mANil))))
 (mSeq (mSetO 6 (mDsp mNil))
 (mSeq M_parted_l0
 (mRet (mRd 6))))))))))
noncomputable def M_blamed_c0 : ML :=
 (mLc (mIt (mVar 5)) (gTp [(gNm 7), (gNm 8)]) mYes (mN absD (mCons (mVar 8) mNil)) [7, 8])
noncomputable def M_blamed_c1 : ML :=
 (mLc (mIt (mVar 5)) (gTp [(gNm 7), (gNm 8)]) (mB (m2 eqD (mN absD (mCons (mVar 8) mNil)) (mVar 6))) (mVar 7) [7, 8])
noncomputable def M_blamed_t0 : MT :=
 (mTru (mC (.bool true)))
noncomputable def M_blamed_b0 : MS :=
 (mSeq (mSet 5 (mCall M_parted (mAv (mVar 0) (mAv (mVar 1) (mAv (mVar 2) (mAv (mVar 4) (mAv (mVar 3) mANil)))))))
 (mSeq (mIfS (mNot (mTru (mVar 5))) (mRet (mVar 4)) mNx)
 (mSeq (mSet 6 (mN maxD (mCons (mLst M_blamed_c0) mNil)))
 (mSet 4 (m2 ixD (mLst M_blamed_c1) (mC (.int 0)))))))
noncomputable def M_blamed_l0 : MS :=
 (mWhile M_blamed_t0 M_blamed_b0)
noncomputable def M_blamed : Mir := mFn 4 5
 ((mSeq (mDrop (mCall M_look_two (mAv (mVar 0) (mAv (mVar 1) mANil))))
 (mSeq (mDrop (mCall M_look_plan (mAv (m2 ixD (mVar 0) (mC (.int 0))) (mAv (mVar 2) mANil))))
 (mSeq (mDrop (mCall M_look_runs (mAv (mVar 2) (mAv (mVar 3) mANil))))
 (mSeq (mSet 4 (mTup mNil))
 M_blamed_l0)))))
noncomputable def M_deeper : Mir := mFn 3 1
 ((mSeq (mDrop (mCall M_look_plan (mAv (mVar 0) (mAv (mVar 1) mANil))))
 (mSeq (mSet 3 (m2 addD (mTup (mCons (m2 addD (m2 ixD (mVar 1) (mC (.int 0))) (mTup (mCons (mVar 2) mNil))) mNil)) (mSl (mVar 1) (mPs (mC (.int 1))) mPn)))
 (mSeq (mDrop (mCall M_look_plan (mAv (mVar 0) (mAv (mVar 3) mANil))))
 (mRet (mVar 3))))))
noncomputable def M_is_share : Mir := mFn 1 0
 ((mSeq (mIfS (mOr (mNot (mTru (m1 (isiD "tuple") (mVar 0)))) (mB (m2 neD (mN lenD (mCons (mVar 0) mNil)) (mC (.int 2))))) (mRet (mC (.bool false))) mNx)
 (mRet (mAndV (mCall M_is_whole (mAv (m2 ixD (mVar 0) (mC (.int 1))) (mAv (mC (.int 1)) (mAv (mC (.int 1000)) mANil)))) (mCall M_is_whole (mAv (m2 ixD (mVar 0) (mC (.int 0))) (mAv (mC (.int 0)) (mAv (m2 ixD (mVar 0) (mC (.int 1))) mANil))))))))
noncomputable def M_stacked : Mir := mFn 2 0
 ((mSeq (mDrop (mCall M_look_table (mAv (mVar 0) mANil)))
 (mSeq (mDrop (mCall M_look_table (mAv (mVar 1) mANil)))
 (mSeq (mIfS (mB (m2 neD (m2 ixD (mVar 0) (mC (.int 0))) (m2 ixD (mVar 1) (mC (.int 0))))) (mRaise 0) mNx)
 (mRet (mCall M_fitted (mAv (m2 ixD (mVar 0) (mC (.int 0))) (mAv (m2 addD (m2 ixD (mVar 0) (mC (.int 1))) (m2 ixD (mVar 1) (mC (.int 1)))) mANil))))))))
noncomputable def L_table_k10_c0 : ML :=
 (mLc (mItA range1D (mCons (mCall L_draw (mAr 0 (mAb 1 (mAv (m2 addD (mVar 2) (mC (.int 1))) mANil)))) mNil)) (gNm 5) mYes (mCall L_row (mAr 0 (mAb 1 (mAv (mVar 3) mANil)))) [5])
noncomputable def L_table_k10 : Mir := mFn 3 3
 ((mSeq (mSet 3 (mCall L_columns (mAr 0 (mAb 1 mANil))))
 (mSeq (mSet 4 (mLst L_table_k10_c0))
 (mRet (mTup (mCons (mVar 3) (mCons (mVar 4) mNil)))))))
noncomputable def M_gaps_b0 : MS :=
 (mSeq (mSet 8 (mAndV (m2 eqD (mN lenD (mCons (mVar 6) mNil)) (mN lenD (mCons (m2 ixD (mVar 1) (mC (.int 0))) mNil))) (m2 eqD (mN lenD (mCons (mVar 7) mNil)) (mN lenD (mCons (m2 ixD (mVar 1) (mC (.int 1))) mNil)))))
 (mIfS (mAnd (mTru (mVar 8)) (mNot (mTru (mCall M_members (mAv (mVar 4) (mAv (mVar 6) (mAv (mVar 7) mANil))))))) (mMut 5 appendD (mTup (mCons (mVar 6) (mCons (mVar 7) mNil)))) mNx))
noncomputable def M_gaps_l0 : MS :=
 (mFor (mIt (mVar 3)) (gNm 7) M_gaps_b0)
noncomputable def M_gaps_b1 : MS :=
 M_gaps_l0
noncomputable def M_gaps_l1 : MS :=
 (mFor (mIt (mVar 2)) (gNm 6) M_gaps_b1)
noncomputable def M_gaps : Mir := mFn 2 7
 ((mSeq (mDrop (mCall M_look_all (mAv (mVar 0) (mAv (mVar 1) mANil))))
 (mSeq (mAsg (gTp [(gNm 2), (gNm 3)]) (mCall M_sides (mAv (mVar 0) (mAv (mVar 1) mANil))))
 (mSeq (mSet 4 (mCall M_counted (mAv (mVar 0) (mAv (mVar 1) mANil))))
 (mSeq (mSetO 5 (mDsp mNil))
 (mSeq M_gaps_l1
 (mRet (mRd 5))))))))
noncomputable def M_in_order_c0 : ML :=
 (mLc (mItA range1D (mCons (mN lenD (mCons (mVar 0) mNil)) mNil)) (gNm 2) mYes (mTup (mCons (mCall M_ranked (mAv (m2 ixD (m2 ixD (mVar 0) (mVar 2)) (mC (.int 0))) mANil)) (mCons (mCall M_ranked (mAv (m2 ixD (m2 ixD (mVar 0) (mVar 2)) (mC (.int 1))) mANil)) (mCons (mVar 2) mNil)))) [2])
noncomputable def M_in_order_c1 : ML :=
 (mLc (mIt (mVar 1)) (gTp [(gNm 3), (gNm 4), (gNm 2)]) mYes (m2 ixD (mVar 0) (mVar 2)) [3, 4, 2])
noncomputable def M_in_order : Mir := mFn 1 4
 ((mSeq (mSet 1 (mN sortD (mCons (mLst M_in_order_c0) mNil)))
 (mRet (mLst M_in_order_c1))))
noncomputable def M_is_before : Mir := mFn 3 2
 ((mSeq (mIfS (mOr (mB (m2 isD (mVar 0) (mC .none))) (mB (m2 isD (mVar 1) (mC .none)))) (mRet (mAndV (m2 isntD (mVar 0) (mC .none)) (m2 isD (mVar 1) (mC .none)))) mNx)
 (mSeq (mIfS (mTru (m1 (isiD "tuple") (mVar 0))) (mSeq (mSet2 3 4 (m2 mulD (m2 ixD (mVar 0) (mC (.int 0))) (m2 ixD (mVar 1) (mC (.int 1)))) (m2 mulD (m2 ixD (mVar 1) (mC (.int 0))) (m2 ixD (mVar 0) (mC (.int 1)))))
 (mRet (mIf (mTru (mVar 2)) (m2 gtD (mVar 3) (mVar 4)) (m2 ltD (mVar 3) (mVar 4))))) mNx)
 (mRet (mIf (mTru (mVar 2)) (m2 gtD (mVar 0) (mVar 1)) (m2 ltD (mVar 0) (mVar 1)))))))
noncomputable def M_key_text : Mir := mFn 1 0
 ((mRet (mIf (mTru (m1 (isiD "str") (mVar 0))) (mVar 0) (mStr1 joinD (mC (.str ":")) (mLst (mDsp (mCons (m2 ixD (mVar 0) (mC (.int 0))) (mCons (m2 ixD (mVar 0) (mC (.int 1))) (mCons (mN strD (mCons (m2 ixD (mVar 0) (mC (.int 2))) mNil)) mNil)))))))))
noncomputable def M_value_text : Mir := mFn 1 0
 ((mRet (mIf (mB (m2 isD (mVar 0) (mC .none))) (mC (.str "-")) (mN strD (mCons (mVar 0) mNil)))))
noncomputable def M_path_text_c0 : ML :=
 (mLc (mIt (mVar 0)) (gNm 1) mYes (mCall M_value_text (mAv (mVar 1) mANil)) [1])
noncomputable def M_path_text : Mir := mFn 1 1
 ((mRet (mIf (mTru (mVar 0)) (mStr1 joinD (mC (.str "/")) (mLst M_path_text_c0)) (mC (.str "*")))))
noncomputable def M_sum_text : Mir := mFn 1 0
 ((mSeq (mIfS (mB (m2 isD (mVar 0) (mC .none))) (mRet (mC (.str "."))) mNx)
 (mRet (mIf (mTru (m1 (isiD "tuple") (mVar 0))) (m2 addD (m2 addD (mN strD (mCons (m2 ixD (mVar 0) (mC (.int 0))) mNil)) (mC (.str "/"))) (mN strD (mCons (m2 ixD (mVar 0) (mC (.int 1))) mNil))) (mN strD (mCons (mVar 0) mNil))))))
noncomputable def M_picture_k02_c0 : ML :=
 (mLc (mIt (mVar 3)) (gNm 6) mYes (mCall M_path_text (mAv (mVar 6) mANil)) [6])
noncomputable def M_picture_k02_c1 : ML :=
 (mLc (mIt (mVar 8)) (gNm 9) mYes (mCall M_sum_text (mAv (mVar 9) mANil)) [9])
noncomputable def M_picture_k02_c2 : ML :=
 (mLc (mIt (m2 ixD (mVar 4) (mVar 7))) (gNm 8) mYes (mStr1 joinD (mC (.str " ")) (mLst M_picture_k02_c1)) [8])
noncomputable def M_picture_k02_b0 : MS :=
 (mMut 5 appendD (m2 addD (mLst (mDsp (mCons (mCall M_path_text (mAv (m2 ixD (mVar 2) (mVar 7)) mANil)) mNil))) (mLst M_picture_k02_c2)))
noncomputable def M_picture_k02_l0 : MS :=
 (mFor (mItA range1D (mCons (mN lenD (mCons (mVar 2) mNil)) mNil)) (gNm 7) M_picture_k02_b0)
noncomputable def M_picture_k02_c3 : ML :=
 (mLc (mIt (mRd 5)) (gNm 12) mYes (mN lenD (mCons (m2 ixD (mVar 12) (mVar 11)) mNil)) [12])
noncomputable def M_picture_k02_c4 : ML :=
 (mLc (mItA range1D (mCons (m2 addD (mN lenD (mCons (mVar 3) mNil)) (mC (.int 1))) mNil)) (gNm 11) mYes (mN maxD (mCons (mLst M_picture_k02_c3) mNil)) [11])
noncomputable def M_picture_k02_c5 : ML :=
 (mLc (mItA range1D (mCons (mN lenD (mCons (mVar 12) mNil)) mNil)) (gNm 11) mYes (m2 addD (m2 ixD (mVar 12) (mVar 11)) (m2 mulD (mC (.str " ")) (m2 subD (m2 ixD (mVar 10) (mVar 11)) (mN lenD (mCons (m2 ixD (mVar 12) (mVar 11)) mNil))))) [11])
noncomputable def M_picture_k02_b1 : MS :=
 (mMut 13 appendD (mStr1 joinD (mC (.str "|")) (mLst M_picture_k02_c5)))
noncomputable def M_picture_k02_l1 : MS :=
 (mFor (mIt (mRd 5)) (gNm 12) M_picture_k02_b1)
noncomputable def M_picture_k02 : Mir := mFn 2 12
 ((mSeq (mDrop (mCall M_look_all (mAv (mVar 0) (mAv (mVar 1) mANil))))
 (mSeq (mAsg (gTp [(gNm 2), (gNm 3), (gNm 4)]) (mCall M_sheet_of (mAv (mVar 0) (mAv (mVar 1) mANil))))
 (mSeq (mSetO 5 (mDsp (mCons (m2 addD (mLst (mDsp (mCons (mC (.str "")) mNil))) (mLst M_picture_k02_c0)) mNil)))
 (mSeq M_picture_k02_l0
 (mSeq (mSet 10 (mLst M_picture_k02_c4))
 (mSeq (mSetO 13 (mDsp mNil))
 (mSeq M_picture_k02_l1
 (mRet (mRd 13))))))))))
noncomputable def M_rolled : Mir := mFn 2 0
 ((mSeq (mDrop (mCall M_look_plan (mAv (mVar 0) (mAv (mVar 1) mANil))))
 (mSeq (mIfS (mB (m2 eqD (m2 ixD (mVar 1) (mC (.int 0))) (mTup mNil))) (mRaise 2) mNx)
 (mRet (m2 addD (mTup (mCons (mSl (m2 ixD (mVar 1) (mC (.int 0))) mPn (mPs (m1 negD (mC (.int 1))))) mNil)) (mSl (mVar 1) (mPs (mC (.int 1))) mPn))))))
noncomputable def M_running_b0 : MS :=
 (mSeq (mSet 8 (m2 addD (mVar 8) (mCall M_one_sum (mAv (mVar 0) (mAv (mVar 6) (mAv (m2 ixD (m2 ixD (mVar 1) (mC (.int 2))) (mVar 3)) (mAv (mVar 9) (mAv (mTup mNil) mANil))))))))
 (mMut 7 appendD (mTup (mCons (mVar 9) (mCons (mVar 8) mNil)))))
noncomputable def M_running_l0 : MS :=
 (mFor (mIt (mCall M_children (mAv (mVar 4) (mAv (mVar 2) mANil)))) (gNm 9) M_running_b0)
noncomputable def M_running : Mir := mFn 4 6
 ((mSeq (mDrop (mCall M_look_all (mAv (mVar 0) (mAv (mVar 1) mANil))))
 (mSeq (mAsg (gTp [(gNm 4), (gNm 5)]) (mCall M_sides (mAv (mVar 0) (mAv (mVar 1) mANil))))
 (mSeq (mIfS (mB (m2 (inD not) (mVar 2) (mVar 4))) (mRaise 3) mNx)
 (mSeq (mDrop (mCall M_look_sum (mAv (mVar 1) (mAv (mVar 3) mANil))))
 (mSeq (mIfS (mB (m2 (inD not) (m2 ixD (m2 ixD (m2 ixD (mVar 1) (mC (.int 2))) (mVar 3)) (mC (.int 0))) (mTup (mCons (mC (.str "count")) (mCons (mC (.str "sum")) (mCons (mC (.str "filled")) mNil)))))) (mRaise 4) mNx)
 (mSeq (mSet 6 (mCall M_counted (mAv (mVar 0) (mAv (mVar 1) mANil))))
 (mSeq (mSetO 7 (mDsp mNil))
 (mSeq (mSet 8 (mC (.int 0)))
 (mSeq M_running_l0
 (mRet (mRd 7))))))))))))
noncomputable def M_value_in_c0 : ML :=
 (mLc (mItS (mVar 1)) (gNm 2) mYes (m2 (inD id) (mVar 2) (mC (.str "0123456789"))) [2])
noncomputable def M_value_in : Mir := mFn 1 2
 ((mSeq (mIfS (mB (m2 eqD (mVar 0) (mC (.str "-")))) (mRet (mC .none)) mNx)
 (mSeq (mSet 1 (mIf (mB (m2 eqD (mSl (mVar 0) mPn (mPs (mC (.int 1)))) (mC (.str "-")))) (mSl (mVar 0) (mPs (mC (.int 1))) mPn) (mVar 0)))
 (mSeq (mIfS (mAnd (mB (m2 neD (mVar 1) (mC (.str "")))) (mAnd (mB (m2 ltD (mN lenD (mCons (mVar 1) mNil)) (mC (.int 9)))) (mTru (mN allD (mCons (mLst M_value_in_c0) mNil))))) (mRet (mN int1D (mCons (mVar 0) mNil))) mNx)
 (mRet (mVar 0))))))
end VL

set_option Elab.async false
set_option linter.all false
set_option maxRecDepth 100000
set_option maxHeartbeats 4000000
/-! VM1: the draws of the laws. -/
namespace VL
open PySem L2
theorem log2_small {n : Nat} (h : n < 2 ^ 64) : n.log2 < 64 := by
  by_cases z : n = 0
  · subst z; decide
  · exact (Nat.log2_lt z).mpr h
theorem fmod_lt {a b : Int} (h : 0 < b) : 0 ≤ a.fmod b ∧ a.fmod b < b := by
  rw [Int.fmod_eq_emod_of_nonneg a (Int.le_of_lt h)]
  exact ⟨Int.emod_nonneg a (by omega), Int.emod_lt_of_pos a h⟩
theorem modD_i {i j : Int} (h : j ≠ 0) : modD (.int i) (.int j) = some (.int (i.fmod j)) := by
  show (if decide (j ≠ 0) = true then _ else _) = _
  rw [if_pos (decide_eq_true h)]
theorem divD_i {i j : Int} (h : 0 < j) (h2 : j.natAbs < 2 ^ 64) : divD (.int i) (.int j) = some (.int (i / j)) := by
  show (if decide (0 < j ∧ j.natAbs.log2 < 9000) = true then _ else _) = _
  have z := log2_small h2
  rw [if_pos (decide_eq_true ⟨h, by omega⟩)]
theorem mulD_i {i j : Int} (h1 : i.natAbs < 2 ^ 64) (h2 : j.natAbs < 2 ^ 64) : mulD (.int i) (.int j) = some (.int (i * j)) := by
  show (if decide (i.natAbs.log2 + j.natAbs.log2 < 1000000) = true then _ else _) = _
  have z1 := log2_small h1
  have z2 := log2_small h2
  rw [if_pos (decide_eq_true (by omega))]
theorem powD_i {i j : Int} (h1 : 0 ≤ j) (h2 : j ≤ 1000000) (h3 : i.natAbs < 2 ^ 64) : powD (.int i) (.int j) = some (.int (i ^ j.toNat)) := by
  show (if decide (0 ≤ j ∧ j ≤ 1000000 ∧ i.natAbs < 2 ^ 64) = true then _ else _) = _
  rw [if_pos (decide_eq_true ⟨h1, h2, h3⟩)]
theorem addD_i {i j : Int} : addD (.int i) (.int j) = some (.int (i + j)) := rfl
theorem subD_i {i j : Int} : subD (.int i) (.int j) = some (.int (i - j)) := rfl
theorem atI_in {α : Type} {xs : List α} {i : Int} (h0 : 0 ≤ i) (h1 : i < xs.length) : atI xs i = xs[i.toNat]? := by
  unfold atI ixN
  rw [if_pos h0, if_pos h1]
  rfl
def cellI (ns : List Int) (k : Int) : Int := if ns.isEmpty then 0 else (atI ns (k.fmod (ns.length : Nat))).getD 0
theorem cell_ok (ns : List Int) (k : Int) : L_cell [.scr ns, .val (.int k)] = .ok (.int (cellI ns k)) [.un, .un] := by
  cases ns with
  | nil => rfl
  | cons n ns =>
    have hp : (0 : Int) < (((n :: ns).length : Nat) : Int) := by simp only [List.length_cons]; omega
    obtain ⟨h1, h2⟩ := fmod_lt (a := k) hp
    obtain ⟨z, hz⟩ : ∃ z, atI (n :: ns) (k.fmod ((n :: ns).length : Nat)) = some z := by
      rw [atI_in h1 h2]
      exact ⟨_, List.getElem?_eq_getElem (by omega)⟩
    have e : cellI (n :: ns) k = z := by unfold cellI; rw [hz]; rfl
    rw [e]
    have hm := modD_i (i := k) (j := ((n :: ns).length : Nat)) (by omega)
    unfold L_cell mFn
    simp only [mSeq, mIfS, mScrT, mScrIx, mScrLen, scrR, mRet, mNx, m2, mVar, List.replicate, List.append_nil, List.getElem?_cons_zero, List.getElem?_cons_succ, Oc.bind, Oc.opt, List.isEmpty_cons, Bool.not_false, if_true, hm, hz, Option.map, finR, Sl.fin]
    rfl
def mixI (ns : List Int) (k : Int) : Int :=
  let a := (cellI ns k + 104729 * (k + 1)).fmod 4294967291
  let b := (a ^ 5).fmod 4294967279
  (b / 64 * 69621 + b).fmod 4294967231
theorem mix_ok (ns : List Int) (k : Int) (h0 : 0 ≤ k) (h1 : k ≤ 100000000) : L_mix [.scr ns, .val (.int k)] = .ok (.int (mixI ns k)) [.un, .un] := by
  obtain ⟨a0, a1⟩ := fmod_lt (a := cellI ns k + 104729 * (k + 1)) (b := 4294967291) (by decide)
  have ha : mixI ns k = ((((cellI ns k + 104729 * (k + 1)).fmod 4294967291) ^ 5).fmod 4294967279 / 64 * 69621 + (((cellI ns k + 104729 * (k + 1)).fmod 4294967291) ^ 5).fmod 4294967279).fmod 4294967231 := rfl
  rw [ha]
  have e1 : mulD (.int 104729) (.int (k + 1)) = some (.int (104729 * (k + 1))) := mulD_i (by decide) (by omega)
  have e2 : modD (.int (cellI ns k + 104729 * (k + 1))) (.int 4294967291) = some (.int ((cellI ns k + 104729 * (k + 1)).fmod 4294967291)) := modD_i (by decide)
  generalize (cellI ns k + 104729 * (k + 1)).fmod 4294967291 = a at *
  have e3 : powD (.int a) (.int 5) = some (.int (a ^ 5)) := powD_i (by decide) (by decide) (by omega)
  have e4 : modD (.int (a ^ 5)) (.int 4294967279) = some (.int ((a ^ 5).fmod 4294967279)) := modD_i (by decide)
  obtain ⟨b0, b1⟩ := fmod_lt (a := a ^ 5) (b := 4294967279) (by decide)
  generalize (a ^ 5).fmod 4294967279 = b at *
  have e5 : divD (.int b) (.int 64) = some (.int (b / 64)) := divD_i (by decide) (by decide)
  have b2 : 0 ≤ b / 64 ∧ b / 64 < 4294967279 := by omega
  have e6 : mulD (.int (b / 64)) (.int 69621) = some (.int (b / 64 * 69621)) := mulD_i (by omega) (by decide)
  have e7 : modD (.int (b / 64 * 69621 + b)) (.int 4294967231) = some (.int ((b / 64 * 69621 + b).fmod 4294967231)) := modD_i (by decide)
  unfold L_mix mFn
  simp only [mSeq, mSet, mRet, m2, mVar, mC, mCall, mAr, mAv, mANil, hasR, toSl, bs, back, cell_ok, List.replicate, List.append_nil, List.cons_append, List.nil_append, List.getElem?_cons_zero, List.getElem?_cons_succ, List.set_cons_zero, List.set_cons_succ, Oc.bind, Oc.opt, if_true, Option.map, List.nodup_nil, addD_i, e1, e2, e3, e4, e5, e6, e7, finR, Sl.fin]
  rfl
theorem mix_nn (ns : List Int) (k : Int) : 0 ≤ mixI ns k ∧ mixI ns k < 4294967231 := fmod_lt (by decide)
/-- the draw at a town that is t long afterwards -/
def drawI (ns : List Int) (t m : Int) : Int := (mixI ns t / 8).fmod m
theorem draw_in (ns : List Int) (t : Int) {m : Int} (h : 0 < m) : 0 ≤ drawI ns t m ∧ drawI ns t m < m := fmod_lt h
/-- a town: that many noughts -/
def town (k : Nat) : List PyData := List.replicate k (.int 0)
theorem town_snoc (k : Nat) : town k ++ [.int 0] = town (k + 1) := by unfold town; rw [List.replicate_succ']
theorem town_len (k : Nat) : (town k).length = k := List.length_replicate
theorem draw_ok (ns : List Int) (k : Nat) (m : Int) (hk : k < 1000000) (hm : 0 < m) : L_draw [.scr ns, .bor (town k), .val (.int m)] = .ok (.int (drawI ns ((k : Int) + 1) m)) [.un, .bor (town (k + 1)), .un] := by
  have e1 : appendD (town k) (.int 0) = some (town (k + 1)) := by
    unfold appendD
    rw [if_pos (show fits ((town k).length + 1) = true from decide_eq_true (by rw [town_len]; omega)), town_snoc]
  have e2 := mix_ok ns ((k : Int) + 1) (by omega) (by omega)
  obtain ⟨b0, b1⟩ := mix_nn ns ((k : Int) + 1)
  have e3 : divD (.int (mixI ns ((k : Int) + 1))) (.int 8) = some (.int (mixI ns ((k : Int) + 1) / 8)) := divD_i (by decide) (by decide)
  have e4 : modD (.int (mixI ns ((k : Int) + 1) / 8)) (.int m) = some (.int (drawI ns ((k : Int) + 1) m)) := modD_i (by omega)
  have e5 : (((town (k + 1)).length : Nat) : Int) = (k : Int) + 1 := by rw [town_len]; omega
  unfold L_draw mFn
  simp only [mSeq, mMut, heldR, setR, mRet, m2, mVar, mC, mCall, mAr, mAv, mANil, mLenP, peekR, hasR, toSl, bs, back, e1, e2, e3, e4, e5, List.replicate, List.append_nil, List.cons_append, List.nil_append, List.getElem?_cons_zero, List.getElem?_cons_succ, List.set_cons_zero, List.set_cons_succ, Oc.bind, Oc.opt, if_true, Option.map, List.nodup_nil, finR, Sl.fin]
  rfl
theorem pick_ok (ns : List Int) (k : Nat) (ds : List PyData) (hk : k < 1000000) (hd : ds ≠ []) : ∃ (j : Nat) (d : PyData), ds[j]? = some d ∧ L_pick [.scr ns, .bor (town k), .val (.list ds)] = .ok d [.un, .bor (town (k + 1)), .un] := by
  have hl : (0 : Int) < ((ds.length : Nat) : Int) := by
    have := List.length_pos_iff.mpr hd
    omega
  have e1 := draw_ok ns k ((ds.length : Nat) : Int) hk hl
  obtain ⟨b0, b1⟩ := draw_in ns ((k : Int) + 1) hl
  have lt : (drawI ns ((k : Int) + 1) ((ds.length : Nat) : Int)).toNat < ds.length := by omega
  refine ⟨_, ds[(drawI ns ((k : Int) + 1) ((ds.length : Nat) : Int)).toNat], List.getElem?_eq_getElem lt, ?_⟩
  have e2 : ixD (.list ds) (.int (drawI ns ((k : Int) + 1) ((ds.length : Nat) : Int))) = some ds[(drawI ns ((k : Int) + 1) ((ds.length : Nat) : Int)).toNat] := by
    show atI ds _ = _
    rw [atI_in b0 b1, List.getElem?_eq_getElem lt]
  unfold L_pick mFn
  simp only [mRet, m2, mVar, mN, lenD, mCons, mNil, mCall, mAr, mAv, mAb, mANil, hasR, hasB, toSl, bs, back, e1, e2, List.nodup_cons, List.nodup_nil, List.not_mem_nil, not_false_eq_true, and_self, List.replicate, List.append_nil, List.cons_append, List.nil_append, List.getElem?_cons_zero, List.getElem?_cons_succ, List.set_cons_zero, List.set_cons_succ, Oc.bind, Oc.opt, if_true, Option.map, finR, Sl.fin]
  rfl
end VL

set_option Elab.async false
set_option linter.all false
set_option maxRecDepth 100000
set_option maxHeartbeats 4000000
/-! VM2: good data, words, columns, rows, tables; what the program's looks say of them. -/
namespace VL
open PySem L2
noncomputable instance decPy : DecidableEq PyData := fun _ _ => Classical.propDecidable _
/-- data without truths or dicts, no deeper than n -/
def gdn : Nat → PyData → Bool
  | _, .none => true
  | _, .int _ => true
  | _, .str _ => true
  | n + 1, .list xs => xs.all (gdn n)
  | n + 1, .tuple xs => xs.all (gdn n)
  | _, _ => false
theorem eqvAll_of {p : PyData → Bool} (ih : ∀ d e, p d = true → p e = true → (PyData.eqv d e = true ↔ d = e)) : ∀ xs ys : List PyData, xs.all p = true → ys.all p = true → (PyData.eqvAll xs ys = true ↔ xs = ys)
  | [], [], _, _ => by simp [PyData.eqvAll]
  | [], _ :: _, _, _ => by simp [PyData.eqvAll]
  | _ :: _, [], _, _ => by simp [PyData.eqvAll]
  | x :: xs, y :: ys, h1, h2 => by
    simp only [List.all_cons, Bool.and_eq_true] at h1 h2
    simp only [PyData.eqvAll, Bool.and_eq_true, List.cons.injEq, ih x y h1.1 h2.1, eqvAll_of ih xs ys h1.2 h2.2]
theorem eqv_gdn : ∀ (n : Nat) (d e : PyData), gdn n d = true → gdn n e = true → (PyData.eqv d e = true ↔ d = e) := by
  intro n
  induction n with
  | zero => intro d e h1 h2; cases d <;> cases e <;> simp_all [gdn, PyData.eqv]
  | succ n ih =>
    intro d e h1 h2
    cases d with
    | list xs => cases e with
      | list ys => simp only [PyData.eqv, eqvAll_of ih xs ys h1 h2, PyData.list.injEq]
      | _ => simp_all [gdn, PyData.eqv]
    | tuple xs => cases e with
      | tuple ys => simp only [PyData.eqv, eqvAll_of ih xs ys h1 h2, PyData.tuple.injEq]
      | _ => simp_all [gdn, PyData.eqv]
    | _ => cases e <;> simp_all [gdn, PyData.eqv]
theorem plainAll_of {p : PyData → Bool} (ih : ∀ d, p d = true → d.plain = true) : ∀ xs : List PyData, xs.all p = true → PyData.plainAll xs = true
  | [], _ => rfl
  | x :: xs, h => by
    simp only [List.all_cons, Bool.and_eq_true] at h
    simp only [PyData.plainAll, ih x h.1, plainAll_of ih xs h.2, Bool.and_self]
theorem depthAll_of {p : PyData → Bool} {n : Nat} (ih : ∀ d, p d = true → d.depth ≤ n) : ∀ xs : List PyData, xs.all p = true → PyData.depthAll xs ≤ n
  | [], _ => Nat.zero_le _
  | x :: xs, h => by
    simp only [List.all_cons, Bool.and_eq_true] at h
    simp only [PyData.depthAll]
    have a := ih x h.1
    have b := depthAll_of ih xs h.2
    omega
theorem plain_gdn : ∀ (n : Nat) (d : PyData), gdn n d = true → d.plain = true := by
  intro n
  induction n with
  | zero => intro d h; cases d <;> simp_all [gdn, PyData.plain]
  | succ n ih =>
    intro d h
    cases d with
    | list xs => exact plainAll_of ih xs h
    | tuple xs => exact plainAll_of ih xs h
    | dict _ => simp [gdn] at h
    | _ => rfl
theorem depth_gdn : ∀ (n : Nat) (d : PyData), gdn n d = true → d.depth ≤ n := by
  intro n
  induction n with
  | zero => intro d h; cases d <;> simp_all [gdn, PyData.depth]
  | succ n ih =>
    intro d h
    cases d with
    | list xs => simp only [PyData.depth]; have := depthAll_of ih xs h; omega
    | tuple xs => simp only [PyData.depth]; have := depthAll_of ih xs h; omega
    | dict _ => simp [gdn] at h
    | _ => simp [PyData.depth]
theorem gdn_up : ∀ (n m : Nat) (d : PyData), n ≤ m → gdn n d = true → gdn m d = true := by
  intro n
  induction n with
  | zero => intro m d hm h; cases d <;> cases m <;> simp_all [gdn]
  | succ n ih =>
    intro m d hm h
    obtain ⟨m, rfl⟩ : ∃ k, m = k + 1 := ⟨m - 1, by omega⟩
    cases d with
    | list xs => exact List.all_eq_true.mpr fun x hx => ih m x (by omega) (List.all_eq_true.mp h x hx)
    | tuple xs => exact List.all_eq_true.mpr fun x hx => ih m x (by omega) (List.all_eq_true.mp h x hx)
    | dict _ => simp [gdn] at h
    | bool _ => simp [gdn] at h
    | none => cases m <;> rfl
    | int _ => cases m <;> rfl
    | str _ => cases m <;> rfl
theorem isi_str_str (z : Str) : isiD "str" (.str z) = some (.bool true) := by show some (PyData.bool ("str" == "str")) = _; rfl
theorem isi_str_tup (z : List PyData) : isiD "str" (.tuple z) = some (.bool false) := by show some (PyData.bool ("str" == "tuple")) = _; rfl
theorem isi_str_int (z : Int) : isiD "str" (.int z) = some (.bool false) := by show some (PyData.bool ("str" == "int")) = _; rfl
theorem isi_str_lst (z : List PyData) : isiD "str" (.list z) = some (.bool false) := by show some (PyData.bool ("str" == "list")) = _; rfl
theorem isi_str_non : isiD "str" .none = some (.bool false) := rfl
theorem isi_tup_str (z : Str) : isiD "tuple" (.str z) = some (.bool false) := by show some (PyData.bool ("tuple" == "str")) = _; rfl
theorem isi_tup_tup (z : List PyData) : isiD "tuple" (.tuple z) = some (.bool true) := by show some (PyData.bool ("tuple" == "tuple")) = _; rfl
theorem isi_tup_int (z : Int) : isiD "tuple" (.int z) = some (.bool false) := by show some (PyData.bool ("tuple" == "int")) = _; rfl
theorem isi_tup_lst (z : List PyData) : isiD "tuple" (.list z) = some (.bool false) := by show some (PyData.bool ("tuple" == "list")) = _; rfl
theorem isi_tup_non : isiD "tuple" .none = some (.bool false) := rfl
theorem isi_int_str (z : Str) : isiD "int" (.str z) = some (.bool false) := by show some (PyData.bool ("int" == "str")) = _; rfl
theorem isi_int_tup (z : List PyData) : isiD "int" (.tuple z) = some (.bool false) := by show some (PyData.bool ("int" == "tuple")) = _; rfl
theorem isi_int_int (z : Int) : isiD "int" (.int z) = some (.bool true) := by show some (PyData.bool ("int" == "int")) = _; rfl
theorem isi_int_lst (z : List PyData) : isiD "int" (.list z) = some (.bool false) := by show some (PyData.bool ("int" == "list")) = _; rfl
theorem isi_int_non : isiD "int" .none = some (.bool false) := rfl
theorem isi_lst_str (z : Str) : isiD "list" (.str z) = some (.bool false) := by show some (PyData.bool ("list" == "str")) = _; rfl
theorem isi_lst_tup (z : List PyData) : isiD "list" (.tuple z) = some (.bool false) := by show some (PyData.bool ("list" == "tuple")) = _; rfl
theorem isi_lst_int (z : Int) : isiD "list" (.int z) = some (.bool false) := by show some (PyData.bool ("list" == "int")) = _; rfl
theorem isi_lst_lst (z : List PyData) : isiD "list" (.list z) = some (.bool true) := by show some (PyData.bool ("list" == "list")) = _; rfl
theorem isi_lst_non : isiD "list" .none = some (.bool false) := rfl
theorem isi_bool_str (z : Str) : isiD "bool" (.str z) = some (.bool false) := by show some (PyData.bool ("bool" == "str")) = _; rfl
theorem isi_bool_tup (z : List PyData) : isiD "bool" (.tuple z) = some (.bool false) := by show some (PyData.bool ("bool" == "tuple")) = _; rfl
theorem isi_bool_int (z : Int) : isiD "bool" (.int z) = some (.bool false) := by show some (PyData.bool ("bool" == "int")) = _; rfl
theorem isi_bool_lst (z : List PyData) : isiD "bool" (.list z) = some (.bool false) := by show some (PyData.bool ("bool" == "list")) = _; rfl
theorem isi_bool_non : isiD "bool" .none = some (.bool false) := rfl
theorem lenD_l (ds : List PyData) : lenD [.list ds] = some (.int (ds.length : Nat)) := rfl
theorem lenD_t (ds : List PyData) : lenD [.tuple ds] = some (.int (ds.length : Nat)) := rfl
theorem lenD_s {z : Str} (h : z.length ≤ 16777216) : lenD [.str z] = some (.int (z.length : Nat)) := by show (if fits z.length then _ else _) = _; rw [if_pos (show fits z.length = true from decide_eq_true h)]
/-- good data -/
abbrev Gd (d : PyData) : Prop := gdn 50 d = true
theorem Gd.ok {d : PyData} (h : Gd d) : okD d = true := by
  unfold okD
  have := depth_gdn 50 d h
  simp only [plain_gdn 50 d h, Bool.true_and, decide_eq_true_eq]
  omega
theorem eqv_gd {d e : PyData} (h1 : Gd d) (h2 : Gd e) : PyData.eqv d e = decide (d = e) := by
  rw [Bool.eq_iff_iff, eqv_gdn 50 d e h1 h2, decide_eq_true_eq]
theorem eqD_g {d e : PyData} (h1 : Gd d) (h2 : Gd e) : eqD d e = some (.bool (decide (d = e))) := by
  unfold eqD
  rw [h1.ok, h2.ok, eqv_gd h1 h2]
  rfl
theorem neD_g {d e : PyData} (h1 : Gd d) (h2 : Gd e) : neD d e = some (.bool (!decide (d = e))) := by
  unfold neD
  rw [h1.ok, h2.ok, eqv_gd h1 h2]
  rfl
theorem inSeq_g {d : PyData} {es : List PyData} {f : Bool → Bool} (h1 : Gd d) (h2 : ∀ e ∈ es, Gd e) : inSeq f d es = some (.bool (f (decide (d ∈ es)))) := by
  have hp : PyData.plainAll es = true := plainAll_of (p := gdn 50) (fun d h => plain_gdn 50 d h) es (List.all_eq_true.mpr h2)
  unfold inSeq
  have e1 : (es.any fun y => PyData.eqv y d) = decide (d ∈ es) := by
    rw [Bool.eq_iff_iff, List.any_eq_true, decide_eq_true_eq]
    constructor
    · rintro ⟨y, hy, h⟩
      rw [eqv_gd (h2 y hy) h1, decide_eq_true_eq] at h
      exact h ▸ hy
    · intro h
      exact ⟨d, h, by rw [eqv_gd h1 h1]; simp⟩
  rw [h1.ok, hp, e1]
  rfl
theorem leD_t {i j : Int} (h : i ≤ j) : leD (.int i) (.int j) = some (.bool true) := by show some (PyData.bool (decide (i ≤ j))) = _; rw [decide_eq_true h]
theorem leD_f {i j : Int} (h : ¬ i ≤ j) : leD (.int i) (.int j) = some (.bool false) := by show some (PyData.bool (decide (i ≤ j))) = _; rw [decide_eq_false h]
theorem gtD_t {i j : Int} (h : j < i) : gtD (.int i) (.int j) = some (.bool true) := by show some (PyData.bool (decide (j < i))) = _; rw [decide_eq_true h]
theorem gtD_f {i j : Int} (h : ¬ j < i) : gtD (.int i) (.int j) = some (.bool false) := by show some (PyData.bool (decide (j < i))) = _; rw [decide_eq_false h]
theorem eqD_i {i j : Int} : eqD (.int i) (.int j) = some (.bool (decide (i = j))) := by
  rw [eqD_g rfl rfl]; simp
theorem neD_i {i j : Int} : neD (.int i) (.int j) = some (.bool (!decide (i = j))) := by
  rw [neD_g rfl rfl]; simp
theorem eqD_s {i j : Str} : eqD (.str i) (.str j) = some (.bool (decide (i = j))) := by
  rw [eqD_g rfl rfl]; simp
theorem rng1_n (n : Nat) (h : n ≤ 16777216) : rng1 (n : Int) = true := decide_eq_true (by omega)
theorem rngD_n (n : Nat) : rngD 0 ((n : Int)).toNat = (List.range n).map fun i => .int ((i : Nat) : Int) := by
  unfold rngD
  rw [Int.toNat_natCast]
  exact List.map_congr_left fun i _ => by rw [Int.zero_add]
theorem range1_n (n : Nat) (h : n ≤ 16777216) : range1D [.int (n : Int)] = some ((List.range n).map fun i => .int ((i : Nat) : Int)) := by
  show (if rng1 (n : Int) = true then some (rngD 0 ((n : Int)).toNat) else none) = _
  rw [rng1_n n h, rngD_n]
  rfl
theorem range1_i {i : Int} (h0 : 0 ≤ i) (h : i ≤ 16777216) : range1D [.int i] = some ((List.range i.toNat).map fun j => .int ((j : Nat) : Int)) := by
  have := range1_n i.toNat (by omega)
  rwa [show ((i.toNat : Nat) : Int) = i by omega] at this
theorem atI_n {α : Type} (xs : List α) (i : Nat) : atI xs (i : Int) = xs[i]? := by
  by_cases h : i < xs.length
  · rw [atI_in (by omega) (by omega)]; rfl
  · unfold atI ixN
    rw [if_pos (by omega), if_neg (by omega), List.getElem?_eq_none (by omega)]
    rfl
theorem allD_map {α : Type} (xs : List α) (f : α → Bool) (h : ∀ x ∈ xs, f x = true) : allD [.list (xs.map fun x => .bool (f x))] = some (.bool true) := by
  have e : ∀ ys : List α, boolsD (ys.map fun x => .bool (f x)) = some (ys.map f) := by
    intro ys
    induction ys with
    | nil => rfl
    | cons y ys ih => simp [boolsD, ih]
  show ((boolsD _).map _) = _
  rw [e]
  simp only [Option.map]
  congr 2
  simpa using h
/-! ### words -/
def smallC : List Nat := [97, 98, 99, 100, 101, 102, 103, 104, 105, 106, 107, 108, 109, 110, 111, 112, 113, 114, 115, 116, 117, 118, 119, 120, 121, 122]
def wordB (z : Str) : Bool := decide (1 ≤ z.length) && decide (z.length ≤ 8) && z.cps.toList.all (smallC.contains ·)
theorem small_str : Str.ofString "abcdefghijklmnopqrstuvwxyz" = SX.S smallC := by decide +kernel
theorem in_small (c : Nat) : inD id (.str ⟨#[c]⟩) (.str (Str.ofString "abcdefghijklmnopqrstuvwxyz")) = some (.bool (smallC.contains c)) := by
  show some (PyData.bool (id (!(Builtin.Str.occurrences _ _ 0 _ 1).isEmpty))) = _
  rw [small_str]
  have z := SX.in_one smallC c
  rw [show (⟨#[c]⟩ : Str) = SX.S [c] from rfl, z]
  simp only [id]
  congr 2
  rw [Bool.eq_iff_iff, decide_eq_true_eq, List.contains_iff_mem]
theorem is_word_ok {z : Str} (h : wordB z = true) : M_is_word [.val (.str z)] = .ok (.bool true) [.un] := by
  simp only [wordB, Bool.and_eq_true, decide_eq_true_eq] at h
  obtain ⟨⟨h1, h2⟩, h3⟩ := h
  have e3 := mLc_map (fs := mItS (mVar 0)) (g := gNm 1) (f := m2 (inD id) (mVar 1) (mC (.str "abcdefghijklmnopqrstuvwxyz"))) (vs := [1]) (ρ := [.val (.str z), .un]) (ρ1 := [.val (.str z), .un]) z.cps.toList (fun c => .str ⟨#[c]⟩) (fun c => .bool (smallC.contains c)) rfl rfl
    (fun c hc => ⟨[.val (.str z), .val (.str ⟨#[c]⟩)], rfl, by simp only [mSeq, mSet, mSetO, mSet2, mRet, mRetN, mDrop, mIfS, mIf, mB, mTru, mAnd, mOr, mNot, mAndV, mOrV, mNotV, mChain, mRaise, mNx, m1, m2, mN, mNL, mVar, mC, mNil, mCons, mLst, mTup, mDsp, mCall, mANil, mAv, mAr, mAb, hasR, hasB, toSl, VL.bs, back, mMut, heldR, setR, peekR, mLenP, mLenO, mRd, mItA, mIt, mAsg, gNm, gTp, gSeq, mYes, mSl, mPs, mPn, mKn, ok_bind, Oc.bind, Oc.opt, lenD_l, lenD_t, tupD, truD, isi_str_str, isi_str_tup, isi_str_int, isi_str_non, isi_str_lst, isi_tup_tup, isi_tup_lst, isi_tup_str, isi_tup_int, isi_tup_non, isi_lst_lst, isi_lst_tup, isi_int_int, isi_int_str, isi_int_non, isi_bool_int, isi_int_tup, isi_bool_tup, isi_bool_str, isi_bool_non, isi_lst_str, isi_lst_int, isi_lst_non, isD, isntD, isNoneD, addD_i, subD_i, seqD, appendD, List.replicate, List.append_nil, List.cons_append, List.nil_append, List.getElem?_cons_zero, List.getElem?_cons_succ, List.set_cons_zero, List.set_cons_succ, List.length_cons, List.length_nil, List.nodup_nil, List.nodup_cons, List.not_mem_nil, not_false_eq_true, and_self, Option.map, if_true, if_false, Bool.false_eq_true, Bool.not_true, Bool.not_false, Bool.and_true, Bool.true_and, Bool.false_and, Bool.and_false, finR, Sl.fin, wipeR, restR, List.getD_cons_zero, List.getD_cons_succ, decide_true, decide_false, Nat.reduceAdd, Nat.reduceLT, in_small], rfl, rfl⟩) (by rw [Array.length_toList]; show z.length ≤ _; omega)
  have e4 := allD_map z.cps.toList (fun c => smallC.contains c) (fun c hc => List.all_eq_true.mp h3 c hc)
  have e1 : leD (.int 1) (.int (z.length : Nat)) = some (.bool true) := leD_t (by omega)
  have e2 : leD (.int (z.length : Nat)) (.int 8) = some (.bool true) := leD_t (by omega)
  unfold M_is_word mFn
  simp only [mSeq, mSet, mSetO, mSet2, mRet, mRetN, mDrop, mIfS, mIf, mB, mTru, mAnd, mOr, mNot, mAndV, mOrV, mNotV, mChain, mRaise, mNx, m1, m2, mN, mNL, mVar, mC, mNil, mCons, mLst, mTup, mDsp, mCall, mANil, mAv, mAr, mAb, hasR, hasB, toSl, VL.bs, back, mMut, heldR, setR, peekR, mLenP, mLenO, mRd, mItA, mIt, mAsg, gNm, gTp, gSeq, mYes, mSl, mPs, mPn, mKn, ok_bind, Oc.bind, Oc.opt, lenD_l, lenD_t, tupD, truD, isi_str_str, isi_str_tup, isi_str_int, isi_str_non, isi_str_lst, isi_tup_tup, isi_tup_lst, isi_tup_str, isi_tup_int, isi_tup_non, isi_lst_lst, isi_lst_tup, isi_int_int, isi_int_str, isi_int_non, isi_bool_int, isi_int_tup, isi_bool_tup, isi_bool_str, isi_bool_non, isi_lst_str, isi_lst_int, isi_lst_non, isD, isntD, isNoneD, addD_i, subD_i, seqD, appendD, List.replicate, List.append_nil, List.cons_append, List.nil_append, List.getElem?_cons_zero, List.getElem?_cons_succ, List.set_cons_zero, List.set_cons_succ, List.length_cons, List.length_nil, List.nodup_nil, List.nodup_cons, List.not_mem_nil, not_false_eq_true, and_self, Option.map, if_true, if_false, Bool.false_eq_true, Bool.not_true, Bool.not_false, Bool.and_true, Bool.true_and, Bool.false_and, Bool.and_false, finR, Sl.fin, wipeR, restR, List.getD_cons_zero, List.getD_cons_succ, decide_true, decide_false, Nat.reduceAdd, Nat.reduceLT, mChain, lenD_s (show z.length ≤ 16777216 by omega), e1, e2, e3, e4]
  rfl
/-! ### columns -/
structure Col where
  n : Str
  num : Bool
def kindS (b : Bool) : Str := if b then Str.ofString "number" else Str.ofString "word"
def colD (c : Col) : PyData := .tuple [.str c.n, .str (kindS c.num)]
def colsD (cs : List Col) : PyData := .tuple (cs.map colD)
structure ColsOk (cs : List Col) : Prop where
  lo : 1 ≤ cs.length
  hi : cs.length ≤ 6
  nd : (cs.map (·.n)).Nodup
  wd : ∀ c ∈ cs, wordB c.n = true
theorem mem_snoc_nodup {α : Type} {s : List α} {k : α} (h : s.Nodup) (hk : k ∉ s) : (s ++ [k]).Nodup := by
  rw [List.nodup_append]
  refine ⟨h, by simp, ?_⟩
  intro a ha b hb
  simp at hb
  subst hb
  intro e
  exact hk (e ▸ ha)
theorem metK_nodup {κ : Type} [DecidableEq κ] : ∀ (ks σ : List κ), (σ ++ ks).Nodup → ks.foldl ddK σ = σ ++ ks
  | [], σ, _ => by simp
  | k :: ks, σ, h => by
    have hk : k ∉ σ := by
      rw [List.nodup_append] at h
      exact fun z => h.2.2 k z k (by simp) rfl
    have e : ddK σ k = σ ++ [k] := by unfold ddK; rw [if_neg hk]
    show ks.foldl ddK (ddK σ k) = _
    rw [e, metK_nodup ks (σ ++ [k]) (by simpa using h)]
    simp
theorem leaves_strs : ∀ zs : List Str, leavesD (zs.map .str) = some (zs.map .text)
  | [] => rfl
  | z :: zs => by
    show (match leafD (.str z) with | none => none | some l => (leavesD (zs.map .str)).map (l :: ·)) = _
    rw [leaves_strs zs]
    rfl
theorem nodup_text {zs : List Str} (h : zs.Nodup) : (zs.map Leaf.text).Nodup := by
  induction zs with
  | nil => simp
  | cons z zs ih =>
    simp only [List.map_cons, List.nodup_cons, List.mem_map] at h ⊢
    refine ⟨?_, ih h.2⟩
    rintro ⟨y, hy, e⟩
    cases e
    exact h.1 hy
theorem lenSet_strs {zs : List Str} (h : zs.Nodup) (hl : zs.length ≤ 4000) : lenSetD (.list (zs.map .str)) = some (.int (zs.length : Nat)) := by
  show (match leavesD (zs.map .str) with | none => none | some ls => _) = _
  rw [leaves_strs]
  show (if decide ((zs.map PyData.str).length ≤ 4000) then _ else _) = _
  rw [if_pos (by simpa using hl)]
  have e : metK (zs.map Leaf.text) = zs.map Leaf.text := by
    have := metK_nodup (zs.map Leaf.text) [] (by simpa using nodup_text h)
    simpa [metK] using this
  rw [e]
  simp
theorem kind_in (b : Bool) : inD id (.str (kindS b)) (.tuple [.str "word", .str "number"]) = some (.bool true) := by
  show inSeq id _ _ = _
  rw [inSeq_g rfl (by intro e he; simp at he; rcases he with rfl | rfl <;> rfl)]
  cases b <;> simp [kindS]
theorem are_columns_ok {cs : List Col} (h : ColsOk cs) : M_are_columns [.val (colsD cs)] = .ok (.bool true) [.un] := by
  obtain ⟨lo, hi, nd, wd⟩ := h
  have f1 := mLc_map (fs := mIt (mVar 0)) (g := gNm 1) (f := mAndV (m1 (isiD "tuple") (mVar 1)) (mAndV (m2 eqD (mN lenD (mCons (mVar 1) mNil)) (mC (.int 2))) (mCall M_is_word (mAv (m2 ixD (mVar 1) (mC (.int 0))) mANil)))) (vs := [1]) (ρ := [.val (colsD cs), .un]) (ρ1 := [.val (colsD cs), .un]) cs colD (fun _ => .bool true) rfl rfl
    (fun c hc => ⟨[.val (colsD cs), .val (colD c)], rfl, by
      have e0 : ixD (colD c) (.int 0) = some (.str c.n) := rfl
      have e1 := is_word_ok (wd c hc)
      have e2 : isiD "tuple" (colD c) = some (.bool true) := rfl
      have e3 : lenD [colD c] = some (.int 2) := rfl
      simp only [mSeq, mSet, mSetO, mSet2, mRet, mRetN, mDrop, mIfS, mIf, mB, mTru, mAnd, mOr, mNot, mAndV, mOrV, mNotV, mChain, mRaise, mNx, m1, m2, mN, mNL, mVar, mC, mNil, mCons, mLst, mTup, mDsp, mCall, mANil, mAv, mAr, mAb, hasR, hasB, toSl, VL.bs, back, mMut, heldR, setR, peekR, mLenP, mLenO, mRd, mItA, mIt, mAsg, gNm, gTp, gSeq, mYes, mSl, mPs, mPn, mKn, ok_bind, Oc.bind, Oc.opt, lenD_l, lenD_t, tupD, truD, isi_str_str, isi_str_tup, isi_str_int, isi_str_non, isi_str_lst, isi_tup_tup, isi_tup_lst, isi_tup_str, isi_tup_int, isi_tup_non, isi_lst_lst, isi_lst_tup, isi_int_int, isi_int_str, isi_int_non, isi_bool_int, isi_int_tup, isi_bool_tup, isi_bool_str, isi_bool_non, isi_lst_str, isi_lst_int, isi_lst_non, isD, isntD, isNoneD, addD_i, subD_i, seqD, appendD, List.replicate, List.append_nil, List.cons_append, List.nil_append, List.getElem?_cons_zero, List.getElem?_cons_succ, List.set_cons_zero, List.set_cons_succ, List.length_cons, List.length_nil, List.nodup_nil, List.nodup_cons, List.not_mem_nil, not_false_eq_true, and_self, Option.map, if_true, if_false, Bool.false_eq_true, Bool.not_true, Bool.not_false, Bool.and_true, Bool.true_and, Bool.false_and, Bool.and_false, finR, Sl.fin, wipeR, restR, List.getD_cons_zero, List.getD_cons_succ, decide_true, decide_false, Nat.reduceAdd, Nat.reduceLT, e0, e1, e2, e3, eqD_i], rfl, rfl⟩) (by omega)
  have f2 := mLc_map (fs := mIt (mVar 0)) (g := gNm 1) (f := mAndV (m1 (isiD "str") (m2 ixD (mVar 1) (mC (.int 1)))) (m2 (inD id) (m2 ixD (mVar 1) (mC (.int 1))) (mC (.tuple [(.str "word"), (.str "number")])))) (vs := [1]) (ρ := [.val (colsD cs), .un]) (ρ1 := [.val (colsD cs), .un]) cs colD (fun _ => .bool true) rfl rfl
    (fun c hc => ⟨[.val (colsD cs), .val (colD c)], rfl, by
      have e0 : ixD (colD c) (.int 1) = some (.str (kindS c.num)) := rfl
      have e1 : isiD "str" (.str (kindS c.num)) = some (.bool true) := rfl
      simp only [mSeq, mSet, mSetO, mSet2, mRet, mRetN, mDrop, mIfS, mIf, mB, mTru, mAnd, mOr, mNot, mAndV, mOrV, mNotV, mChain, mRaise, mNx, m1, m2, mN, mNL, mVar, mC, mNil, mCons, mLst, mTup, mDsp, mCall, mANil, mAv, mAr, mAb, hasR, hasB, toSl, VL.bs, back, mMut, heldR, setR, peekR, mLenP, mLenO, mRd, mItA, mIt, mAsg, gNm, gTp, gSeq, mYes, mSl, mPs, mPn, mKn, ok_bind, Oc.bind, Oc.opt, lenD_l, lenD_t, tupD, truD, isi_str_str, isi_str_tup, isi_str_int, isi_str_non, isi_str_lst, isi_tup_tup, isi_tup_lst, isi_tup_str, isi_tup_int, isi_tup_non, isi_lst_lst, isi_lst_tup, isi_int_int, isi_int_str, isi_int_non, isi_bool_int, isi_int_tup, isi_bool_tup, isi_bool_str, isi_bool_non, isi_lst_str, isi_lst_int, isi_lst_non, isD, isntD, isNoneD, addD_i, subD_i, seqD, appendD, List.replicate, List.append_nil, List.cons_append, List.nil_append, List.getElem?_cons_zero, List.getElem?_cons_succ, List.set_cons_zero, List.set_cons_succ, List.length_cons, List.length_nil, List.nodup_nil, List.nodup_cons, List.not_mem_nil, not_false_eq_true, and_self, Option.map, if_true, if_false, Bool.false_eq_true, Bool.not_true, Bool.not_false, Bool.and_true, Bool.true_and, Bool.false_and, Bool.and_false, finR, Sl.fin, wipeR, restR, List.getD_cons_zero, List.getD_cons_succ, decide_true, decide_false, Nat.reduceAdd, Nat.reduceLT, e0, e1, kind_in], rfl, rfl⟩) (by omega)
  have f3 := mLc_map (fs := mIt (mVar 0)) (g := gNm 1) (f := m2 ixD (mVar 1) (mC (.int 0))) (vs := [1]) (ρ := [.val (colsD cs), .un]) (ρ1 := [.val (colsD cs), .un]) cs colD (fun c => .str c.n) rfl rfl
    (fun c hc => ⟨[.val (colsD cs), .val (colD c)], rfl, rfl, rfl, rfl⟩) (by omega)
  have e4 := allD_map cs (fun _ => true) (fun _ _ => rfl)
  have e5 := lenSet_strs nd (by simp; omega)
  rw [List.map_map, List.length_map] at e5
  have e6 : lenD [colsD cs] = some (.int (cs.length : Nat)) := by show some (PyData.int ((cs.map colD).length : Nat)) = _; rw [List.length_map]
  have e7 : isiD "tuple" (colsD cs) = some (.bool true) := rfl
  have e8 : leD (.int 1) (.int (cs.length : Nat)) = some (.bool true) := leD_t (by omega)
  have e9 : leD (.int (cs.length : Nat)) (.int 6) = some (.bool true) := leD_t (by omega)
  have e5' : lenSetD (.list (cs.map fun c => .str c.n)) = some (.int (cs.length : Nat)) := e5
  unfold M_are_columns mFn
  simp only [mSeq, mSet, mSetO, mSet2, mRet, mRetN, mDrop, mIfS, mIf, mB, mTru, mAnd, mOr, mNot, mAndV, mOrV, mNotV, mChain, mRaise, mNx, m1, m2, mN, mNL, mVar, mC, mNil, mCons, mLst, mTup, mDsp, mCall, mANil, mAv, mAr, mAb, hasR, hasB, toSl, VL.bs, back, mMut, heldR, setR, peekR, mLenP, mLenO, mRd, mItA, mIt, mAsg, gNm, gTp, gSeq, mYes, mSl, mPs, mPn, mKn, ok_bind, Oc.bind, Oc.opt, lenD_l, lenD_t, tupD, truD, isi_str_str, isi_str_tup, isi_str_int, isi_str_non, isi_str_lst, isi_tup_tup, isi_tup_lst, isi_tup_str, isi_tup_int, isi_tup_non, isi_lst_lst, isi_lst_tup, isi_int_int, isi_int_str, isi_int_non, isi_bool_int, isi_int_tup, isi_bool_tup, isi_bool_str, isi_bool_non, isi_lst_str, isi_lst_int, isi_lst_non, isD, isntD, isNoneD, addD_i, subD_i, seqD, appendD, List.replicate, List.append_nil, List.cons_append, List.nil_append, List.getElem?_cons_zero, List.getElem?_cons_succ, List.set_cons_zero, List.set_cons_succ, List.length_cons, List.length_nil, List.nodup_nil, List.nodup_cons, List.not_mem_nil, not_false_eq_true, and_self, Option.map, if_true, if_false, Bool.false_eq_true, Bool.not_true, Bool.not_false, Bool.and_true, Bool.true_and, Bool.false_and, Bool.and_false, finR, Sl.fin, wipeR, restR, List.getD_cons_zero, List.getD_cons_succ, decide_true, decide_false, Nat.reduceAdd, Nat.reduceLT, mChain, f1, f2, f3, e4, e5', e6, e7, e8, e9, eqD_i]
  rfl
theorem look_columns_ok {cs : List Col} (h : ColsOk cs) : M_look_columns [.val (colsD cs)] = .ok .none [.un] := by
  unfold M_look_columns mFn
  simp only [mSeq, mSet, mSetO, mSet2, mRet, mRetN, mDrop, mIfS, mIf, mB, mTru, mAnd, mOr, mNot, mAndV, mOrV, mNotV, mChain, mRaise, mNx, m1, m2, mN, mNL, mVar, mC, mNil, mCons, mLst, mTup, mDsp, mCall, mANil, mAv, mAr, mAb, hasR, hasB, toSl, VL.bs, back, mMut, heldR, setR, peekR, mLenP, mLenO, mRd, mItA, mIt, mAsg, gNm, gTp, gSeq, mYes, mSl, mPs, mPn, mKn, ok_bind, Oc.bind, Oc.opt, lenD_l, lenD_t, tupD, truD, isi_str_str, isi_str_tup, isi_str_int, isi_str_non, isi_str_lst, isi_tup_tup, isi_tup_lst, isi_tup_str, isi_tup_int, isi_tup_non, isi_lst_lst, isi_lst_tup, isi_int_int, isi_int_str, isi_int_non, isi_bool_int, isi_int_tup, isi_bool_tup, isi_bool_str, isi_bool_non, isi_lst_str, isi_lst_int, isi_lst_non, isD, isntD, isNoneD, addD_i, subD_i, seqD, appendD, List.replicate, List.append_nil, List.cons_append, List.nil_append, List.getElem?_cons_zero, List.getElem?_cons_succ, List.set_cons_zero, List.set_cons_succ, List.length_cons, List.length_nil, List.nodup_nil, List.nodup_cons, List.not_mem_nil, not_false_eq_true, and_self, Option.map, if_true, if_false, Bool.false_eq_true, Bool.not_true, Bool.not_false, Bool.and_true, Bool.true_and, Bool.false_and, Bool.and_false, finR, Sl.fin, wipeR, restR, List.getD_cons_zero, List.getD_cons_succ, decide_true, decide_false, Nat.reduceAdd, Nat.reduceLT, are_columns_ok h]
  rfl
/-! ### values, rows -/
def ValOk (num : Bool) (d : PyData) : Prop := d = .none ∨ (num = true ∧ ∃ i, d = .int i ∧ -1000000 ≤ i ∧ i ≤ 1000000) ∨ (num = false ∧ ∃ z, d = .str z ∧ wordB z = true)
theorem ValOk.gd {num : Bool} {d : PyData} (h : ValOk num d) (n : Nat) : gdn n d = true := by
  rcases h with rfl | ⟨_, i, rfl, _⟩ | ⟨_, z, rfl, _⟩ <;> cases n <;> rfl
theorem is_whole_ok {i lo hi : Int} (h1 : lo ≤ i) (h2 : i ≤ hi) : M_is_whole [.val (.int i), .val (.int lo), .val (.int hi)] = .ok (.bool true) [.un, .un, .un] := by
  unfold M_is_whole mFn
  simp only [mSeq, mSet, mSetO, mSet2, mRet, mRetN, mDrop, mIfS, mIf, mB, mTru, mAnd, mOr, mNot, mAndV, mOrV, mNotV, mChain, mRaise, mNx, m1, m2, mN, mNL, mVar, mC, mNil, mCons, mLst, mTup, mDsp, mCall, mANil, mAv, mAr, mAb, hasR, hasB, toSl, VL.bs, back, mMut, heldR, setR, peekR, mLenP, mLenO, mRd, mItA, mIt, mAsg, gNm, gTp, gSeq, mYes, mSl, mPs, mPn, mKn, ok_bind, Oc.bind, Oc.opt, lenD_l, lenD_t, tupD, truD, isi_str_str, isi_str_tup, isi_str_int, isi_str_non, isi_str_lst, isi_tup_tup, isi_tup_lst, isi_tup_str, isi_tup_int, isi_tup_non, isi_lst_lst, isi_lst_tup, isi_int_int, isi_int_str, isi_int_non, isi_bool_int, isi_int_tup, isi_bool_tup, isi_bool_str, isi_bool_non, isi_lst_str, isi_lst_int, isi_lst_non, isD, isntD, isNoneD, addD_i, subD_i, seqD, appendD, List.replicate, List.append_nil, List.cons_append, List.nil_append, List.getElem?_cons_zero, List.getElem?_cons_succ, List.set_cons_zero, List.set_cons_succ, List.length_cons, List.length_nil, List.nodup_nil, List.nodup_cons, List.not_mem_nil, not_false_eq_true, and_self, Option.map, if_true, if_false, Bool.false_eq_true, Bool.not_true, Bool.not_false, Bool.and_true, Bool.true_and, Bool.false_and, Bool.and_false, finR, Sl.fin, wipeR, restR, List.getD_cons_zero, List.getD_cons_succ, decide_true, decide_false, Nat.reduceAdd, Nat.reduceLT, leD_t h1, leD_t h2]
  rfl
theorem kind_word (b : Bool) : decide (kindS b = Str.ofString "word") = !b := by cases b <;> decide +kernel
theorem is_value_ok {num : Bool} {d : PyData} (h : ValOk num d) : M_is_value [.val (.str (kindS num)), .val d] = .ok (.bool true) [.un, .un] := by
  rcases h with rfl | ⟨rfl, i, rfl, h1, h2⟩ | ⟨rfl, z, rfl, h⟩
  · unfold M_is_value mFn
    simp only [mSeq, mSet, mSetO, mSet2, mRet, mRetN, mDrop, mIfS, mIf, mB, mTru, mAnd, mOr, mNot, mAndV, mOrV, mNotV, mChain, mRaise, mNx, m1, m2, mN, mNL, mVar, mC, mNil, mCons, mLst, mTup, mDsp, mCall, mANil, mAv, mAr, mAb, hasR, hasB, toSl, VL.bs, back, mMut, heldR, setR, peekR, mLenP, mLenO, mRd, mItA, mIt, mAsg, gNm, gTp, gSeq, mYes, mSl, mPs, mPn, mKn, ok_bind, Oc.bind, Oc.opt, lenD_l, lenD_t, tupD, truD, isi_str_str, isi_str_tup, isi_str_int, isi_str_non, isi_str_lst, isi_tup_tup, isi_tup_lst, isi_tup_str, isi_tup_int, isi_tup_non, isi_lst_lst, isi_lst_tup, isi_int_int, isi_int_str, isi_int_non, isi_bool_int, isi_int_tup, isi_bool_tup, isi_bool_str, isi_bool_non, isi_lst_str, isi_lst_int, isi_lst_non, isD, isntD, isNoneD, addD_i, subD_i, seqD, appendD, List.replicate, List.append_nil, List.cons_append, List.nil_append, List.getElem?_cons_zero, List.getElem?_cons_succ, List.set_cons_zero, List.set_cons_succ, List.length_cons, List.length_nil, List.nodup_nil, List.nodup_cons, List.not_mem_nil, not_false_eq_true, and_self, Option.map, if_true, if_false, Bool.false_eq_true, Bool.not_true, Bool.not_false, Bool.and_true, Bool.true_and, Bool.false_and, Bool.and_false, finR, Sl.fin, wipeR, restR, List.getD_cons_zero, List.getD_cons_succ, decide_true, decide_false, Nat.reduceAdd, Nat.reduceLT]
    rfl
  · have e := is_whole_ok h1 h2
    unfold M_is_value mFn
    simp only [mSeq, mSet, mSetO, mSet2, mRet, mRetN, mDrop, mIfS, mIf, mB, mTru, mAnd, mOr, mNot, mAndV, mOrV, mNotV, mChain, mRaise, mNx, m1, m2, mN, mNL, mVar, mC, mNil, mCons, mLst, mTup, mDsp, mCall, mANil, mAv, mAr, mAb, hasR, hasB, toSl, VL.bs, back, mMut, heldR, setR, peekR, mLenP, mLenO, mRd, mItA, mIt, mAsg, gNm, gTp, gSeq, mYes, mSl, mPs, mPn, mKn, ok_bind, Oc.bind, Oc.opt, lenD_l, lenD_t, tupD, truD, isi_str_str, isi_str_tup, isi_str_int, isi_str_non, isi_str_lst, isi_tup_tup, isi_tup_lst, isi_tup_str, isi_tup_int, isi_tup_non, isi_lst_lst, isi_lst_tup, isi_int_int, isi_int_str, isi_int_non, isi_bool_int, isi_int_tup, isi_bool_tup, isi_bool_str, isi_bool_non, isi_lst_str, isi_lst_int, isi_lst_non, isD, isntD, isNoneD, addD_i, subD_i, seqD, appendD, List.replicate, List.append_nil, List.cons_append, List.nil_append, List.getElem?_cons_zero, List.getElem?_cons_succ, List.set_cons_zero, List.set_cons_succ, List.length_cons, List.length_nil, List.nodup_nil, List.nodup_cons, List.not_mem_nil, not_false_eq_true, and_self, Option.map, if_true, if_false, Bool.false_eq_true, Bool.not_true, Bool.not_false, Bool.and_true, Bool.true_and, Bool.false_and, Bool.and_false, finR, Sl.fin, wipeR, restR, List.getD_cons_zero, List.getD_cons_succ, decide_true, decide_false, Nat.reduceAdd, Nat.reduceLT, eqD_s, kind_word, Int.zero_sub, e]
    rfl
  · unfold M_is_value mFn
    simp only [mSeq, mSet, mSetO, mSet2, mRet, mRetN, mDrop, mIfS, mIf, mB, mTru, mAnd, mOr, mNot, mAndV, mOrV, mNotV, mChain, mRaise, mNx, m1, m2, mN, mNL, mVar, mC, mNil, mCons, mLst, mTup, mDsp, mCall, mANil, mAv, mAr, mAb, hasR, hasB, toSl, VL.bs, back, mMut, heldR, setR, peekR, mLenP, mLenO, mRd, mItA, mIt, mAsg, gNm, gTp, gSeq, mYes, mSl, mPs, mPn, mKn, ok_bind, Oc.bind, Oc.opt, lenD_l, lenD_t, tupD, truD, isi_str_str, isi_str_tup, isi_str_int, isi_str_non, isi_str_lst, isi_tup_tup, isi_tup_lst, isi_tup_str, isi_tup_int, isi_tup_non, isi_lst_lst, isi_lst_tup, isi_int_int, isi_int_str, isi_int_non, isi_bool_int, isi_int_tup, isi_bool_tup, isi_bool_str, isi_bool_non, isi_lst_str, isi_lst_int, isi_lst_non, isD, isntD, isNoneD, addD_i, subD_i, seqD, appendD, List.replicate, List.append_nil, List.cons_append, List.nil_append, List.getElem?_cons_zero, List.getElem?_cons_succ, List.set_cons_zero, List.set_cons_succ, List.length_cons, List.length_nil, List.nodup_nil, List.nodup_cons, List.not_mem_nil, not_false_eq_true, and_self, Option.map, if_true, if_false, Bool.false_eq_true, Bool.not_true, Bool.not_false, Bool.and_true, Bool.true_and, Bool.false_and, Bool.and_false, finR, Sl.fin, wipeR, restR, List.getD_cons_zero, List.getD_cons_succ, decide_true, decide_false, Nat.reduceAdd, Nat.reduceLT, eqD_s, kind_word, is_word_ok h]
    rfl
structure RowOk (cs : List Col) (r : List PyData) : Prop where
  len : r.length = cs.length
  val : ∀ (i : Nat) (c : Col) (d : PyData), cs[i]? = some c → r[i]? = some d → ValOk c.num d
theorem RowOk.gd {cs : List Col} {r : List PyData} (h : RowOk cs r) (n : Nat) : gdn (n + 1) (.tuple r) = true := by
  refine List.all_eq_true.mpr fun d hd => ?_
  obtain ⟨i, hi, e⟩ := List.getElem_of_mem hd
  have hc : i < cs.length := by have := h.len; omega
  exact (h.val i cs[i] d (List.getElem?_eq_getElem hc) (by rw [List.getElem?_eq_getElem hi, e])).gd n
theorem ix_cols {cs : List Col} {i : Nat} {c : Col} (h : cs[i]? = some c) : ixD (colsD cs) (.int (i : Int)) = some (colD c) := by
  show atI (cs.map colD) (i : Int) = _
  rw [atI_n, List.getElem?_map, h]
  rfl
theorem big6 {a b : Nat} (h : a = b) (hh : b ≤ 6) : a ≤ 16777216 := Nat.le_trans (Nat.le_of_eq h) (Nat.le_trans hh (by decide))
theorem look_row_1 {cs : List Col} {r : List PyData} (hc : ColsOk cs) (h : RowOk cs r) : mItA range1D (mCons (mN lenD (mCons (mVar 1) mNil)) mNil) [.val (colsD cs), .val (.tuple r), .un] = .ok ((List.range r.length).map fun i => .int ((i : Nat) : Int)) [.val (colsD cs), .val (.tuple r), .un] := by
  have hl := h.len
  have hh := hc.hi
  have e := range1_n r.length (big6 hl hh)
  simp only [mSeq, mSet, mSetO, mSet2, mRet, mRetN, mDrop, mIfS, mIf, mB, mTru, mAnd, mOr, mNot, mAndV, mOrV, mNotV, mChain, mRaise, mNx, m1, m2, mN, mNL, mVar, mC, mNil, mCons, mLst, mTup, mDsp, mCall, mANil, mAv, mAr, mAb, hasR, hasB, toSl, VL.bs, back, mMut, heldR, setR, peekR, mLenP, mLenO, mRd, mItA, mIt, mAsg, gNm, gTp, gSeq, mYes, mSl, mPs, mPn, mKn, ok_bind, Oc.bind, Oc.opt, lenD_l, lenD_t, tupD, truD, isi_str_str, isi_str_tup, isi_str_int, isi_str_non, isi_str_lst, isi_tup_tup, isi_tup_lst, isi_tup_str, isi_tup_int, isi_tup_non, isi_lst_lst, isi_lst_tup, isi_int_int, isi_int_str, isi_int_non, isi_bool_int, isi_int_tup, isi_bool_tup, isi_bool_str, isi_bool_non, isi_lst_str, isi_lst_int, isi_lst_non, isD, isntD, isNoneD, addD_i, subD_i, seqD, appendD, List.replicate, List.append_nil, List.cons_append, List.nil_append, List.getElem?_cons_zero, List.getElem?_cons_succ, List.set_cons_zero, List.set_cons_succ, List.length_cons, List.length_nil, List.nodup_nil, List.nodup_cons, List.not_mem_nil, not_false_eq_true, and_self, Option.map, if_true, if_false, Bool.false_eq_true, Bool.not_true, Bool.not_false, Bool.and_true, Bool.true_and, Bool.false_and, Bool.and_false, finR, Sl.fin, wipeR, restR, List.getD_cons_zero, List.getD_cons_succ, decide_true, decide_false, Nat.reduceAdd, Nat.reduceLT, e]
theorem look_row_2 {cs : List Col} {r : List PyData} (h : RowOk cs r) (i : Nat) (hi : i < r.length) : mCall M_is_value (mAv (m2 ixD (m2 ixD (mVar 0) (mVar 2)) (mC (.int 1))) (mAv (m2 ixD (mVar 1) (mVar 2)) mANil)) [.val (colsD cs), .val (.tuple r), .val (.int (i : Int))] = .ok (.bool true) [.val (colsD cs), .val (.tuple r), .val (.int (i : Int))] := by
  have hl := h.len
  have hcs : cs[i]? = some cs[i] := List.getElem?_eq_getElem (by omega)
  have hr : r[i]? = some r[i] := List.getElem?_eq_getElem hi
  have e0 := ix_cols hcs
  have e1 : ixD (.tuple r) (.int (i : Int)) = some r[i] := by show atI r (i : Int) = _; rw [atI_n, hr]
  have e2 : ixD (colD cs[i]) (.int 1) = some (.str (kindS cs[i].num)) := rfl
  have e3 := is_value_ok (h.val i _ _ hcs hr)
  simp only [mSeq, mSet, mSetO, mSet2, mRet, mRetN, mDrop, mIfS, mIf, mB, mTru, mAnd, mOr, mNot, mAndV, mOrV, mNotV, mChain, mRaise, mNx, m1, m2, mN, mNL, mVar, mC, mNil, mCons, mLst, mTup, mDsp, mCall, mANil, mAv, mAr, mAb, hasR, hasB, toSl, VL.bs, back, mMut, heldR, setR, peekR, mLenP, mLenO, mRd, mItA, mIt, mAsg, gNm, gTp, gSeq, mYes, mSl, mPs, mPn, mKn, ok_bind, Oc.bind, Oc.opt, lenD_l, lenD_t, tupD, truD, isi_str_str, isi_str_tup, isi_str_int, isi_str_non, isi_str_lst, isi_tup_tup, isi_tup_lst, isi_tup_str, isi_tup_int, isi_tup_non, isi_lst_lst, isi_lst_tup, isi_int_int, isi_int_str, isi_int_non, isi_bool_int, isi_int_tup, isi_bool_tup, isi_bool_str, isi_bool_non, isi_lst_str, isi_lst_int, isi_lst_non, isD, isntD, isNoneD, addD_i, subD_i, seqD, appendD, List.replicate, List.append_nil, List.cons_append, List.nil_append, List.getElem?_cons_zero, List.getElem?_cons_succ, List.set_cons_zero, List.set_cons_succ, List.length_cons, List.length_nil, List.nodup_nil, List.nodup_cons, List.not_mem_nil, not_false_eq_true, and_self, Option.map, if_true, if_false, Bool.false_eq_true, Bool.not_true, Bool.not_false, Bool.and_true, Bool.true_and, Bool.false_and, Bool.and_false, finR, Sl.fin, wipeR, restR, List.getD_cons_zero, List.getD_cons_succ, decide_true, decide_false, Nat.reduceAdd, Nat.reduceLT, e0, e1, e2, e3]
theorem look_row_3 {cs : List Col} {r : List PyData} (hc : ColsOk cs) (h : RowOk cs r) : mLc (mItA range1D (mCons (mN lenD (mCons (mVar 1) mNil)) mNil)) (gNm 2) mYes (mCall M_is_value (mAv (m2 ixD (m2 ixD (mVar 0) (mVar 2)) (mC (.int 1))) (mAv (m2 ixD (mVar 1) (mVar 2)) mANil))) [2] [.val (colsD cs), .val (.tuple r), .un] = .ok ((List.range r.length).map fun _ => .bool true) [.val (colsD cs), .val (.tuple r), .un] := by
  have hl := h.len
  have hh := hc.hi
  have f1 := mLc_map (ρ := [.val (colsD cs), .val (.tuple r), .un]) (ρ1 := [.val (colsD cs), .val (.tuple r), .un]) (g := gNm 2) (vs := [2]) (List.range r.length) (fun i => .int ((i : Nat) : Int)) (fun _ => .bool true) (look_row_1 hc h) rfl
    (fun i hi => ⟨[.val (colsD cs), .val (.tuple r), .val (.int (i : Int))], rfl, look_row_2 h i (List.mem_range.mp hi), rfl, rfl⟩) (by rw [List.length_range]; exact big6 hl hh)
  exact f1
theorem look_row_ok {cs : List Col} {r : List PyData} (hc : ColsOk cs) (h : RowOk cs r) : M_look_row [.val (colsD cs), .val (.tuple r)] = .ok .none [.un, .un] := by
  have hl := h.len
  have hh := hc.hi
  have f1 := look_row_3 hc h
  have e4 := allD_map (List.range r.length) (fun _ => true) (fun _ _ => rfl)
  have e6 : lenD [colsD cs] = some (.int (cs.length : Nat)) := by show some (PyData.int ((cs.map colD).length : Nat)) = _; rw [List.length_map]
  have e7 : neD (.int (r.length : Nat)) (.int (cs.length : Nat)) = some (.bool false) := by rw [neD_i, hl]; simp
  unfold M_look_row mFn
  simp only [mSeq, mSet, mSetO, mSet2, mRet, mRetN, mDrop, mIfS, mIf, mB, mTru, mAnd, mOr, mNot, mAndV, mOrV, mNotV, mChain, mRaise, mNx, m1, m2, mN, mNL, mVar, mC, mNil, mCons, mLst, mTup, mDsp, mCall, mANil, mAv, mAr, mAb, hasR, hasB, toSl, VL.bs, back, mMut, heldR, setR, peekR, mLenP, mLenO, mRd, mItA, mIt, mAsg, gNm, gTp, gSeq, mYes, mSl, mPs, mPn, mKn, ok_bind, Oc.bind, Oc.opt, lenD_l, lenD_t, tupD, truD, isi_str_str, isi_str_tup, isi_str_int, isi_str_non, isi_str_lst, isi_tup_tup, isi_tup_lst, isi_tup_str, isi_tup_int, isi_tup_non, isi_lst_lst, isi_lst_tup, isi_int_int, isi_int_str, isi_int_non, isi_bool_int, isi_int_tup, isi_bool_tup, isi_bool_str, isi_bool_non, isi_lst_str, isi_lst_int, isi_lst_non, isD, isntD, isNoneD, addD_i, subD_i, seqD, appendD, List.replicate, List.append_nil, List.cons_append, List.nil_append, List.getElem?_cons_zero, List.getElem?_cons_succ, List.set_cons_zero, List.set_cons_succ, List.length_cons, List.length_nil, List.nodup_nil, List.nodup_cons, List.not_mem_nil, not_false_eq_true, and_self, Option.map, if_true, if_false, Bool.false_eq_true, Bool.not_true, Bool.not_false, Bool.and_true, Bool.true_and, Bool.false_and, Bool.and_false, finR, Sl.fin, wipeR, restR, List.getD_cons_zero, List.getD_cons_succ, decide_true, decide_false, Nat.reduceAdd, Nat.reduceLT, f1, e4, e6, e7]
  rfl
/-! ### tables -/
def rowsD (rs : List (List PyData)) : PyData := .list (rs.map .tuple)
def tabD (cs : List Col) (rs : List (List PyData)) : PyData := .tuple [colsD cs, rowsD rs]
structure TabOk (cs : List Col) (rs : List (List PyData)) : Prop where
  cols : ColsOk cs
  few : rs.length ≤ 24
  rows : ∀ r ∈ rs, RowOk cs r
theorem look_table_ok {cs : List Col} {rs : List (List PyData)} (h : TabOk cs rs) : M_look_table [.val (tabD cs rs)] = .ok .none [.un] := by
  have e0 : ixD (tabD cs rs) (.int 0) = some (colsD cs) := rfl
  have e1 : ixD (tabD cs rs) (.int 1) = some (rowsD rs) := rfl
  have e2 : isiD "tuple" (tabD cs rs) = some (.bool true) := rfl
  have e3 : isiD "list" (rowsD rs) = some (.bool true) := rfl
  have e4 : lenD [tabD cs rs] = some (.int 2) := rfl
  have e5 : lenD [rowsD rs] = some (.int (rs.length : Nat)) := by show some (PyData.int ((rs.map PyData.tuple).length : Nat)) = _; rw [List.length_map]
  have e6 : gtD (.int (rs.length : Nat)) (.int 24) = some (.bool false) := gtD_f (by have := h.few; omega)
  have e7 : neD (.int 2) (.int 2) = some (.bool false) := by rw [neD_i]; rfl
  have e8 := look_columns_ok h.cols
  have e9 : mIt (m2 ixD (mVar 0) (mC (.int 1))) [.val (tabD cs rs), .un] = .ok (rs.map .tuple) [.val (tabD cs rs), .un] := rfl
  obtain ⟨fl, ρ, ef, rfl, s, hs, rfl⟩ := mFor_inv (fs := mIt (m2 ixD (mVar 0) (mC (.int 1)))) (g := gNm 1) (m := mDrop (mCall M_look_row (mAv (m2 ixD (mVar 0) (mC (.int 0))) (mAv (mVar 1) mANil)))) (P := fun fl ρ => fl = .nx ∧ ∃ s : Sl, s.fin = .un ∧ ρ = [.val (tabD cs rs), s])
    (fun _ ρ => ∃ s : Sl, s.fin = .un ∧ ρ = [.val (tabD cs rs), s]) (rs.map .tuple) e9 ⟨.un, rfl, rfl⟩
    (fun i d ρ hd ⟨s, _, e⟩ => by
      subst e
      rw [List.getElem?_map] at hd
      obtain ⟨r, hr, rfl⟩ := Option.map_eq_some_iff.mp hd
      have e := look_row_ok h.cols (h.rows r (List.mem_of_getElem? hr))
      refine ⟨[.val (tabD cs rs), .val (.tuple r)], rfl, .nx, [.val (tabD cs rs), .val (.tuple r)], ?_, _, rfl, rfl⟩
      simp only [mSeq, mSet, mSetO, mSet2, mRet, mRetN, mDrop, mIfS, mIf, mB, mTru, mAnd, mOr, mNot, mAndV, mOrV, mNotV, mChain, mRaise, mNx, m1, m2, mN, mNL, mVar, mC, mNil, mCons, mLst, mTup, mDsp, mCall, mANil, mAv, mAr, mAb, hasR, hasB, toSl, VL.bs, back, mMut, heldR, setR, peekR, mLenP, mLenO, mRd, mItA, mIt, mAsg, gNm, gTp, gSeq, mYes, mSl, mPs, mPn, mKn, ok_bind, Oc.bind, Oc.opt, lenD_l, lenD_t, tupD, truD, isi_str_str, isi_str_tup, isi_str_int, isi_str_non, isi_str_lst, isi_tup_tup, isi_tup_lst, isi_tup_str, isi_tup_int, isi_tup_non, isi_lst_lst, isi_lst_tup, isi_int_int, isi_int_str, isi_int_non, isi_bool_int, isi_int_tup, isi_bool_tup, isi_bool_str, isi_bool_non, isi_lst_str, isi_lst_int, isi_lst_non, isD, isntD, isNoneD, addD_i, subD_i, seqD, appendD, List.replicate, List.append_nil, List.cons_append, List.nil_append, List.getElem?_cons_zero, List.getElem?_cons_succ, List.set_cons_zero, List.set_cons_succ, List.length_cons, List.length_nil, List.nodup_nil, List.nodup_cons, List.not_mem_nil, not_false_eq_true, and_self, Option.map, if_true, if_false, Bool.false_eq_true, Bool.not_true, Bool.not_false, Bool.and_true, Bool.true_and, Bool.false_and, Bool.and_false, finR, Sl.fin, wipeR, restR, List.getD_cons_zero, List.getD_cons_succ, decide_true, decide_false, Nat.reduceAdd, Nat.reduceLT, e0, e]) (fun ρ h => ⟨rfl, h⟩)
  unfold M_look_table mFn
  simp only [mSeq, mSet, mSetO, mSet2, mRet, mRetN, mDrop, mIfS, mIf, mB, mTru, mAnd, mOr, mNot, mAndV, mOrV, mNotV, mChain, mRaise, mNx, m1, m2, mN, mNL, mVar, mC, mNil, mCons, mLst, mTup, mDsp, mCall, mANil, mAv, mAr, mAb, hasR, hasB, toSl, VL.bs, back, mMut, heldR, setR, peekR, mLenP, mLenO, mRd, mItA, mIt, mAsg, gNm, gTp, gSeq, mYes, mSl, mPs, mPn, mKn, ok_bind, Oc.bind, Oc.opt, lenD_l, lenD_t, tupD, truD, isi_str_str, isi_str_tup, isi_str_int, isi_str_non, isi_str_lst, isi_tup_tup, isi_tup_lst, isi_tup_str, isi_tup_int, isi_tup_non, isi_lst_lst, isi_lst_tup, isi_int_int, isi_int_str, isi_int_non, isi_bool_int, isi_int_tup, isi_bool_tup, isi_bool_str, isi_bool_non, isi_lst_str, isi_lst_int, isi_lst_non, isD, isntD, isNoneD, addD_i, subD_i, seqD, appendD, List.replicate, List.append_nil, List.cons_append, List.nil_append, List.getElem?_cons_zero, List.getElem?_cons_succ, List.set_cons_zero, List.set_cons_succ, List.length_cons, List.length_nil, List.nodup_nil, List.nodup_cons, List.not_mem_nil, not_false_eq_true, and_self, Option.map, if_true, if_false, Bool.false_eq_true, Bool.not_true, Bool.not_false, Bool.and_true, Bool.true_and, Bool.false_and, Bool.and_false, finR, Sl.fin, wipeR, restR, List.getD_cons_zero, List.getD_cons_succ, decide_true, decide_false, Nat.reduceAdd, Nat.reduceLT, e0, e1, e2, e3, e4, e5, e6, e7, e8, ef, hs]
  rfl
end VL

set_option Elab.async false
set_option linter.all false
set_option maxRecDepth 100000
set_option maxHeartbeats 4000000
/-! VM3: what the laws draw: words, values, rows, columns, tables. -/
namespace VL
open PySem L2
theorem draw_ex (ns : List Int) (k : Nat) (m : Int) (hk : k < 1000000) (hm : 0 < m) : ∃ i : Nat, (i : Int) < m ∧ L_draw [.scr ns, .bor (town k), .val (.int m)] = .ok (.int (i : Int)) [.un, .bor (town (k + 1)), .un] := by
  obtain ⟨a, b⟩ := draw_in ns ((k : Int) + 1) hm
  refine ⟨(drawI ns ((k : Int) + 1) m).toNat, by omega, ?_⟩
  rw [draw_ok ns k m hk hm, Int.toNat_of_nonneg a]
/-! ### words -/
theorem joinL_nil : ∀ cs : List Nat, TL.joinL [] (cs.map fun c => [c]) = cs
  | [] => rfl
  | [c] => rfl
  | c :: d :: cs => by
    have := joinL_nil (d :: cs)
    show [c] ++ ([] ++ TL.joinL [] ((d :: cs).map fun c => [c])) = _
    rw [this]
    rfl
theorem strs_signs : ∀ cs : List Nat, strsD (cs.map fun c => .str ⟨#[c]⟩) = some (cs.map fun c => SX.S [c])
  | [] => rfl
  | c :: cs => by
    show (strsD (cs.map fun c => .str ⟨#[c]⟩)).map _ = _
    rw [strs_signs cs]
    rfl
theorem empty_str : Str.ofString "" = SX.S [] := by decide +kernel
theorem join_signs {cs : List Nat} (h : cs.length ≤ 1000) : joinD (Str.ofString "") (.list (cs.map fun c => .str ⟨#[c]⟩)) = some (.str (SX.S cs)) := by
  show (match strsD (cs.map fun c => .str ⟨#[c]⟩) with | some ys => _ | none => _) = _
  rw [strs_signs]
  have e1 : (cs.map fun c => SX.S [c]) = (cs.map fun c => [c]).map SX.S := by rw [List.map_map]; rfl
  have e2 : Txt.join (Str.ofString "") (cs.map fun c => SX.S [c]) = SX.S cs := by rw [e1, empty_str, SX.join_S, joinL_nil]
  have e3 : ((cs.map fun c => SX.S [c]).map (·.length)).sum = cs.length := by
    rw [List.map_map]
    clear e1 e2 h
    induction cs with
    | nil => rfl
    | cons c cs ih =>
      simp only [List.map_cons, List.sum_cons, ih, List.length_cons]
      show 1 + _ = _
      omega
  show (if decide (((cs.map fun c => SX.S [c]).map (·.length)).sum + (cs.map fun c => SX.S [c]).length * (Str.ofString "").length ≤ 16777216) then _ else _) = _
  rw [e2, if_pos]
  rw [e3, List.length_map, empty_str]
  refine decide_eq_true ?_
  show cs.length + cs.length * 0 ≤ _
  omega
theorem word_S {cs : List Nat} (h1 : 1 ≤ cs.length) (h2 : cs.length ≤ 8) (h : ∀ c ∈ cs, c ∈ smallC) : wordB (SX.S cs) = true := by
  unfold wordB
  have e : (SX.S cs).length = cs.length := SX.S_len cs
  rw [e, decide_eq_true h1, decide_eq_true h2]
  simp only [Bool.true_and, List.all_eq_true]
  intro c hc
  exact List.contains_iff_mem.mpr (h c hc)
theorem ix_small {i : Nat} (h : i < 26) : ixD (.str (Str.ofString "abcdefghijklmnopqrstuvwxyz")) (.int (i : Int)) = some (.str ⟨#[smallC[i]'h]⟩) := by
  rw [small_str]
  show (atI smallC (i : Int)).map (fun c => PyData.str ⟨#[c]⟩) = _
  rw [atI_n, List.getElem?_eq_getElem (show i < smallC.length from h)]
  rfl
def wordsD : List PyData := [.str "a", .str "ab", .str "abc", .str "b", .str "ba", .str "count", .str "band"]
theorem words_ok : ∀ d ∈ wordsD, ∃ z, d = .str z ∧ wordB z = true := by
  intro d hd
  simp only [wordsD, List.mem_cons, List.not_mem_nil, or_false] at hd
  rcases hd with rfl | rfl | rfl | rfl | rfl | rfl | rfl <;> exact ⟨_, rfl, by decide +kernel⟩
theorem word_ok (ns : List Int) (k : Nat) (hk : k + 10 ≤ 1000000) : ∃ z k', wordB z = true ∧ k ≤ k' ∧ k' ≤ k + 10 ∧ L_word [.scr ns, .bor (town k)] = .ok (.str z) [.un, .bor (town k')] := by
  obtain ⟨i, hi, e1⟩ := draw_ex ns k 8 (by omega) (by decide)
  by_cases h : (0 : Int) < i
  · obtain ⟨j, d, hj, e2⟩ := pick_ok ns (k + 1) wordsD (by omega) (by simp [wordsD])
    obtain ⟨z, rfl, hz⟩ := words_ok d (List.mem_of_getElem? hj)
    refine ⟨z, k + 2, hz, by omega, by omega, ?_⟩
    have e3 : fits 7 = true := rfl
    unfold wordsD at e2
    unfold L_word mFn
    simp only [mSeq, mSet, mSetO, mSet2, mRet, mRetN, mDrop, mIfS, mIf, mB, mTru, mAnd, mOr, mNot, mAndV, mOrV, mNotV, mChain, mRaise, mNx, m1, m2, mN, mNL, mVar, mC, mNil, mCons, mLst, mTup, mDsp, mCall, mANil, mAv, mAr, mAb, hasR, hasB, toSl, VL.bs, back, mMut, heldR, setR, peekR, mLenP, mLenO, mRd, mItA, mIt, mAsg, gNm, gTp, gSeq, mYes, mSl, mPs, mPn, mKn, ok_bind, Oc.bind, Oc.opt, lenD_l, lenD_t, tupD, truD, isi_str_str, isi_str_tup, isi_str_int, isi_str_non, isi_str_lst, isi_tup_tup, isi_tup_lst, isi_tup_str, isi_tup_int, isi_tup_non, isi_lst_lst, isi_lst_tup, isi_int_int, isi_int_str, isi_int_non, isi_bool_int, isi_int_tup, isi_bool_tup, isi_bool_str, isi_bool_non, isi_lst_str, isi_lst_int, isi_lst_non, isD, isntD, isNoneD, addD_i, subD_i, seqD, appendD, List.replicate, List.append_nil, List.cons_append, List.nil_append, List.getElem?_cons_zero, List.getElem?_cons_succ, List.set_cons_zero, List.set_cons_succ, List.length_cons, List.length_nil, List.nodup_nil, List.nodup_cons, List.not_mem_nil, not_false_eq_true, and_self, Option.map, if_true, if_false, Bool.false_eq_true, Bool.not_true, Bool.not_false, Bool.and_true, Bool.true_and, Bool.false_and, Bool.and_false, finR, Sl.fin, wipeR, restR, List.getD_cons_zero, List.getD_cons_succ, decide_true, decide_false, Nat.reduceAdd, Nat.reduceLT, e1, gtD_t h, e2, e3]
    rfl
  · obtain ⟨j, hj, e2⟩ := draw_ex ns (k + 1) 8 (by omega) (by decide)
    have hr : range1D [.int (1 + (j : Int))] = some ((List.range (1 + j)).map fun i => .int ((i : Nat) : Int)) := by
      have := range1_n (1 + j) (by omega)
      rwa [show ((1 + j : Nat) : Int) = 1 + (j : Int) by omega] at this
    let A : Sl := .val (.str (Str.ofString "abcdefghijklmnopqrstuvwxyz"))
    obtain ⟨acc, ρ, ef, k', h1, h2, rfl, cs, rfl, h3, h4⟩ := mLc_invY (fs := mItA range1D (mCons (m2 addD (mC (.int 1)) (mCall L_draw (mAr 0 (mAb 1 (mAv (mC (.int 8)) mANil))))) mNil)) (g := gNm 3) (f := m2 ixD (mVar 2) (mCall L_draw (mAr 0 (mAb 1 (mAv (mC (.int 26)) mANil))))) (vs := [3])
      (ρ := [.scr ns, .bor (town (k + 1)), A, .un]) (ρ1 := [.scr ns, .bor (town (k + 2)), A, .un])
      (P := fun acc ρ => ∃ k', k + 2 ≤ k' ∧ k' ≤ k + 2 + (1 + j) ∧ ρ = [.scr ns, .bor (town k'), A, .un] ∧ ∃ cs : List Nat, acc = cs.map (fun c => .str ⟨#[c]⟩) ∧ cs.length = 1 + j ∧ ∀ c ∈ cs, c ∈ smallC)
      (fun i acc ρ => ∃ k', k + 2 ≤ k' ∧ k' ≤ k + 2 + i ∧ ρ = [.scr ns, .bor (town k'), A, .un] ∧ ∃ cs : List Nat, acc = cs.map (fun c => .str ⟨#[c]⟩) ∧ cs.length = i ∧ ∀ c ∈ cs, c ∈ smallC)
      ((List.range (1 + j)).map fun i => .int ((i : Nat) : Int)) (by simp only [mSeq, mSet, mSetO, mSet2, mRet, mRetN, mDrop, mIfS, mIf, mB, mTru, mAnd, mOr, mNot, mAndV, mOrV, mNotV, mChain, mRaise, mNx, m1, m2, mN, mNL, mVar, mC, mNil, mCons, mLst, mTup, mDsp, mCall, mANil, mAv, mAr, mAb, hasR, hasB, toSl, VL.bs, back, mMut, heldR, setR, peekR, mLenP, mLenO, mRd, mItA, mIt, mAsg, gNm, gTp, gSeq, mYes, mSl, mPs, mPn, mKn, ok_bind, Oc.bind, Oc.opt, lenD_l, lenD_t, tupD, truD, isi_str_str, isi_str_tup, isi_str_int, isi_str_non, isi_str_lst, isi_tup_tup, isi_tup_lst, isi_tup_str, isi_tup_int, isi_tup_non, isi_lst_lst, isi_lst_tup, isi_int_int, isi_int_str, isi_int_non, isi_bool_int, isi_int_tup, isi_bool_tup, isi_bool_str, isi_bool_non, isi_lst_str, isi_lst_int, isi_lst_non, isD, isntD, isNoneD, addD_i, subD_i, seqD, appendD, List.replicate, List.append_nil, List.cons_append, List.nil_append, List.getElem?_cons_zero, List.getElem?_cons_succ, List.set_cons_zero, List.set_cons_succ, List.length_cons, List.length_nil, List.nodup_nil, List.nodup_cons, List.not_mem_nil, not_false_eq_true, and_self, Option.map, if_true, if_false, Bool.false_eq_true, Bool.not_true, Bool.not_false, Bool.and_true, Bool.true_and, Bool.false_and, Bool.and_false, finR, Sl.fin, wipeR, restR, List.getD_cons_zero, List.getD_cons_succ, decide_true, decide_false, Nat.reduceAdd, Nat.reduceLT, e2, hr]) (by simp; omega) rfl
      ⟨k + 2, by omega, by omega, rfl, [], rfl, rfl, by simp⟩
      (by
        rintro i d ρ acc hd hl ⟨k', h1, h2, rfl, cs, rfl, h3, h4⟩
        have hi : i < 1 + j := by
          have := (List.getElem?_eq_some_iff.mp hd).1
          simpa using this
        obtain ⟨q, hq, e4⟩ := draw_ex ns k' 26 (by omega) (by decide)
        have hq' : q < 26 := by omega
        have e5 := ix_small hq'
        refine ⟨[.scr ns, .bor (town k'), A, .val d], rfl, .str ⟨#[smallC[q]'hq']⟩, [.scr ns, .bor (town (k' + 1)), A, .val d], ?_, rfl, k' + 1, by omega, by omega, rfl, cs ++ [smallC[q]'hq'], by simp, by simp [h3], ?_⟩
        · show m2 ixD _ _ [_, _, .val (.str (Str.ofString "abcdefghijklmnopqrstuvwxyz")), _] = _
          simp only [mSeq, mSet, mSetO, mSet2, mRet, mRetN, mDrop, mIfS, mIf, mB, mTru, mAnd, mOr, mNot, mAndV, mOrV, mNotV, mChain, mRaise, mNx, m1, m2, mN, mNL, mVar, mC, mNil, mCons, mLst, mTup, mDsp, mCall, mANil, mAv, mAr, mAb, hasR, hasB, toSl, VL.bs, back, mMut, heldR, setR, peekR, mLenP, mLenO, mRd, mItA, mIt, mAsg, gNm, gTp, gSeq, mYes, mSl, mPs, mPn, mKn, ok_bind, Oc.bind, Oc.opt, lenD_l, lenD_t, tupD, truD, isi_str_str, isi_str_tup, isi_str_int, isi_str_non, isi_str_lst, isi_tup_tup, isi_tup_lst, isi_tup_str, isi_tup_int, isi_tup_non, isi_lst_lst, isi_lst_tup, isi_int_int, isi_int_str, isi_int_non, isi_bool_int, isi_int_tup, isi_bool_tup, isi_bool_str, isi_bool_non, isi_lst_str, isi_lst_int, isi_lst_non, isD, isntD, isNoneD, addD_i, subD_i, seqD, appendD, List.replicate, List.append_nil, List.cons_append, List.nil_append, List.getElem?_cons_zero, List.getElem?_cons_succ, List.set_cons_zero, List.set_cons_succ, List.length_cons, List.length_nil, List.nodup_nil, List.nodup_cons, List.not_mem_nil, not_false_eq_true, and_self, Option.map, if_true, if_false, Bool.false_eq_true, Bool.not_true, Bool.not_false, Bool.and_true, Bool.true_and, Bool.false_and, Bool.and_false, finR, Sl.fin, wipeR, restR, List.getD_cons_zero, List.getD_cons_succ, decide_true, decide_false, Nat.reduceAdd, Nat.reduceLT, e4, e5]
          rfl
        · intro c hc
          rcases List.mem_append.mp hc with hc | hc
          · exact h4 c hc
          · rw [List.mem_singleton.mp hc]; exact List.getElem_mem _)
      (by
        rintro acc ρ ⟨k', h1, h2, rfl, cs, rfl, h3, h4⟩
        simp only [List.length_map, List.length_range] at h2 h3
        exact ⟨k', h1, h2, rfl, cs, rfl, h3, h4⟩)
    refine ⟨SX.S cs, k', word_S (by omega) (by omega) h4, by omega, by omega, ?_⟩
    have e6 := join_signs (cs := cs) (by omega)
    have e7 : mLc _ _ _ _ _ [Sl.scr ns, .bor (town (k + 1)), .val (.str (Str.ofString "abcdefghijklmnopqrstuvwxyz")), .un] = _ := ef
    unfold L_word mFn
    simp only [mSeq, mSet, mSetO, mSet2, mRet, mRetN, mDrop, mIfS, mIf, mB, mTru, mAnd, mOr, mNot, mAndV, mOrV, mNotV, mChain, mRaise, mNx, m1, m2, mN, mNL, mVar, mC, mNil, mCons, mLst, mTup, mDsp, mCall, mANil, mAv, mAr, mAb, hasR, hasB, toSl, VL.bs, back, mMut, heldR, setR, peekR, mLenP, mLenO, mRd, mItA, mIt, mAsg, gNm, gTp, gSeq, mYes, mSl, mPs, mPn, mKn, ok_bind, Oc.bind, Oc.opt, lenD_l, lenD_t, tupD, truD, isi_str_str, isi_str_tup, isi_str_int, isi_str_non, isi_str_lst, isi_tup_tup, isi_tup_lst, isi_tup_str, isi_tup_int, isi_tup_non, isi_lst_lst, isi_lst_tup, isi_int_int, isi_int_str, isi_int_non, isi_bool_int, isi_int_tup, isi_bool_tup, isi_bool_str, isi_bool_non, isi_lst_str, isi_lst_int, isi_lst_non, isD, isntD, isNoneD, addD_i, subD_i, seqD, appendD, List.replicate, List.append_nil, List.cons_append, List.nil_append, List.getElem?_cons_zero, List.getElem?_cons_succ, List.set_cons_zero, List.set_cons_succ, List.length_cons, List.length_nil, List.nodup_nil, List.nodup_cons, List.not_mem_nil, not_false_eq_true, and_self, Option.map, if_true, if_false, Bool.false_eq_true, Bool.not_true, Bool.not_false, Bool.and_true, Bool.true_and, Bool.false_and, Bool.and_false, finR, Sl.fin, wipeR, restR, List.getD_cons_zero, List.getD_cons_succ, decide_true, decide_false, Nat.reduceAdd, Nat.reduceLT, mStr1, e1, gtD_f h, e7, e6]
    rfl
/-! ### values -/
theorem value_ok (ns : List Int) (k : Nat) (num : Bool) (hk : k + 12 ≤ 1000000) : ∃ d k', ValOk num d ∧ k ≤ k' ∧ k' ≤ k + 12 ∧ L_value [.scr ns, .bor (town k), .val (.str (kindS num))] = .ok d [.un, .bor (town k'), .un] := by
  obtain ⟨i, hi, e1⟩ := draw_ex ns k 6 (by omega) (by decide)
  by_cases h : (i : Int) = 0
  · refine ⟨.none, k + 1, .inl rfl, by omega, by omega, ?_⟩
    have e2 : eqD (.int (i : Int)) (.int 0) = some (.bool true) := by rw [eqD_i, decide_eq_true h]
    unfold L_value mFn
    simp only [mSeq, mSet, mSetO, mSet2, mRet, mRetN, mDrop, mIfS, mIf, mB, mTru, mAnd, mOr, mNot, mAndV, mOrV, mNotV, mChain, mRaise, mNx, m1, m2, mN, mNL, mVar, mC, mNil, mCons, mLst, mTup, mDsp, mCall, mANil, mAv, mAr, mAb, hasR, hasB, toSl, VL.bs, back, mMut, heldR, setR, peekR, mLenP, mLenO, mRd, mItA, mIt, mAsg, gNm, gTp, gSeq, mYes, mSl, mPs, mPn, mKn, ok_bind, Oc.bind, Oc.opt, lenD_l, lenD_t, tupD, truD, isi_str_str, isi_str_tup, isi_str_int, isi_str_non, isi_str_lst, isi_tup_tup, isi_tup_lst, isi_tup_str, isi_tup_int, isi_tup_non, isi_lst_lst, isi_lst_tup, isi_int_int, isi_int_str, isi_int_non, isi_bool_int, isi_int_tup, isi_bool_tup, isi_bool_str, isi_bool_non, isi_lst_str, isi_lst_int, isi_lst_non, isD, isntD, isNoneD, addD_i, subD_i, seqD, appendD, List.replicate, List.append_nil, List.cons_append, List.nil_append, List.getElem?_cons_zero, List.getElem?_cons_succ, List.set_cons_zero, List.set_cons_succ, List.length_cons, List.length_nil, List.nodup_nil, List.nodup_cons, List.not_mem_nil, not_false_eq_true, and_self, Option.map, if_true, if_false, Bool.false_eq_true, Bool.not_true, Bool.not_false, Bool.and_true, Bool.true_and, Bool.false_and, Bool.and_false, finR, Sl.fin, wipeR, restR, List.getD_cons_zero, List.getD_cons_succ, decide_true, decide_false, Nat.reduceAdd, Nat.reduceLT, e1, e2]
    rfl
  · have e2 : eqD (.int (i : Int)) (.int 0) = some (.bool false) := by rw [eqD_i, decide_eq_false h]
    cases num with
    | false =>
      obtain ⟨z, k', hz, h1, h2, e3⟩ := word_ok ns (k + 1) (by omega)
      refine ⟨.str z, k', .inr (.inr ⟨rfl, z, rfl, hz⟩), by omega, by omega, ?_⟩
      unfold L_value mFn
      simp only [mSeq, mSet, mSetO, mSet2, mRet, mRetN, mDrop, mIfS, mIf, mB, mTru, mAnd, mOr, mNot, mAndV, mOrV, mNotV, mChain, mRaise, mNx, m1, m2, mN, mNL, mVar, mC, mNil, mCons, mLst, mTup, mDsp, mCall, mANil, mAv, mAr, mAb, hasR, hasB, toSl, VL.bs, back, mMut, heldR, setR, peekR, mLenP, mLenO, mRd, mItA, mIt, mAsg, gNm, gTp, gSeq, mYes, mSl, mPs, mPn, mKn, ok_bind, Oc.bind, Oc.opt, lenD_l, lenD_t, tupD, truD, isi_str_str, isi_str_tup, isi_str_int, isi_str_non, isi_str_lst, isi_tup_tup, isi_tup_lst, isi_tup_str, isi_tup_int, isi_tup_non, isi_lst_lst, isi_lst_tup, isi_int_int, isi_int_str, isi_int_non, isi_bool_int, isi_int_tup, isi_bool_tup, isi_bool_str, isi_bool_non, isi_lst_str, isi_lst_int, isi_lst_non, isD, isntD, isNoneD, addD_i, subD_i, seqD, appendD, List.replicate, List.append_nil, List.cons_append, List.nil_append, List.getElem?_cons_zero, List.getElem?_cons_succ, List.set_cons_zero, List.set_cons_succ, List.length_cons, List.length_nil, List.nodup_nil, List.nodup_cons, List.not_mem_nil, not_false_eq_true, and_self, Option.map, if_true, if_false, Bool.false_eq_true, Bool.not_true, Bool.not_false, Bool.and_true, Bool.true_and, Bool.false_and, Bool.and_false, finR, Sl.fin, wipeR, restR, List.getD_cons_zero, List.getD_cons_succ, decide_true, decide_false, Nat.reduceAdd, Nat.reduceLT, e1, e2, eqD_s, kind_word, e3]
      rfl
    | true =>
      obtain ⟨j, hj, e3⟩ := draw_ex ns (k + 1) 100 (by omega) (by decide)
      obtain ⟨q, d, hq, e4⟩ := pick_ok ns (k + 2) [.int 0, .int 1, .int 1, .int 2, .int 7, .int (0 - 1), .int (0 - 7), .int 1000000, .int (0 - 1000000), .int ((j : Int) - 50)] (by omega) (by simp)
      refine ⟨d, k + 3, ?_, by omega, by omega, ?_⟩
      · have hd := List.mem_of_getElem? hq
        simp only [List.mem_cons, List.not_mem_nil, or_false] at hd
        rcases hd with rfl | rfl | rfl | rfl | rfl | rfl | rfl | rfl | rfl | rfl <;> exact .inr (.inl ⟨rfl, _, rfl, by omega, by omega⟩)
      · have e5 : fits 10 = true := rfl
        unfold L_value mFn
        simp only [mSeq, mSet, mSetO, mSet2, mRet, mRetN, mDrop, mIfS, mIf, mB, mTru, mAnd, mOr, mNot, mAndV, mOrV, mNotV, mChain, mRaise, mNx, m1, m2, mN, mNL, mVar, mC, mNil, mCons, mLst, mTup, mDsp, mCall, mANil, mAv, mAr, mAb, hasR, hasB, toSl, VL.bs, back, mMut, heldR, setR, peekR, mLenP, mLenO, mRd, mItA, mIt, mAsg, gNm, gTp, gSeq, mYes, mSl, mPs, mPn, mKn, ok_bind, Oc.bind, Oc.opt, lenD_l, lenD_t, tupD, truD, isi_str_str, isi_str_tup, isi_str_int, isi_str_non, isi_str_lst, isi_tup_tup, isi_tup_lst, isi_tup_str, isi_tup_int, isi_tup_non, isi_lst_lst, isi_lst_tup, isi_int_int, isi_int_str, isi_int_non, isi_bool_int, isi_int_tup, isi_bool_tup, isi_bool_str, isi_bool_non, isi_lst_str, isi_lst_int, isi_lst_non, isD, isntD, isNoneD, addD_i, subD_i, seqD, appendD, List.replicate, List.append_nil, List.cons_append, List.nil_append, List.getElem?_cons_zero, List.getElem?_cons_succ, List.set_cons_zero, List.set_cons_succ, List.length_cons, List.length_nil, List.nodup_nil, List.nodup_cons, List.not_mem_nil, not_false_eq_true, and_self, Option.map, if_true, if_false, Bool.false_eq_true, Bool.not_true, Bool.not_false, Bool.and_true, Bool.true_and, Bool.false_and, Bool.and_false, finR, Sl.fin, wipeR, restR, List.getD_cons_zero, List.getD_cons_succ, decide_true, decide_false, Nat.reduceAdd, Nat.reduceLT, e1, e2, eqD_s, kind_word, e3, e4, e5]
        rfl
/-! ### rows -/
theorem row_ok {cs : List Col} (hc : ColsOk cs) (ns : List Int) (k : Nat) (hk : k + 72 ≤ 1000000) : ∃ r k', RowOk cs r ∧ k ≤ k' ∧ k' ≤ k + 72 ∧ L_row [.scr ns, .bor (town k), .val (colsD cs)] = .ok (.tuple r) [.un, .bor (town k'), .un] := by
  have hh := hc.hi
  obtain ⟨acc, ρ, ef, k', h1, h2, rfl, h3, h4⟩ := mLc_invY (fs := mIt (mVar 2)) (g := gTp [(gNm 3), (gNm 4)]) (f := mCall L_value (mAr 0 (mAb 1 (mAv (mVar 4) mANil)))) (vs := [3, 4])
    (ρ := [.scr ns, .bor (town k), .val (colsD cs), .un, .un]) (ρ1 := [.scr ns, .bor (town k), .val (colsD cs), .un, .un])
    (P := fun acc ρ => ∃ k', k ≤ k' ∧ k' ≤ k + 72 ∧ ρ = [.scr ns, .bor (town k'), .val (colsD cs), .un, .un] ∧ acc.length = cs.length ∧ ∀ (i : Nat) (c : Col) (d : PyData), cs[i]? = some c → acc[i]? = some d → ValOk c.num d)
    (fun i acc ρ => ∃ k', k ≤ k' ∧ k' ≤ k + 12 * i ∧ ρ = [.scr ns, .bor (town k'), .val (colsD cs), .un, .un] ∧ acc.length = i ∧ ∀ (i : Nat) (c : Col) (d : PyData), cs[i]? = some c → acc[i]? = some d → ValOk c.num d)
    (cs.map colD) rfl (by simp; omega) rfl ⟨k, by omega, by omega, rfl, rfl, by simp⟩
    (by
      rintro i d ρ acc hd hl ⟨k', h1, h2, rfl, h3, h4⟩
      rw [List.getElem?_map] at hd
      obtain ⟨c, hc, rfl⟩ := Option.map_eq_some_iff.mp hd
      have hi : i < cs.length := (List.getElem?_eq_some_iff.mp hc).1
      obtain ⟨d, k'', hv, h5, h6, e⟩ := value_ok ns k' c.num (by omega)
      refine ⟨[.scr ns, .bor (town k'), .val (colsD cs), .val (.str c.n), .val (.str (kindS c.num))], rfl, d, [.scr ns, .bor (town k''), .val (colsD cs), .val (.str c.n), .val (.str (kindS c.num))], ?_, rfl, k'', by omega, by omega, rfl, by simp [h3], ?_⟩
      · simp only [mSeq, mSet, mSetO, mSet2, mRet, mRetN, mDrop, mIfS, mIf, mB, mTru, mAnd, mOr, mNot, mAndV, mOrV, mNotV, mChain, mRaise, mNx, m1, m2, mN, mNL, mVar, mC, mNil, mCons, mLst, mTup, mDsp, mCall, mANil, mAv, mAr, mAb, hasR, hasB, toSl, VL.bs, back, mMut, heldR, setR, peekR, mLenP, mLenO, mRd, mItA, mIt, mAsg, gNm, gTp, gSeq, mYes, mSl, mPs, mPn, mKn, ok_bind, Oc.bind, Oc.opt, lenD_l, lenD_t, tupD, truD, isi_str_str, isi_str_tup, isi_str_int, isi_str_non, isi_str_lst, isi_tup_tup, isi_tup_lst, isi_tup_str, isi_tup_int, isi_tup_non, isi_lst_lst, isi_lst_tup, isi_int_int, isi_int_str, isi_int_non, isi_bool_int, isi_int_tup, isi_bool_tup, isi_bool_str, isi_bool_non, isi_lst_str, isi_lst_int, isi_lst_non, isD, isntD, isNoneD, addD_i, subD_i, seqD, appendD, List.replicate, List.append_nil, List.cons_append, List.nil_append, List.getElem?_cons_zero, List.getElem?_cons_succ, List.set_cons_zero, List.set_cons_succ, List.length_cons, List.length_nil, List.nodup_nil, List.nodup_cons, List.not_mem_nil, not_false_eq_true, and_self, Option.map, if_true, if_false, Bool.false_eq_true, Bool.not_true, Bool.not_false, Bool.and_true, Bool.true_and, Bool.false_and, Bool.and_false, finR, Sl.fin, wipeR, restR, List.getD_cons_zero, List.getD_cons_succ, decide_true, decide_false, Nat.reduceAdd, Nat.reduceLT, e]
      · intro j c' d' hc' hd'
        by_cases hj : j < acc.length
        · rw [List.getElem?_append_left hj] at hd'
          exact h4 j c' d' hc' hd'
        · rw [List.getElem?_append_right (by omega)] at hd'
          have hz : j = i := by
            by_cases z : j - acc.length = 0
            · omega
            · rw [List.getElem?_eq_none (by simp; omega)] at hd'; cases hd'
          subst hz
          rw [hc] at hc'
          cases hc'
          simp [h3] at hd'
          subst hd'
          exact hv)
    (by
      rintro acc ρ ⟨k', h1, h2, rfl, h3, h4⟩
      simp only [List.length_map] at h2 h3
      exact ⟨k', h1, by omega, rfl, h3, h4⟩)
  refine ⟨acc, k', ⟨h3, h4⟩, h1, h2, ?_⟩
  unfold L_row mFn
  simp only [mSeq, mSet, mSetO, mSet2, mRet, mRetN, mDrop, mIfS, mIf, mB, mTru, mAnd, mOr, mNot, mAndV, mOrV, mNotV, mChain, mRaise, mNx, m1, m2, mN, mNL, mVar, mC, mNil, mCons, mLst, mTup, mDsp, mCall, mANil, mAv, mAr, mAb, hasR, hasB, toSl, VL.bs, back, mMut, heldR, setR, peekR, mLenP, mLenO, mRd, mItA, mIt, mAsg, gNm, gTp, gSeq, mYes, mSl, mPs, mPn, mKn, ok_bind, Oc.bind, Oc.opt, lenD_l, lenD_t, tupD, truD, isi_str_str, isi_str_tup, isi_str_int, isi_str_non, isi_str_lst, isi_tup_tup, isi_tup_lst, isi_tup_str, isi_tup_int, isi_tup_non, isi_lst_lst, isi_lst_tup, isi_int_int, isi_int_str, isi_int_non, isi_bool_int, isi_int_tup, isi_bool_tup, isi_bool_str, isi_bool_non, isi_lst_str, isi_lst_int, isi_lst_non, isD, isntD, isNoneD, addD_i, subD_i, seqD, appendD, List.replicate, List.append_nil, List.cons_append, List.nil_append, List.getElem?_cons_zero, List.getElem?_cons_succ, List.set_cons_zero, List.set_cons_succ, List.length_cons, List.length_nil, List.nodup_nil, List.nodup_cons, List.not_mem_nil, not_false_eq_true, and_self, Option.map, if_true, if_false, Bool.false_eq_true, Bool.not_true, Bool.not_false, Bool.and_true, Bool.true_and, Bool.false_and, Bool.and_false, finR, Sl.fin, wipeR, restR, List.getD_cons_zero, List.getD_cons_succ, decide_true, decide_false, Nat.reduceAdd, Nat.reduceLT, ef]
  rfl
end VL

set_option Elab.async false
set_option linter.all false
set_option maxRecDepth 100000
set_option maxHeartbeats 4000000
/-! VM4: what the laws draw: columns, tables, two tables. -/
namespace VL
open PySem L2
theorem cutD_lo (ds : List PyData) (t : Nat) : cutD ds (some (t : Int)) none = ds.drop t := by
  unfold cutD
  rw [HT.sIx_nat, HT.sIx_none]
  by_cases h : t ≤ ds.length
  · rw [Nat.min_eq_left h, List.take_of_length_le (by rw [List.length_drop]; omega)]
  · rw [Nat.min_eq_right (by omega), List.drop_length, List.drop_eq_nil_of_le (by omega)]
    simp
theorem cutD_hi (ds : List PyData) (t : Nat) : cutD ds none (some (t : Int)) = ds.take t := by
  unfold cutD
  rw [HT.sIx_nat, HT.sIx_none]
  simp only [List.drop_zero, Nat.sub_zero]
  by_cases h : t ≤ ds.length
  · rw [Nat.min_eq_left h]
  · rw [Nat.min_eq_right (by omega), List.take_of_length_le (by omega), List.take_of_length_le (by omega)]
theorem slD_lo (ds : List PyData) (t : Nat) : slD (.list ds) (some (t : Int)) none = some (.list (ds.drop t)) := by
  show some (PyData.list (cutD ds _ _)) = _
  rw [cutD_lo]
theorem slD_hi (ds : List PyData) (t : Nat) : slD (.list ds) none (some (t : Int)) = some (.list (ds.take t)) := by
  show some (PyData.list (cutD ds _ _)) = _
  rw [cutD_hi]
theorem addD_l {a b : List PyData} (h : a.length + b.length ≤ 16777216) : addD (.list a) (.list b) = some (.list (a ++ b)) := by
  show (if fits (a.length + b.length) = true then some (PyData.list (a ++ b)) else none) = _
  rw [if_pos (show fits (a.length + b.length) = true from decide_eq_true h)]
def rot {α : Type} (xs : List α) (t : Nat) : List α := xs.drop t ++ xs.take t
theorem rot_perm {α : Type} (xs : List α) (t : Nat) : (rot xs t).Perm xs := by
  refine List.perm_append_comm.trans ?_
  rw [List.take_append_drop]
theorem rot_map {α β : Type} (f : α → β) (xs : List α) (t : Nat) : (xs.map f).drop t ++ (xs.map f).take t = (rot xs t).map f := by
  unfold rot
  rw [List.map_append, List.map_drop, List.map_take]
theorem rot_len {α : Type} (xs : List α) (t : Nat) : (rot xs t).length = xs.length := (rot_perm xs t).length_eq
def names0 : List Str := [Str.ofString "w", Str.ofString "n", Str.ofString "word", Str.ofString "size", Str.ofString "of", Str.ofString "abcdefgh"]
theorem names0_nd : names0.Nodup := by decide +kernel
theorem names0_wd : ∀ z ∈ names0, wordB z = true := by decide +kernel
def colAt (N : List Str) (K : List Bool) (i : Nat) : Col := ⟨N.getD i ⟨#[]⟩, K.getD i false⟩
theorem ix_list {α : Type} {f : α → PyData} {xs : List α} {i : Nat} {x : α} (h : xs[i]? = some x) : ixD (.list (xs.map f)) (.int (i : Int)) = some (f x) := by
  show atI (xs.map f) (i : Int) = _
  rw [atI_n, List.getElem?_map, h]
  rfl
theorem names_take (N : List Str) (K : List Bool) : ∀ m, m ≤ N.length → ((List.range m).map (colAt N K)).map (·.n) = N.take m := by
  intro m hm
  apply List.ext_getElem?
  intro i
  rw [List.getElem?_map, List.getElem?_map]
  by_cases h : i < m
  · rw [List.getElem?_range h, List.getElem?_take_of_lt h, List.getElem?_eq_getElem (by omega)]
    show some (N.getD i _) = _
    rw [List.getD_eq_getElem?_getD, List.getElem?_eq_getElem (by omega)]
    rfl
  · rw [List.getElem?_eq_none (by simp; omega), List.getElem?_eq_none (by simp; omega)]
    rfl
theorem cols_rot {N : List Str} {K : List Bool} {m t : Nat} (h1 : 1 ≤ m) (h2 : m ≤ 6) (hN : N.Perm names0) : ColsOk (rot ((List.range m).map (colAt N K)) t) := by
  have hl : N.length = 6 := hN.length_eq
  have hp := rot_perm ((List.range m).map (colAt N K)) t
  have e := names_take N K m (by omega)
  refine ⟨?_, ?_, ?_, ?_⟩
  · rw [rot_len]; simp; omega
  · rw [rot_len]; simp; omega
  · rw [(hp.map (·.n)).nodup_iff, e]
    exact List.Nodup.sublist (List.take_sublist m N) (hN.nodup_iff.mpr names0_nd)
  · intro c hc
    have z : c.n ∈ ((List.range m).map (colAt N K)).map (·.n) := List.mem_map_of_mem (hp.mem_iff.mp hc)
    rw [e] at z
    exact names0_wd _ (hN.mem_iff.mp (List.mem_of_mem_take z))
def kD (b : Bool) : PyData := .str (kindS b)
theorem picks_ok (ns : List Int) (k : Nat) (x : Sl) (y : Sl) (hk : k + 4 ≤ 1000000) : Ev (mLc (mItA range1D (mCons (mC (.int 4)) mNil)) (gNm 5) mYes (mCall L_pick (mAr 0 (mAb 1 (mAv (mLst (mDsp (mCons (mC (.str "word")) (mCons (mC (.str "number")) mNil)))) mANil)))) [5] [.scr ns, .bor (town k), x, y, .un, .un, .un])
    fun acc ρ => ∃ (bs : List Bool) (k' : Nat), acc = bs.map kD ∧ bs.length = 4 ∧ k ≤ k' ∧ k' ≤ k + 4 ∧ ρ = [.scr ns, .bor (town k'), x, y, .un, .un, .un] := by
  have hr := range1_n 4 (by decide)
  refine mLc_invY (ρ1 := [.scr ns, .bor (town k), x, y, .un, .un, .un])
    (fun i acc ρ => ∃ (bs : List Bool) (k' : Nat), acc = bs.map kD ∧ bs.length = i ∧ k ≤ k' ∧ k' ≤ k + i ∧ ρ = [.scr ns, .bor (town k'), x, y, .un, .un, .un])
    ((List.range 4).map fun i => .int ((i : Nat) : Int)) ?_ (by simp) rfl ⟨[], k, rfl, rfl, by omega, by omega, rfl⟩ ?_ ?_
  · simp only [mSeq, mSet, mSetO, mSet2, mRet, mRetN, mDrop, mIfS, mIf, mB, mTru, mAnd, mOr, mNot, mAndV, mOrV, mNotV, mChain, mRaise, mNx, m1, m2, mN, mNL, mVar, mC, mNil, mCons, mLst, mTup, mDsp, mCall, mANil, mAv, mAr, mAb, hasR, hasB, toSl, VL.bs, back, mMut, heldR, setR, peekR, mLenP, mLenO, mRd, mItA, mIt, mAsg, gNm, gTp, gSeq, mYes, mSl, mPs, mPn, mKn, ok_bind, Oc.bind, Oc.opt, lenD_l, lenD_t, tupD, truD, isi_str_str, isi_str_tup, isi_str_int, isi_str_non, isi_str_lst, isi_tup_tup, isi_tup_lst, isi_tup_str, isi_tup_int, isi_tup_non, isi_lst_lst, isi_lst_tup, isi_int_int, isi_int_str, isi_int_non, isi_bool_int, isi_int_tup, isi_bool_tup, isi_bool_str, isi_bool_non, isi_lst_str, isi_lst_int, isi_lst_non, isD, isntD, isNoneD, addD_i, subD_i, seqD, appendD, List.replicate, List.append_nil, List.cons_append, List.nil_append, List.getElem?_cons_zero, List.getElem?_cons_succ, List.set_cons_zero, List.set_cons_succ, List.length_cons, List.length_nil, List.nodup_nil, List.nodup_cons, List.not_mem_nil, not_false_eq_true, and_self, Option.map, if_true, if_false, Bool.false_eq_true, Bool.not_true, Bool.not_false, Bool.and_true, Bool.true_and, Bool.false_and, Bool.and_false, finR, Sl.fin, wipeR, restR, List.getD_cons_zero, List.getD_cons_succ, decide_true, decide_false, Nat.reduceAdd, Nat.reduceLT]
    have e : range1D [.int 4] = some ((List.range 4).map fun i => .int ((i : Nat) : Int)) := hr
    simp only [mSeq, mSet, mSetO, mSet2, mRet, mRetN, mDrop, mIfS, mIf, mB, mTru, mAnd, mOr, mNot, mAndV, mOrV, mNotV, mChain, mRaise, mNx, m1, m2, mN, mNL, mVar, mC, mNil, mCons, mLst, mTup, mDsp, mCall, mANil, mAv, mAr, mAb, hasR, hasB, toSl, VL.bs, back, mMut, heldR, setR, peekR, mLenP, mLenO, mRd, mItA, mIt, mAsg, gNm, gTp, gSeq, mYes, mSl, mPs, mPn, mKn, ok_bind, Oc.bind, Oc.opt, lenD_l, lenD_t, tupD, truD, isi_str_str, isi_str_tup, isi_str_int, isi_str_non, isi_str_lst, isi_tup_tup, isi_tup_lst, isi_tup_str, isi_tup_int, isi_tup_non, isi_lst_lst, isi_lst_tup, isi_int_int, isi_int_str, isi_int_non, isi_bool_int, isi_int_tup, isi_bool_tup, isi_bool_str, isi_bool_non, isi_lst_str, isi_lst_int, isi_lst_non, isD, isntD, isNoneD, addD_i, subD_i, seqD, appendD, List.replicate, List.append_nil, List.cons_append, List.nil_append, List.getElem?_cons_zero, List.getElem?_cons_succ, List.set_cons_zero, List.set_cons_succ, List.length_cons, List.length_nil, List.nodup_nil, List.nodup_cons, List.not_mem_nil, not_false_eq_true, and_self, Option.map, if_true, if_false, Bool.false_eq_true, Bool.not_true, Bool.not_false, Bool.and_true, Bool.true_and, Bool.false_and, Bool.and_false, finR, Sl.fin, wipeR, restR, List.getD_cons_zero, List.getD_cons_succ, decide_true, decide_false, Nat.reduceAdd, Nat.reduceLT, e]
  · rintro i d ρ acc hd hl ⟨bs, k', rfl, h1, h2, h3, rfl⟩
    have hi : i < 4 := by
      have := (List.getElem?_eq_some_iff.mp hd).1
      simpa using this
    obtain ⟨j, w, hj, e⟩ := pick_ok ns k' [.str "word", .str "number"] (by omega) (by simp)
    have hw : ∃ b, w = kD b := by
      have := List.mem_of_getElem? hj
      simp only [List.mem_cons, List.not_mem_nil, or_false] at this
      rcases this with rfl | rfl
      · exact ⟨false, rfl⟩
      · exact ⟨true, rfl⟩
    obtain ⟨b, rfl⟩ := hw
    have e2 : fits 2 = true := rfl
    refine ⟨[.scr ns, .bor (town k'), x, y, .un, .val d, .un], rfl, kD b, [.scr ns, .bor (town (k' + 1)), x, y, .un, .val d, .un], ?_, rfl, bs ++ [b], k' + 1, by simp, by simp [h1], by omega, by omega, rfl⟩
    simp only [mSeq, mSet, mSetO, mSet2, mRet, mRetN, mDrop, mIfS, mIf, mB, mTru, mAnd, mOr, mNot, mAndV, mOrV, mNotV, mChain, mRaise, mNx, m1, m2, mN, mNL, mVar, mC, mNil, mCons, mLst, mTup, mDsp, mCall, mANil, mAv, mAr, mAb, hasR, hasB, toSl, VL.bs, back, mMut, heldR, setR, peekR, mLenP, mLenO, mRd, mItA, mIt, mAsg, gNm, gTp, gSeq, mYes, mSl, mPs, mPn, mKn, ok_bind, Oc.bind, Oc.opt, lenD_l, lenD_t, tupD, truD, isi_str_str, isi_str_tup, isi_str_int, isi_str_non, isi_str_lst, isi_tup_tup, isi_tup_lst, isi_tup_str, isi_tup_int, isi_tup_non, isi_lst_lst, isi_lst_tup, isi_int_int, isi_int_str, isi_int_non, isi_bool_int, isi_int_tup, isi_bool_tup, isi_bool_str, isi_bool_non, isi_lst_str, isi_lst_int, isi_lst_non, isD, isntD, isNoneD, addD_i, subD_i, seqD, appendD, List.replicate, List.append_nil, List.cons_append, List.nil_append, List.getElem?_cons_zero, List.getElem?_cons_succ, List.set_cons_zero, List.set_cons_succ, List.length_cons, List.length_nil, List.nodup_nil, List.nodup_cons, List.not_mem_nil, not_false_eq_true, and_self, Option.map, if_true, if_false, Bool.false_eq_true, Bool.not_true, Bool.not_false, Bool.and_true, Bool.true_and, Bool.false_and, Bool.and_false, finR, Sl.fin, wipeR, restR, List.getD_cons_zero, List.getD_cons_succ, decide_true, decide_false, Nat.reduceAdd, Nat.reduceLT, e, e2]
  · rintro acc ρ ⟨bs, k', rfl, h1, h2, h3, rfl⟩
    simp only [List.length_map, List.length_range] at h1 h3
    exact ⟨bs, k', rfl, h1, h2, h3, rfl⟩
/-- a number column is there -/
def HasNum (cs : List Col) : Prop := ∃ c ∈ cs, c.num = true
theorem columns_ok (ns : List Int) (k : Nat) (hk : k + 10 ≤ 1000000) : ∃ cs k', (ColsOk cs ∧ HasNum cs) ∧ k ≤ k' ∧ k' ≤ k + 10 ∧ L_columns [.scr ns, .bor (town k)] = .ok (colsD cs) [.un, .bor (town k')] := by
  obtain ⟨t, ht, e1⟩ := draw_ex ns k 6 (by omega) (by decide)
  have N0 : [PyData.str "w", .str "n", .str "word", .str "size", .str "of", .str "abcdefgh"] = names0.map .str := rfl
  have f6 : fits (names0.map PyData.str).length = true := rfl
  have f2 : fits 2 = true := rfl
  have a1 : addD (.list ((names0.map .str).drop t)) (.list ((names0.map .str).take t)) = some (.list ((rot names0 t).map .str)) := by
    have hz : ((names0.map PyData.str).drop t).length + ((names0.map PyData.str).take t).length ≤ 16777216 := by
      simp only [List.length_drop, List.length_take, List.length_map]
      have : names0.length = 6 := rfl
      omega
    rw [addD_l hz, rot_map]
  have s1 := slD_lo (names0.map .str) t
  have s2 := slD_hi (names0.map .str) t
  have hN := rot_perm names0 t
  generalize hrn : rot names0 t = N at *
  obtain ⟨acc, ρ, e2, bs, k1, rfl, hb, h1, h2, rfl⟩ := picks_ok ns (k + 1) (.val (.list (N.map .str))) (.val (.int (t : Int))) (by omega)
  have a2 : addD (.list [kD false, kD true]) (.list (bs.map kD)) = some (.list (([false, true] ++ bs).map kD)) := by
    rw [addD_l (by simp; omega), List.map_append]
    rfl
  have w1 : [PyData.str "word", .str "number"] = [kD false, kD true] := rfl
  have hK : ([false, true] ++ bs).length = 6 := by simp [hb]
  have hK1 : ([false, true] ++ bs).getD 1 false = true := rfl
  generalize [false, true] ++ bs = K at *
  obtain ⟨q, hq, e3⟩ := draw_ex ns k1 5 (by omega) (by decide)
  have hr : range1D [.int (2 + (q : Int))] = some ((List.range (2 + q)).map fun i => .int ((i : Nat) : Int)) := by
    have := range1_n (2 + q) (by omega)
    rwa [show ((2 + q : Nat) : Int) = 2 + (q : Int) by omega] at this
  have hNl : N.length = 6 := hN.length_eq
  have e4 := mLc_map (fs := mItA range1D (mCons (m2 addD (mC (.int 2)) (mCall L_draw (mAr 0 (mAb 1 (mAv (mC (.int 5)) mANil))))) mNil)) (g := gNm 5) (f := mTup (mCons (m2 ixD (mVar 2) (mVar 5)) (mCons (m2 ixD (mVar 4) (mVar 5)) mNil))) (vs := [5])
    (ρ := [.scr ns, .bor (town k1), .val (.list (N.map .str)), .val (.int (t : Int)), .val (.list (K.map kD)), .un, .un]) (ρ1 := [.scr ns, .bor (town (k1 + 1)), .val (.list (N.map .str)), .val (.int (t : Int)), .val (.list (K.map kD)), .un, .un])
    (List.range (2 + q)) (fun i => .int ((i : Nat) : Int)) (fun i => colD (colAt N K i)) (by simp only [mSeq, mSet, mSetO, mSet2, mRet, mRetN, mDrop, mIfS, mIf, mB, mTru, mAnd, mOr, mNot, mAndV, mOrV, mNotV, mChain, mRaise, mNx, m1, m2, mN, mNL, mVar, mC, mNil, mCons, mLst, mTup, mDsp, mCall, mANil, mAv, mAr, mAb, hasR, hasB, toSl, VL.bs, back, mMut, heldR, setR, peekR, mLenP, mLenO, mRd, mItA, mIt, mAsg, gNm, gTp, gSeq, mYes, mSl, mPs, mPn, mKn, ok_bind, Oc.bind, Oc.opt, lenD_l, lenD_t, tupD, truD, isi_str_str, isi_str_tup, isi_str_int, isi_str_non, isi_str_lst, isi_tup_tup, isi_tup_lst, isi_tup_str, isi_tup_int, isi_tup_non, isi_lst_lst, isi_lst_tup, isi_int_int, isi_int_str, isi_int_non, isi_bool_int, isi_int_tup, isi_bool_tup, isi_bool_str, isi_bool_non, isi_lst_str, isi_lst_int, isi_lst_non, isD, isntD, isNoneD, addD_i, subD_i, seqD, appendD, List.replicate, List.append_nil, List.cons_append, List.nil_append, List.getElem?_cons_zero, List.getElem?_cons_succ, List.set_cons_zero, List.set_cons_succ, List.length_cons, List.length_nil, List.nodup_nil, List.nodup_cons, List.not_mem_nil, not_false_eq_true, and_self, Option.map, if_true, if_false, Bool.false_eq_true, Bool.not_true, Bool.not_false, Bool.and_true, Bool.true_and, Bool.false_and, Bool.and_false, finR, Sl.fin, wipeR, restR, List.getD_cons_zero, List.getD_cons_succ, decide_true, decide_false, Nat.reduceAdd, Nat.reduceLT, e3, hr]) rfl
    (fun i hi => ⟨[.scr ns, .bor (town (k1 + 1)), .val (.list (N.map .str)), .val (.int (t : Int)), .val (.list (K.map kD)), .val (.int (i : Int)), .un], rfl, by
      have hi := List.mem_range.mp hi
      have x1 := ix_list (f := PyData.str) (xs := N) (i := i) (List.getElem?_eq_getElem (by omega))
      have x2 := ix_list (f := kD) (xs := K) (i := i) (List.getElem?_eq_getElem (by omega))
      simp only [mSeq, mSet, mSetO, mSet2, mRet, mRetN, mDrop, mIfS, mIf, mB, mTru, mAnd, mOr, mNot, mAndV, mOrV, mNotV, mChain, mRaise, mNx, m1, m2, mN, mNL, mVar, mC, mNil, mCons, mLst, mTup, mDsp, mCall, mANil, mAv, mAr, mAb, hasR, hasB, toSl, VL.bs, back, mMut, heldR, setR, peekR, mLenP, mLenO, mRd, mItA, mIt, mAsg, gNm, gTp, gSeq, mYes, mSl, mPs, mPn, mKn, ok_bind, Oc.bind, Oc.opt, lenD_l, lenD_t, tupD, truD, isi_str_str, isi_str_tup, isi_str_int, isi_str_non, isi_str_lst, isi_tup_tup, isi_tup_lst, isi_tup_str, isi_tup_int, isi_tup_non, isi_lst_lst, isi_lst_tup, isi_int_int, isi_int_str, isi_int_non, isi_bool_int, isi_int_tup, isi_bool_tup, isi_bool_str, isi_bool_non, isi_lst_str, isi_lst_int, isi_lst_non, isD, isntD, isNoneD, addD_i, subD_i, seqD, appendD, List.replicate, List.append_nil, List.cons_append, List.nil_append, List.getElem?_cons_zero, List.getElem?_cons_succ, List.set_cons_zero, List.set_cons_succ, List.length_cons, List.length_nil, List.nodup_nil, List.nodup_cons, List.not_mem_nil, not_false_eq_true, and_self, Option.map, if_true, if_false, Bool.false_eq_true, Bool.not_true, Bool.not_false, Bool.and_true, Bool.true_and, Bool.false_and, Bool.and_false, finR, Sl.fin, wipeR, restR, List.getD_cons_zero, List.getD_cons_succ, decide_true, decide_false, Nat.reduceAdd, Nat.reduceLT, x1, x2, f2]
      unfold colAt
      rw [List.getD_eq_getElem?_getD, List.getD_eq_getElem?_getD, List.getElem?_eq_getElem (by omega), List.getElem?_eq_getElem (by omega)]
      rfl, rfl, rfl⟩) (by rw [List.length_range]; omega)
  have e4' : (List.range (2 + q)).map (fun i => colD (colAt N K i)) = ((List.range (2 + q)).map (colAt N K)).map colD := by rw [List.map_map]; rfl
  rw [e4'] at e4
  have hcl : ((List.range (2 + q)).map (colAt N K)).length = 2 + q := by simp
  have hc := fun t => cols_rot (N := N) (K := K) (m := 2 + q) (t := t) (by omega) (by omega) (hrn ▸ hN)
  have hnu : ∀ t, HasNum (rot ((List.range (2 + q)).map (colAt N K)) t) := fun t => ⟨colAt N K 1, (rot_perm _ t).mem_iff.mpr (List.mem_map_of_mem (List.mem_range.mpr (by omega))), hK1⟩
  generalize (List.range (2 + q)).map (colAt N K) = cs at *
  obtain ⟨p, hp, e5⟩ := draw_ex ns (k1 + 1) ((cs.map colD).length : Nat) (by omega) (by rw [List.length_map]; omega)
  have a3 : addD (.list ((cs.map colD).drop p)) (.list ((cs.map colD).take p)) = some (.list ((rot cs p).map colD)) := by
    rw [addD_l (by simp; omega), rot_map]
  refine ⟨rot cs p, k1 + 2, ⟨hc p, hnu p⟩, by omega, by omega, ?_⟩
  unfold L_columns mFn
  simp only [mSeq, mSet, mSetO, mSet2, mRet, mRetN, mDrop, mIfS, mIf, mB, mTru, mAnd, mOr, mNot, mAndV, mOrV, mNotV, mChain, mRaise, mNx, m1, m2, mN, mNL, mVar, mC, mNil, mCons, mLst, mTup, mDsp, mCall, mANil, mAv, mAr, mAb, hasR, hasB, toSl, VL.bs, back, mMut, heldR, setR, peekR, mLenP, mLenO, mRd, mItA, mIt, mAsg, gNm, gTp, gSeq, mYes, mSl, mPs, mPn, mKn, ok_bind, Oc.bind, Oc.opt, lenD_l, lenD_t, tupD, truD, isi_str_str, isi_str_tup, isi_str_int, isi_str_non, isi_str_lst, isi_tup_tup, isi_tup_lst, isi_tup_str, isi_tup_int, isi_tup_non, isi_lst_lst, isi_lst_tup, isi_int_int, isi_int_str, isi_int_non, isi_bool_int, isi_int_tup, isi_bool_tup, isi_bool_str, isi_bool_non, isi_lst_str, isi_lst_int, isi_lst_non, isD, isntD, isNoneD, addD_i, subD_i, seqD, appendD, List.replicate, List.append_nil, List.cons_append, List.nil_append, List.getElem?_cons_zero, List.getElem?_cons_succ, List.set_cons_zero, List.set_cons_succ, List.length_cons, List.length_nil, List.nodup_nil, List.nodup_cons, List.not_mem_nil, not_false_eq_true, and_self, Option.map, if_true, if_false, Bool.false_eq_true, Bool.not_true, Bool.not_false, Bool.and_true, Bool.true_and, Bool.false_and, Bool.and_false, finR, Sl.fin, wipeR, restR, List.getD_cons_zero, List.getD_cons_succ, decide_true, decide_false, Nat.reduceAdd, Nat.reduceLT, e1, N0, f6, s1, s2, a1, f2, e2, w1, a2, e4, e5, slD_lo, slD_hi, a3]
  rfl
theorem rows_gen {cs : List Col} {fs : ML} {g : MG} {f : ME} {vs : List Nat} {ρ ρ1 : R} (St : Nat → R) (k m : Nat) (h1 : fs ρ = .ok ((List.range m).map fun i => .int ((i : Nat) : Int)) ρ1) (hw : wipeOk ρ1 vs = true) (h0 : wipeR ρ1 vs = St k) (hm : m ≤ 30) (hk : k + 72 * m ≤ 1000000)
    (step : ∀ (k' : Nat) (d : PyData), k' + 72 ≤ 1000000 → ∃ ρ1, g d (St k') = some ρ1 ∧ ∃ r k'' ρ3, RowOk cs r ∧ k' ≤ k'' ∧ k'' ≤ k' + 72 ∧ f ρ1 = .ok (.tuple r) ρ3 ∧ wipeOk ρ3 vs = true ∧ wipeR ρ3 vs = St k'') :
    Ev (mLc fs g mYes f vs ρ) fun acc ρ2 => ∃ (rs : List (List PyData)) (k' : Nat), acc = rs.map .tuple ∧ rs.length = m ∧ (∀ r ∈ rs, RowOk cs r) ∧ k ≤ k' ∧ k' ≤ k + 72 * m ∧ ρ2 = restR ρ1 (St k') vs := by
  refine mLc_invY (fun i acc ρ => ∃ (rs : List (List PyData)) (k' : Nat), acc = rs.map .tuple ∧ rs.length = i ∧ (∀ r ∈ rs, RowOk cs r) ∧ k ≤ k' ∧ k' ≤ k + 72 * i ∧ ρ = St k') _ h1 (by simp; omega) hw ⟨[], k, rfl, rfl, by simp, by omega, by omega, h0⟩ ?_ ?_
  · rintro i d ρ acc hd hl ⟨rs, k', rfl, h2, h3, h4, h5, rfl⟩
    have hi : i < m := by
      have := (List.getElem?_eq_some_iff.mp hd).1
      simpa using this
    obtain ⟨ρ1, e1, r, k'', ρ3, hr, h6, h7, e2, h8, h9⟩ := step k' d (by omega)
    refine ⟨ρ1, e1, _, ρ3, e2, h8, rs ++ [r], k'', by simp, by simp [h2], ?_, by omega, by omega, h9⟩
    intro x hx
    rcases List.mem_append.mp hx with hx | hx
    · exact h3 x hx
    · rw [List.mem_singleton.mp hx]; exact hr
  · rintro acc ρ ⟨rs, k', rfl, h2, h3, h4, h5, rfl⟩
    simp only [List.length_map, List.length_range] at h2 h5
    exact ⟨rs, k', rfl, h2, h3, h4, h5, rfl⟩
theorem table_ok (ns : List Int) (k most : Nat) (hm : most ≤ 24) (hk : k + 2000 ≤ 1000000) : ∃ cs rs k', (ColsOk cs ∧ HasNum cs) ∧ rs.length ≤ most ∧ (∀ r ∈ rs, RowOk cs r) ∧ k ≤ k' ∧ k' ≤ k + 2000 ∧ L_table [.scr ns, .bor (town k), .val (.int (most : Int))] = .ok (tabD cs rs) [.un, .bor (town k'), .un] := by
  obtain ⟨cs, k1, ⟨hc, hnu⟩, h1, h2, e1⟩ := columns_ok ns k (by omega)
  obtain ⟨m, hm', e2⟩ := draw_ex ns k1 ((most : Int) + 1) (by omega) (by omega)
  have hr := range1_n m (by omega)
  obtain ⟨acc, ρ, e3, rs, k', rfl, h3, h4, h5, h6, rfl⟩ := rows_gen (cs := cs) (fs := mItA range1D (mCons (mCall L_draw (mAr 0 (mAb 1 (mAv (m2 addD (mVar 2) (mC (.int 1))) mANil)))) mNil)) (g := gNm 5) (f := mCall L_row (mAr 0 (mAb 1 (mAv (mVar 3) mANil)))) (vs := [5])
    (ρ := [.scr ns, .bor (town k1), .val (.int (most : Int)), .val (colsD cs), .un, .un]) (ρ1 := [.scr ns, .bor (town (k1 + 1)), .val (.int (most : Int)), .val (colsD cs), .un, .un]) (fun k => [.scr ns, .bor (town k), .val (.int (most : Int)), .val (colsD cs), .un, .un]) (k1 + 1) m (by simp only [mSeq, mSet, mSetO, mSet2, mRet, mRetN, mDrop, mIfS, mIf, mB, mTru, mAnd, mOr, mNot, mAndV, mOrV, mNotV, mChain, mRaise, mNx, m1, m2, mN, mNL, mVar, mC, mNil, mCons, mLst, mTup, mDsp, mCall, mANil, mAv, mAr, mAb, hasR, hasB, toSl, VL.bs, back, mMut, heldR, setR, peekR, mLenP, mLenO, mRd, mItA, mIt, mAsg, gNm, gTp, gSeq, mYes, mSl, mPs, mPn, mKn, ok_bind, Oc.bind, Oc.opt, lenD_l, lenD_t, tupD, truD, isi_str_str, isi_str_tup, isi_str_int, isi_str_non, isi_str_lst, isi_tup_tup, isi_tup_lst, isi_tup_str, isi_tup_int, isi_tup_non, isi_lst_lst, isi_lst_tup, isi_int_int, isi_int_str, isi_int_non, isi_bool_int, isi_int_tup, isi_bool_tup, isi_bool_str, isi_bool_non, isi_lst_str, isi_lst_int, isi_lst_non, isD, isntD, isNoneD, addD_i, subD_i, seqD, appendD, List.replicate, List.append_nil, List.cons_append, List.nil_append, List.getElem?_cons_zero, List.getElem?_cons_succ, List.set_cons_zero, List.set_cons_succ, List.length_cons, List.length_nil, List.nodup_nil, List.nodup_cons, List.not_mem_nil, not_false_eq_true, and_self, Option.map, if_true, if_false, Bool.false_eq_true, Bool.not_true, Bool.not_false, Bool.and_true, Bool.true_and, Bool.false_and, Bool.and_false, finR, Sl.fin, wipeR, restR, List.getD_cons_zero, List.getD_cons_succ, decide_true, decide_false, Nat.reduceAdd, Nat.reduceLT, e2, hr]) rfl rfl (by omega) (by omega)
    (fun k' d hk' => by
      obtain ⟨r, k'', hr, h7, h8, e⟩ := row_ok hc ns k' hk'
      refine ⟨[.scr ns, .bor (town k'), .val (.int (most : Int)), .val (colsD cs), .un, .val d], rfl, r, k'', [.scr ns, .bor (town k''), .val (.int (most : Int)), .val (colsD cs), .un, .val d], hr, h7, h8, ?_, rfl, rfl⟩
      simp only [mSeq, mSet, mSetO, mSet2, mRet, mRetN, mDrop, mIfS, mIf, mB, mTru, mAnd, mOr, mNot, mAndV, mOrV, mNotV, mChain, mRaise, mNx, m1, m2, mN, mNL, mVar, mC, mNil, mCons, mLst, mTup, mDsp, mCall, mANil, mAv, mAr, mAb, hasR, hasB, toSl, VL.bs, back, mMut, heldR, setR, peekR, mLenP, mLenO, mRd, mItA, mIt, mAsg, gNm, gTp, gSeq, mYes, mSl, mPs, mPn, mKn, ok_bind, Oc.bind, Oc.opt, lenD_l, lenD_t, tupD, truD, isi_str_str, isi_str_tup, isi_str_int, isi_str_non, isi_str_lst, isi_tup_tup, isi_tup_lst, isi_tup_str, isi_tup_int, isi_tup_non, isi_lst_lst, isi_lst_tup, isi_int_int, isi_int_str, isi_int_non, isi_bool_int, isi_int_tup, isi_bool_tup, isi_bool_str, isi_bool_non, isi_lst_str, isi_lst_int, isi_lst_non, isD, isntD, isNoneD, addD_i, subD_i, seqD, appendD, List.replicate, List.append_nil, List.cons_append, List.nil_append, List.getElem?_cons_zero, List.getElem?_cons_succ, List.set_cons_zero, List.set_cons_succ, List.length_cons, List.length_nil, List.nodup_nil, List.nodup_cons, List.not_mem_nil, not_false_eq_true, and_self, Option.map, if_true, if_false, Bool.false_eq_true, Bool.not_true, Bool.not_false, Bool.and_true, Bool.true_and, Bool.false_and, Bool.and_false, finR, Sl.fin, wipeR, restR, List.getD_cons_zero, List.getD_cons_succ, decide_true, decide_false, Nat.reduceAdd, Nat.reduceLT, e])
  refine ⟨cs, rs, k', ⟨hc, hnu⟩, by omega, h4, by omega, by omega, ?_⟩
  have f2 : fits 2 = true := rfl
  unfold L_table mFn
  simp only [mSeq, mSet, mSetO, mSet2, mRet, mRetN, mDrop, mIfS, mIf, mB, mTru, mAnd, mOr, mNot, mAndV, mOrV, mNotV, mChain, mRaise, mNx, m1, m2, mN, mNL, mVar, mC, mNil, mCons, mLst, mTup, mDsp, mCall, mANil, mAv, mAr, mAb, hasR, hasB, toSl, VL.bs, back, mMut, heldR, setR, peekR, mLenP, mLenO, mRd, mItA, mIt, mAsg, gNm, gTp, gSeq, mYes, mSl, mPs, mPn, mKn, ok_bind, Oc.bind, Oc.opt, lenD_l, lenD_t, tupD, truD, isi_str_str, isi_str_tup, isi_str_int, isi_str_non, isi_str_lst, isi_tup_tup, isi_tup_lst, isi_tup_str, isi_tup_int, isi_tup_non, isi_lst_lst, isi_lst_tup, isi_int_int, isi_int_str, isi_int_non, isi_bool_int, isi_int_tup, isi_bool_tup, isi_bool_str, isi_bool_non, isi_lst_str, isi_lst_int, isi_lst_non, isD, isntD, isNoneD, addD_i, subD_i, seqD, appendD, List.replicate, List.append_nil, List.cons_append, List.nil_append, List.getElem?_cons_zero, List.getElem?_cons_succ, List.set_cons_zero, List.set_cons_succ, List.length_cons, List.length_nil, List.nodup_nil, List.nodup_cons, List.not_mem_nil, not_false_eq_true, and_self, Option.map, if_true, if_false, Bool.false_eq_true, Bool.not_true, Bool.not_false, Bool.and_true, Bool.true_and, Bool.false_and, Bool.and_false, finR, Sl.fin, wipeR, restR, List.getD_cons_zero, List.getD_cons_succ, decide_true, decide_false, Nat.reduceAdd, Nat.reduceLT, e1, e3, f2]
  rfl
theorem two_ok (ns : List Int) (k most : Nat) (hm : most ≤ 18) (hk : k + 3000 ≤ 1000000) : ∃ cs rs ss k', ColsOk cs ∧ rs.length ≤ most ∧ ss.length ≤ most + 5 ∧ (∀ r ∈ rs, RowOk cs r) ∧ (∀ r ∈ ss, RowOk cs r) ∧ k ≤ k' ∧ k' ≤ k + 3000 ∧
    L_two [.scr ns, .bor (town k), .val (.int (most : Int))] = .ok (.tuple [tabD cs rs, tabD cs ss]) [.un, .bor (town k'), .un] := by
  obtain ⟨cs, rs, k1, ⟨hc, _⟩, hl, hrs, h1, h2, e1⟩ := table_ok ns k most (by omega) (by omega)
  obtain ⟨i, hi, e2⟩ := draw_ex ns k1 ((rs.length : Int) + 1) (by omega) (by omega)
  obtain ⟨j, hj, e3⟩ := draw_ex ns (k1 + 1) 3 (by omega) (by decide)
  obtain ⟨m, hm', e4⟩ := draw_ex ns (k1 + 2) 4 (by omega) (by decide)
  have hr := range1_n m (by omega)
  let so := rs.drop i ++ rs.take j
  have hso : so.length ≤ most + 2 := by simp [so]; omega
  have a1 : addD (.list ((rs.map .tuple).drop i)) (.list ((rs.map .tuple).take j)) = some (.list (so.map .tuple)) := by
    rw [addD_l (by simp; omega)]
    simp [so]
  obtain ⟨acc, ρ, e5, qs, k', rfl, h3, h4, h5, h6, rfl⟩ := rows_gen (cs := cs) (fs := mItA range1D (mCons (mCall L_draw (mAr 0 (mAb 1 (mAv (mC (.int 4)) mANil)))) mNil)) (g := gNm 8) (f := mCall L_row (mAr 0 (mAb 1 (mAv (mVar 4) mANil)))) (vs := [8])
    (ρ := [.scr ns, .bor (town (k1 + 2)), .val (.int (most : Int)), .val (tabD cs rs), .val (colsD cs), .val (rowsD rs), .val (.list (so.map .tuple)), .un, .un]) (ρ1 := [.scr ns, .bor (town (k1 + 3)), .val (.int (most : Int)), .val (tabD cs rs), .val (colsD cs), .val (rowsD rs), .val (.list (so.map .tuple)), .un, .un])
    (fun k => [.scr ns, .bor (town k), .val (.int (most : Int)), .val (tabD cs rs), .val (colsD cs), .val (rowsD rs), .val (.list (so.map .tuple)), .un, .un]) (k1 + 3) m (by simp only [mSeq, mSet, mSetO, mSet2, mRet, mRetN, mDrop, mIfS, mIf, mB, mTru, mAnd, mOr, mNot, mAndV, mOrV, mNotV, mChain, mRaise, mNx, m1, m2, mN, mNL, mVar, mC, mNil, mCons, mLst, mTup, mDsp, mCall, mANil, mAv, mAr, mAb, hasR, hasB, toSl, VL.bs, back, mMut, heldR, setR, peekR, mLenP, mLenO, mRd, mItA, mIt, mAsg, gNm, gTp, gSeq, mYes, mSl, mPs, mPn, mKn, ok_bind, Oc.bind, Oc.opt, lenD_l, lenD_t, tupD, truD, isi_str_str, isi_str_tup, isi_str_int, isi_str_non, isi_str_lst, isi_tup_tup, isi_tup_lst, isi_tup_str, isi_tup_int, isi_tup_non, isi_lst_lst, isi_lst_tup, isi_int_int, isi_int_str, isi_int_non, isi_bool_int, isi_int_tup, isi_bool_tup, isi_bool_str, isi_bool_non, isi_lst_str, isi_lst_int, isi_lst_non, isD, isntD, isNoneD, addD_i, subD_i, seqD, appendD, List.replicate, List.append_nil, List.cons_append, List.nil_append, List.getElem?_cons_zero, List.getElem?_cons_succ, List.set_cons_zero, List.set_cons_succ, List.length_cons, List.length_nil, List.nodup_nil, List.nodup_cons, List.not_mem_nil, not_false_eq_true, and_self, Option.map, if_true, if_false, Bool.false_eq_true, Bool.not_true, Bool.not_false, Bool.and_true, Bool.true_and, Bool.false_and, Bool.and_false, finR, Sl.fin, wipeR, restR, List.getD_cons_zero, List.getD_cons_succ, decide_true, decide_false, Nat.reduceAdd, Nat.reduceLT, e4, hr]) rfl rfl (by omega) (by omega)
    (fun k' d hk' => by
      obtain ⟨r, k'', hr, h7, h8, e⟩ := row_ok hc ns k' hk'
      refine ⟨[.scr ns, .bor (town k'), .val (.int (most : Int)), .val (tabD cs rs), .val (colsD cs), .val (rowsD rs), .val (.list (so.map .tuple)), .un, .val d], rfl, r, k'', [.scr ns, .bor (town k''), .val (.int (most : Int)), .val (tabD cs rs), .val (colsD cs), .val (rowsD rs), .val (.list (so.map .tuple)), .un, .val d], hr, h7, h8, ?_, rfl, rfl⟩
      simp only [mSeq, mSet, mSetO, mSet2, mRet, mRetN, mDrop, mIfS, mIf, mB, mTru, mAnd, mOr, mNot, mAndV, mOrV, mNotV, mChain, mRaise, mNx, m1, m2, mN, mNL, mVar, mC, mNil, mCons, mLst, mTup, mDsp, mCall, mANil, mAv, mAr, mAb, hasR, hasB, toSl, VL.bs, back, mMut, heldR, setR, peekR, mLenP, mLenO, mRd, mItA, mIt, mAsg, gNm, gTp, gSeq, mYes, mSl, mPs, mPn, mKn, ok_bind, Oc.bind, Oc.opt, lenD_l, lenD_t, tupD, truD, isi_str_str, isi_str_tup, isi_str_int, isi_str_non, isi_str_lst, isi_tup_tup, isi_tup_lst, isi_tup_str, isi_tup_int, isi_tup_non, isi_lst_lst, isi_lst_tup, isi_int_int, isi_int_str, isi_int_non, isi_bool_int, isi_int_tup, isi_bool_tup, isi_bool_str, isi_bool_non, isi_lst_str, isi_lst_int, isi_lst_non, isD, isntD, isNoneD, addD_i, subD_i, seqD, appendD, List.replicate, List.append_nil, List.cons_append, List.nil_append, List.getElem?_cons_zero, List.getElem?_cons_succ, List.set_cons_zero, List.set_cons_succ, List.length_cons, List.length_nil, List.nodup_nil, List.nodup_cons, List.not_mem_nil, not_false_eq_true, and_self, Option.map, if_true, if_false, Bool.false_eq_true, Bool.not_true, Bool.not_false, Bool.and_true, Bool.true_and, Bool.false_and, Bool.and_false, finR, Sl.fin, wipeR, restR, List.getD_cons_zero, List.getD_cons_succ, decide_true, decide_false, Nat.reduceAdd, Nat.reduceLT, e])
  refine ⟨cs, rs, so ++ qs, k', hc, hl, by simp; omega, hrs, ?_, by omega, by omega, ?_⟩
  · intro r hr
    rcases List.mem_append.mp hr with hr | hr
    · rcases List.mem_append.mp hr with hr | hr
      · exact hrs r (List.mem_of_mem_drop hr)
      · exact hrs r (List.mem_of_mem_take hr)
    · exact h4 r hr
  · have f2 : fits 2 = true := rfl
    have g1 : gTp [gNm 4, gNm 5] (tabD cs rs) [.scr ns, .bor (town k1), .val (.int (most : Int)), .val (tabD cs rs), .un, .un, .un, .un, .un] = some [.scr ns, .bor (town k1), .val (.int (most : Int)), .val (tabD cs rs), .val (colsD cs), .val (rowsD rs), .un, .un, .un] := rfl
    have l1 : lenD [rowsD rs] = some (.int (rs.length : Nat)) := by show some (PyData.int ((rs.map PyData.tuple).length : Nat)) = _; rw [List.length_map]
    have s1 : slD (rowsD rs) (some (i : Int)) none = some (.list ((rs.map .tuple).drop i)) := slD_lo _ _
    have s2 : slD (rowsD rs) none (some (j : Int)) = some (.list ((rs.map .tuple).take j)) := slD_hi _ _
    have a2 : addD (.list (so.map .tuple)) (.list (qs.map .tuple)) = some (rowsD (so ++ qs)) := by
      rw [addD_l (by simp; omega), ← List.map_append]
      rfl
    unfold L_two mFn
    simp only [mSeq, mSet, mSetO, mSet2, mRet, mRetN, mDrop, mIfS, mIf, mB, mTru, mAnd, mOr, mNot, mAndV, mOrV, mNotV, mChain, mRaise, mNx, m1, m2, mN, mNL, mVar, mC, mNil, mCons, mLst, mTup, mDsp, mCall, mANil, mAv, mAr, mAb, hasR, hasB, toSl, VL.bs, back, mMut, heldR, setR, peekR, mLenP, mLenO, mRd, mItA, mIt, mAsg, gNm, mYes, mSl, mPs, mPn, mKn, ok_bind, Oc.bind, Oc.opt, lenD_l, lenD_t, tupD, truD, isi_str_str, isi_str_tup, isi_str_int, isi_str_non, isi_str_lst, isi_tup_tup, isi_tup_lst, isi_tup_str, isi_tup_int, isi_tup_non, isi_lst_lst, isi_lst_tup, isi_int_int, isi_int_str, isi_int_non, isi_bool_int, isi_int_tup, isi_bool_tup, isi_bool_str, isi_bool_non, isi_lst_str, isi_lst_int, isi_lst_non, isD, isntD, isNoneD, addD_i, subD_i, seqD, appendD, List.replicate, List.append_nil, List.cons_append, List.nil_append, List.getElem?_cons_zero, List.getElem?_cons_succ, List.set_cons_zero, List.set_cons_succ, List.length_cons, List.length_nil, List.nodup_nil, List.nodup_cons, List.not_mem_nil, not_false_eq_true, and_self, Option.map, if_true, if_false, Bool.false_eq_true, Bool.not_true, Bool.not_false, Bool.and_true, Bool.true_and, Bool.false_and, Bool.and_false, finR, Sl.fin, wipeR, restR, List.getD_cons_zero, List.getD_cons_succ, decide_true, decide_false, Nat.reduceAdd, Nat.reduceLT, e1, g1, l1, e2, s1, e3, s2, a1, e5, f2, a2]
    rfl
end VL

set_option Elab.async false
set_option linter.all false
set_option maxRecDepth 100000
set_option maxHeartbeats 4000000
/-! VM5: plans: keys, sums, sifts; what the program's looks say of them. -/
namespace VL
open PySem L2
theorem filter_range_one {p : Nat → Bool} {i : Nat} : ∀ n, i < n → (∀ j, j < n → p j = decide (j = i)) → (List.range n).filter p = [i]
  | 0, h, _ => absurd h (Nat.not_lt_zero _)
  | n + 1, h, hp => by
    rw [List.range_succ, List.filter_append]
    by_cases c : i = n
    · subst c
      have e : (List.range i).filter p = [] := List.filter_eq_nil_iff.mpr fun j hj => by
        have := List.mem_range.mp hj
        rw [hp j (by omega)]
        simp
        omega
      rw [e]
      simp [hp i (by omega)]
    · rw [filter_range_one n (by omega) fun j hj => hp j (by omega)]
      have z := hp n (by omega)
      have : decide (n = i) = false := decide_eq_false fun z => c z.symm
      rw [this] at z
      simp [z]
theorem cols_one {cs : List Col} (h : ColsOk cs) {i j : Nat} {c d : Col} (hi : cs[i]? = some c) (hj : cs[j]? = some d) : (d.n = c.n) ↔ j = i := by
  constructor
  · intro e
    have li := (List.getElem?_eq_some_iff.mp hi).1
    have lj := (List.getElem?_eq_some_iff.mp hj).1
    have nd := h.nd
    have e1 : cs[i] = c := by rw [List.getElem?_eq_getElem li] at hi; exact Option.some.inj hi
    have e2 : cs[j] = d := by rw [List.getElem?_eq_getElem lj] at hj; exact Option.some.inj hj
    have pw := List.pairwise_iff_getElem.mp nd
    rcases Nat.lt_trichotomy i j with c1 | c1 | c1
    · exact absurd (show (cs.map (·.n))[i]'(by simpa using li) = (cs.map (·.n))[j]'(by simpa using lj) by rw [List.getElem_map, List.getElem_map, e1, e2, e]) (pw i j (by simpa using li) (by simpa using lj) c1)
    · exact c1.symm
    · exact absurd (show (cs.map (·.n))[j]'(by simpa using lj) = (cs.map (·.n))[i]'(by simpa using li) by rw [List.getElem_map, List.getElem_map, e1, e2, e]) (pw j i (by simpa using lj) (by simpa using li) c1)
  · intro e
    subst e
    rw [hi] at hj
    cases hj
    rfl
theorem len_cols (cs : List Col) : lenD [colsD cs] = some (.int (cs.length : Nat)) := by show some (PyData.int ((cs.map colD).length : Nat)) = _; rw [List.length_map]
theorem place_ok {cs : List Col} (h : ColsOk cs) {i : Nat} {c : Col} (hi : cs[i]? = some c) : M_place_of [.val (colsD cs), .val (.str c.n)] = .ok (.int (i : Int)) [.un, .un] := by
  have hh := h.hi
  have li := (List.getElem?_eq_some_iff.mp hi).1
  have hr := range1_n cs.length (Nat.le_trans hh (by decide))
  have l1 := len_cols cs
  have f1 := mLc_pure (fs := mItA range1D (mCons (mN lenD (mCons (mVar 0) mNil)) mNil)) (g := gNm 3) (t := mB (m2 eqD (m2 ixD (m2 ixD (mVar 0) (mVar 3)) (mC (.int 0))) (mVar 1))) (f := mVar 3) (vs := [3])
    (ρ := [.val (colsD cs), .val (.str c.n), .un, .un]) (ρ1 := [.val (colsD cs), .val (.str c.n), .un, .un]) (List.range cs.length) (fun j => .int ((j : Nat) : Int)) (fun j => decide (j = i)) (fun j => .int ((j : Nat) : Int)) (by simp only [mSeq, mSet, mSetO, mSet2, mRet, mRetN, mDrop, mIfS, mIf, mB, mTru, mAnd, mOr, mNot, mAndV, mOrV, mNotV, mChain, mRaise, mNx, m1, m2, mN, mNL, mVar, mC, mNil, mCons, mLst, mTup, mDsp, mCall, mANil, mAv, mAr, mAb, hasR, hasB, toSl, VL.bs, back, mMut, heldR, setR, peekR, mLenP, mLenO, mRd, mItA, mIt, mAsg, gNm, gTp, gSeq, mYes, mSl, mPs, mPn, mKn, ok_bind, Oc.bind, Oc.opt, lenD_l, lenD_t, tupD, truD, isi_str_str, isi_str_tup, isi_str_int, isi_str_non, isi_str_lst, isi_tup_tup, isi_tup_lst, isi_tup_str, isi_tup_int, isi_tup_non, isi_lst_lst, isi_lst_tup, isi_int_int, isi_int_str, isi_int_non, isi_bool_int, isi_int_tup, isi_bool_tup, isi_bool_str, isi_bool_non, isi_lst_str, isi_lst_int, isi_lst_non, isD, isntD, isNoneD, addD_i, subD_i, seqD, appendD, List.replicate, List.append_nil, List.cons_append, List.nil_append, List.getElem?_cons_zero, List.getElem?_cons_succ, List.set_cons_zero, List.set_cons_succ, List.length_cons, List.length_nil, List.nodup_nil, List.nodup_cons, List.not_mem_nil, not_false_eq_true, and_self, Option.map, if_true, if_false, Bool.false_eq_true, Bool.not_true, Bool.not_false, Bool.and_true, Bool.true_and, Bool.false_and, Bool.and_false, finR, Sl.fin, wipeR, restR, List.getD_cons_zero, List.getD_cons_succ, decide_true, decide_false, Nat.reduceAdd, Nat.reduceLT, l1, hr]) rfl
    (fun j hj => ⟨[.val (colsD cs), .val (.str c.n), .un, .val (.int (j : Int))], rfl, by
      have hj := List.mem_range.mp hj
      have hcj : cs[j]? = some cs[j] := List.getElem?_eq_getElem hj
      have e0 := ix_cols hcj
      have e1 : ixD (colD cs[j]) (.int 0) = some (.str cs[j].n) := rfl
      have e2 : decide (cs[j].n = c.n) = decide (j = i) := decide_eq_decide.mpr (cols_one h hi hcj)
      simp only [mSeq, mSet, mSetO, mSet2, mRet, mRetN, mDrop, mIfS, mIf, mB, mTru, mAnd, mOr, mNot, mAndV, mOrV, mNotV, mChain, mRaise, mNx, m1, m2, mN, mNL, mVar, mC, mNil, mCons, mLst, mTup, mDsp, mCall, mANil, mAv, mAr, mAb, hasR, hasB, toSl, VL.bs, back, mMut, heldR, setR, peekR, mLenP, mLenO, mRd, mItA, mIt, mAsg, gNm, gTp, gSeq, mYes, mSl, mPs, mPn, mKn, ok_bind, Oc.bind, Oc.opt, lenD_l, lenD_t, tupD, truD, isi_str_str, isi_str_tup, isi_str_int, isi_str_non, isi_str_lst, isi_tup_tup, isi_tup_lst, isi_tup_str, isi_tup_int, isi_tup_non, isi_lst_lst, isi_lst_tup, isi_int_int, isi_int_str, isi_int_non, isi_bool_int, isi_int_tup, isi_bool_tup, isi_bool_str, isi_bool_non, isi_lst_str, isi_lst_int, isi_lst_non, isD, isntD, isNoneD, addD_i, subD_i, seqD, appendD, List.replicate, List.append_nil, List.cons_append, List.nil_append, List.getElem?_cons_zero, List.getElem?_cons_succ, List.set_cons_zero, List.set_cons_succ, List.length_cons, List.length_nil, List.nodup_nil, List.nodup_cons, List.not_mem_nil, not_false_eq_true, and_self, Option.map, if_true, if_false, Bool.false_eq_true, Bool.not_true, Bool.not_false, Bool.and_true, Bool.true_and, Bool.false_and, Bool.and_false, finR, Sl.fin, wipeR, restR, List.getD_cons_zero, List.getD_cons_succ, decide_true, decide_false, Nat.reduceAdd, Nat.reduceLT, e0, e1, eqD_s, e2], fun _ => rfl, rfl, rfl⟩) (by rw [List.length_range]; exact Nat.le_trans hh (by decide))
  rw [filter_range_one (p := fun j => decide (j = i)) cs.length li fun _ _ => rfl] at f1
  have e3 : ixD (.list [.int (i : Int)]) (.int 0) = some (.int (i : Int)) := rfl
  unfold M_place_of mFn
  simp only [mSeq, mSet, mSetO, mSet2, mRet, mRetN, mDrop, mIfS, mIf, mB, mTru, mAnd, mOr, mNot, mAndV, mOrV, mNotV, mChain, mRaise, mNx, m1, m2, mN, mNL, mVar, mC, mNil, mCons, mLst, mTup, mDsp, mCall, mANil, mAv, mAr, mAb, hasR, hasB, toSl, VL.bs, back, mMut, heldR, setR, peekR, mLenP, mLenO, mRd, mItA, mIt, mAsg, gNm, gTp, gSeq, mYes, mSl, mPs, mPn, mKn, ok_bind, Oc.bind, Oc.opt, lenD_l, lenD_t, tupD, truD, isi_str_str, isi_str_tup, isi_str_int, isi_str_non, isi_str_lst, isi_tup_tup, isi_tup_lst, isi_tup_str, isi_tup_int, isi_tup_non, isi_lst_lst, isi_lst_tup, isi_int_int, isi_int_str, isi_int_non, isi_bool_int, isi_int_tup, isi_bool_tup, isi_bool_str, isi_bool_non, isi_lst_str, isi_lst_int, isi_lst_non, isD, isntD, isNoneD, addD_i, subD_i, seqD, appendD, List.replicate, List.append_nil, List.cons_append, List.nil_append, List.getElem?_cons_zero, List.getElem?_cons_succ, List.set_cons_zero, List.set_cons_succ, List.length_cons, List.length_nil, List.nodup_nil, List.nodup_cons, List.not_mem_nil, not_false_eq_true, and_self, Option.map, if_true, if_false, Bool.false_eq_true, Bool.not_true, Bool.not_false, Bool.and_true, Bool.true_and, Bool.false_and, Bool.and_false, finR, Sl.fin, wipeR, restR, List.getD_cons_zero, List.getD_cons_succ, decide_true, decide_false, Nat.reduceAdd, Nat.reduceLT, f1, List.map_cons, List.map_nil, List.isEmpty_cons, e3]
  rfl
theorem kind_ok {cs : List Col} (h : ColsOk cs) {i : Nat} {c : Col} (hi : cs[i]? = some c) : M_kind_of [.val (colsD cs), .val (.str c.n)] = .ok (.str (kindS c.num)) [.un, .un] := by
  have hw := is_word_ok (h.wd c (List.mem_of_getElem? hi))
  have hp := place_ok h hi
  have e0 := ix_cols hi
  have e1 : ixD (colD c) (.int 1) = some (.str (kindS c.num)) := rfl
  unfold M_kind_of mFn
  simp only [mSeq, mSet, mSetO, mSet2, mRet, mRetN, mDrop, mIfS, mIf, mB, mTru, mAnd, mOr, mNot, mAndV, mOrV, mNotV, mChain, mRaise, mNx, m1, m2, mN, mNL, mVar, mC, mNil, mCons, mLst, mTup, mDsp, mCall, mANil, mAv, mAr, mAb, hasR, hasB, toSl, VL.bs, back, mMut, heldR, setR, peekR, mLenP, mLenO, mRd, mItA, mIt, mAsg, gNm, gTp, gSeq, mYes, mSl, mPs, mPn, mKn, ok_bind, Oc.bind, Oc.opt, lenD_l, lenD_t, tupD, truD, isi_str_str, isi_str_tup, isi_str_int, isi_str_non, isi_str_lst, isi_tup_tup, isi_tup_lst, isi_tup_str, isi_tup_int, isi_tup_non, isi_lst_lst, isi_lst_tup, isi_int_int, isi_int_str, isi_int_non, isi_bool_int, isi_int_tup, isi_bool_tup, isi_bool_str, isi_bool_non, isi_lst_str, isi_lst_int, isi_lst_non, isD, isntD, isNoneD, addD_i, subD_i, seqD, appendD, List.replicate, List.append_nil, List.cons_append, List.nil_append, List.getElem?_cons_zero, List.getElem?_cons_succ, List.set_cons_zero, List.set_cons_succ, List.length_cons, List.length_nil, List.nodup_nil, List.nodup_cons, List.not_mem_nil, not_false_eq_true, and_self, Option.map, if_true, if_false, Bool.false_eq_true, Bool.not_true, Bool.not_false, Bool.and_true, Bool.true_and, Bool.false_and, Bool.and_false, finR, Sl.fin, wipeR, restR, List.getD_cons_zero, List.getD_cons_succ, decide_true, decide_false, Nat.reduceAdd, Nat.reduceLT, hw, hp, e0, e1]
  rfl
/-! ### keys -/
inductive Ky where
  | col (z : Str) | band (z : Str) (w : Int) | fst (z : Str) (w : Int)
def kyD : Ky → PyData
  | .col z => .str z
  | .band z w => .tuple [.str "band", .str z, .int w]
  | .fst z w => .tuple [.str "first", .str z, .int w]
def HasCol (cs : List Col) (z : Str) (num : Bool) : Prop := ∃ (i : Nat) (c : Col), cs[i]? = some c ∧ c.n = z ∧ c.num = num
def KyOk (cs : List Col) : Ky → Prop
  | .col z => ∃ num, HasCol cs z num
  | .band z w => HasCol cs z true ∧ 1 ≤ w ∧ w ≤ 1000000
  | .fst z w => HasCol cs z false ∧ 1 ≤ w ∧ w ≤ 8
theorem str_band : decide (Str.ofString "band" = Str.ofString "band") = true := by decide +kernel
theorem str_first_band : decide (Str.ofString "first" = Str.ofString "band") = false := by decide +kernel
theorem kind_number (b : Bool) : decide (kindS b = Str.ofString "number") = b := by cases b <;> decide +kernel
theorem isnt_str (z : Str) : isntD (.str z) .none = some (.bool true) := rfl
theorem is_key_ok {cs : List Col} (h : ColsOk cs) {k : Ky} (hk : KyOk cs k) : M_is_key [.val (colsD cs), .val (kyD k)] = .ok (.bool true) [.un, .un] := by
  cases k with
  | col z =>
    obtain ⟨num, i, c, hi, rfl, _⟩ := hk
    have e := kind_ok h hi
    unfold M_is_key mFn kyD
    simp only [mSeq, mSet, mSetO, mSet2, mRet, mRetN, mDrop, mIfS, mIf, mB, mTru, mAnd, mOr, mNot, mAndV, mOrV, mNotV, mChain, mRaise, mNx, m1, m2, mN, mNL, mVar, mC, mNil, mCons, mLst, mTup, mDsp, mCall, mANil, mAv, mAr, mAb, hasR, hasB, toSl, VL.bs, back, mMut, heldR, setR, peekR, mLenP, mLenO, mRd, mItA, mIt, mAsg, gNm, gTp, gSeq, mYes, mSl, mPs, mPn, mKn, ok_bind, Oc.bind, Oc.opt, lenD_l, lenD_t, tupD, truD, isi_str_str, isi_str_tup, isi_str_int, isi_str_non, isi_str_lst, isi_tup_tup, isi_tup_lst, isi_tup_str, isi_tup_int, isi_tup_non, isi_lst_lst, isi_lst_tup, isi_int_int, isi_int_str, isi_int_non, isi_bool_int, isi_int_tup, isi_bool_tup, isi_bool_str, isi_bool_non, isi_lst_str, isi_lst_int, isi_lst_non, isD, isntD, isNoneD, addD_i, subD_i, seqD, appendD, List.replicate, List.append_nil, List.cons_append, List.nil_append, List.getElem?_cons_zero, List.getElem?_cons_succ, List.set_cons_zero, List.set_cons_succ, List.length_cons, List.length_nil, List.nodup_nil, List.nodup_cons, List.not_mem_nil, not_false_eq_true, and_self, Option.map, if_true, if_false, Bool.false_eq_true, Bool.not_true, Bool.not_false, Bool.and_true, Bool.true_and, Bool.false_and, Bool.and_false, finR, Sl.fin, wipeR, restR, List.getD_cons_zero, List.getD_cons_succ, decide_true, decide_false, Nat.reduceAdd, Nat.reduceLT, e]
    rfl
  | band z w =>
    obtain ⟨⟨i, c, hi, rfl, hn⟩, h1, h2⟩ := hk
    have e := kind_ok h hi
    have e2 := is_whole_ok h1 h2
    have x0 : ∀ y, ixD (.tuple [.str "band", y, .int w]) (.int 0) = some (.str "band") := fun _ => rfl
    have x1 : ∀ x y, ixD (.tuple [x, .str y, .int w]) (.int 1) = some (.str y) := fun _ _ => rfl
    have x2 : ∀ x y, ixD (.tuple [x, y, .int w]) (.int 2) = some (.int w) := fun _ _ => rfl
    have n3 : neD (.int ((3 : Nat) : Int)) (.int 3) = some (.bool false) := by rw [neD_i]; rfl
    unfold M_is_key mFn kyD
    simp only [mSeq, mSet, mSetO, mSet2, mRet, mRetN, mDrop, mIfS, mIf, mB, mTru, mAnd, mOr, mNot, mAndV, mOrV, mNotV, mChain, mRaise, mNx, m1, m2, mN, mNL, mVar, mC, mNil, mCons, mLst, mTup, mDsp, mCall, mANil, mAv, mAr, mAb, hasR, hasB, toSl, VL.bs, back, mMut, heldR, setR, peekR, mLenP, mLenO, mRd, mItA, mIt, mAsg, gNm, gTp, gSeq, mYes, mSl, mPs, mPn, mKn, ok_bind, Oc.bind, Oc.opt, lenD_l, lenD_t, tupD, truD, isi_str_str, isi_str_tup, isi_str_int, isi_str_non, isi_str_lst, isi_tup_tup, isi_tup_lst, isi_tup_str, isi_tup_int, isi_tup_non, isi_lst_lst, isi_lst_tup, isi_int_int, isi_int_str, isi_int_non, isi_bool_int, isi_int_tup, isi_bool_tup, isi_bool_str, isi_bool_non, isi_lst_str, isi_lst_int, isi_lst_non, isD, isntD, isNoneD, addD_i, subD_i, seqD, appendD, List.replicate, List.append_nil, List.cons_append, List.nil_append, List.getElem?_cons_zero, List.getElem?_cons_succ, List.set_cons_zero, List.set_cons_succ, List.length_cons, List.length_nil, List.nodup_nil, List.nodup_cons, List.not_mem_nil, not_false_eq_true, and_self, Option.map, if_true, if_false, Bool.false_eq_true, Bool.not_true, Bool.not_false, Bool.and_true, Bool.true_and, Bool.false_and, Bool.and_false, finR, Sl.fin, wipeR, restR, List.getD_cons_zero, List.getD_cons_succ, decide_true, decide_false, Nat.reduceAdd, Nat.reduceLT, x0, x1, x2, n3, eqD_s, e, e2, hn, kind_number]
    rfl
  | fst z w =>
    obtain ⟨⟨i, c, hi, rfl, hn⟩, h1, h2⟩ := hk
    have e := kind_ok h hi
    have e2 := is_whole_ok h1 h2
    have x0 : ∀ y, ixD (.tuple [.str "first", y, .int w]) (.int 0) = some (.str "first") := fun _ => rfl
    have x1 : ∀ x y, ixD (.tuple [x, .str y, .int w]) (.int 1) = some (.str y) := fun _ _ => rfl
    have x2 : ∀ x y, ixD (.tuple [x, y, .int w]) (.int 2) = some (.int w) := fun _ _ => rfl
    have n3 : neD (.int ((3 : Nat) : Int)) (.int 3) = some (.bool false) := by rw [neD_i]; rfl
    unfold M_is_key mFn kyD
    simp only [mSeq, mSet, mSetO, mSet2, mRet, mRetN, mDrop, mIfS, mIf, mB, mTru, mAnd, mOr, mNot, mAndV, mOrV, mNotV, mChain, mRaise, mNx, m1, m2, mN, mNL, mVar, mC, mNil, mCons, mLst, mTup, mDsp, mCall, mANil, mAv, mAr, mAb, hasR, hasB, toSl, VL.bs, back, mMut, heldR, setR, peekR, mLenP, mLenO, mRd, mItA, mIt, mAsg, gNm, gTp, gSeq, mYes, mSl, mPs, mPn, mKn, ok_bind, Oc.bind, Oc.opt, lenD_l, lenD_t, tupD, truD, isi_str_str, isi_str_tup, isi_str_int, isi_str_non, isi_str_lst, isi_tup_tup, isi_tup_lst, isi_tup_str, isi_tup_int, isi_tup_non, isi_lst_lst, isi_lst_tup, isi_int_int, isi_int_str, isi_int_non, isi_bool_int, isi_int_tup, isi_bool_tup, isi_bool_str, isi_bool_non, isi_lst_str, isi_lst_int, isi_lst_non, isD, isntD, isNoneD, addD_i, subD_i, seqD, appendD, List.replicate, List.append_nil, List.cons_append, List.nil_append, List.getElem?_cons_zero, List.getElem?_cons_succ, List.set_cons_zero, List.set_cons_succ, List.length_cons, List.length_nil, List.nodup_nil, List.nodup_cons, List.not_mem_nil, not_false_eq_true, and_self, Option.map, if_true, if_false, Bool.false_eq_true, Bool.not_true, Bool.not_false, Bool.and_true, Bool.true_and, Bool.false_and, Bool.and_false, finR, Sl.fin, wipeR, restR, List.getD_cons_zero, List.getD_cons_succ, decide_true, decide_false, Nat.reduceAdd, Nat.reduceLT, x0, x1, x2, n3, eqD_s, e, e2, hn, kind_word, str_first_band]
    rfl
/-! ### sums -/
inductive Op where
  | sum | least | greatest | mean | all | row | column
def opW : Op → Str
  | .sum => "sum" | .least => "least" | .greatest => "greatest" | .mean => "mean" | .all => "of all" | .row => "of row" | .column => "of column"
def Op.share : Op → Bool
  | .all => true | .row => true | .column => true
  | _ => false
inductive Sm where
  | count | unlike (z : Str) | filled (z : Str) | op (o : Op) (z : Str)
def smD : Sm → PyData
  | .count => .tuple [.str "count"]
  | .unlike z => .tuple [.str "unlike", .str z]
  | .filled z => .tuple [.str "filled", .str z]
  | .op o z => .tuple [.str (opW o), .str z]
def SmOk (cs : List Col) : Sm → Prop
  | .count => True
  | .unlike z => ∃ num, HasCol cs z num
  | .filled z => ∃ num, HasCol cs z num
  | .op _ z => HasCol cs z true
theorem op_a (o : Op) : inD id (.str (opW o)) (.tuple [.str "sum", .str "least", .str "greatest", .str "mean"]) = some (.bool (!o.share)) := by cases o <;> kernel_rfl
theorem op_b (o : Op) : inD id (.str (opW o)) (.tuple [.str "of all", .str "of row", .str "of column"]) = some (.bool o.share) := by cases o <;> kernel_rfl
theorem op_c (o : Op) : decide (opW o = Str.ofString "count") = false := by cases o <;> decide +kernel
theorem is_sum_ok {cs : List Col} (h : ColsOk cs) {k : Sm} (hk : SmOk cs k) : M_is_sum [.val (colsD cs), .val (smD k)] = .ok (.bool true) [.un, .un] := by
  cases k with
  | count =>
    have x0 : ixD (.tuple [.str "count"]) (.int 0) = some (.str "count") := rfl
    have n0 : eqD (.int ((1 : Nat) : Int)) (.int 0) = some (.bool false) := by rw [eqD_i]; rfl
    have n1 : eqD (.int ((1 : Nat) : Int)) (.int 1) = some (.bool true) := by rw [eqD_i]; rfl
    unfold M_is_sum mFn smD
    simp only [mSeq, mSet, mSetO, mSet2, mRet, mRetN, mDrop, mIfS, mIf, mB, mTru, mAnd, mOr, mNot, mAndV, mOrV, mNotV, mChain, mRaise, mNx, m1, m2, mN, mNL, mVar, mC, mNil, mCons, mLst, mTup, mDsp, mCall, mANil, mAv, mAr, mAb, hasR, hasB, toSl, VL.bs, back, mMut, heldR, setR, peekR, mLenP, mLenO, mRd, mItA, mIt, mAsg, gNm, gTp, gSeq, mYes, mSl, mPs, mPn, mKn, ok_bind, Oc.bind, Oc.opt, lenD_l, lenD_t, tupD, truD, isi_str_str, isi_str_tup, isi_str_int, isi_str_non, isi_str_lst, isi_tup_tup, isi_tup_lst, isi_tup_str, isi_tup_int, isi_tup_non, isi_lst_lst, isi_lst_tup, isi_int_int, isi_int_str, isi_int_non, isi_bool_int, isi_int_tup, isi_bool_tup, isi_bool_str, isi_bool_non, isi_lst_str, isi_lst_int, isi_lst_non, isD, isntD, isNoneD, addD_i, subD_i, seqD, appendD, List.replicate, List.append_nil, List.cons_append, List.nil_append, List.getElem?_cons_zero, List.getElem?_cons_succ, List.set_cons_zero, List.set_cons_succ, List.length_cons, List.length_nil, List.nodup_nil, List.nodup_cons, List.not_mem_nil, not_false_eq_true, and_self, Option.map, if_true, if_false, Bool.false_eq_true, Bool.not_true, Bool.not_false, Bool.and_true, Bool.true_and, Bool.false_and, Bool.and_false, finR, Sl.fin, wipeR, restR, List.getD_cons_zero, List.getD_cons_succ, decide_true, decide_false, Nat.reduceAdd, Nat.reduceLT, x0, eqD_s, n0, n1]
    rfl
  | unlike z =>
    obtain ⟨num, i, c, hi, rfl, _⟩ := hk
    have e := kind_ok h hi
    have x0 : ∀ w, ixD (.tuple [.str w, .str c.n]) (.int 0) = some (.str w) := fun _ => rfl
    have x1 : ∀ w, ixD (.tuple [.str w, .str c.n]) (.int 1) = some (.str c.n) := fun _ => rfl
    have n0 : eqD (.int ((2 : Nat) : Int)) (.int 0) = some (.bool false) := by rw [eqD_i]; rfl
    have n2 : neD (.int ((2 : Nat) : Int)) (.int 2) = some (.bool false) := by rw [neD_i]; rfl
    have a1 : inD id (.str "unlike") (.tuple [.str "sum", .str "least", .str "greatest", .str "mean"]) = some (.bool false) := by kernel_rfl
    have a2 : inD id (.str "unlike") (.tuple [.str "of all", .str "of row", .str "of column"]) = some (.bool false) := by kernel_rfl
    have a3 : inD id (.str "unlike") (.tuple [.str "unlike", .str "filled"]) = some (.bool true) := by kernel_rfl
    have a4 : decide (Str.ofString "unlike" = Str.ofString "count") = false := by decide +kernel
    have f2 : fits 2 = true := rfl
    unfold M_is_sum mFn smD
    simp only [mSeq, mSet, mSetO, mSet2, mRet, mRetN, mDrop, mIfS, mIf, mB, mTru, mAnd, mOr, mNot, mAndV, mOrV, mNotV, mChain, mRaise, mNx, m1, m2, mN, mNL, mVar, mC, mNil, mCons, mLst, mTup, mDsp, mCall, mANil, mAv, mAr, mAb, hasR, hasB, toSl, VL.bs, back, mMut, heldR, setR, peekR, mLenP, mLenO, mRd, mItA, mIt, mAsg, gNm, gTp, gSeq, mYes, mSl, mPs, mPn, mKn, ok_bind, Oc.bind, Oc.opt, lenD_l, lenD_t, tupD, truD, isi_str_str, isi_str_tup, isi_str_int, isi_str_non, isi_str_lst, isi_tup_tup, isi_tup_lst, isi_tup_str, isi_tup_int, isi_tup_non, isi_lst_lst, isi_lst_tup, isi_int_int, isi_int_str, isi_int_non, isi_bool_int, isi_int_tup, isi_bool_tup, isi_bool_str, isi_bool_non, isi_lst_str, isi_lst_int, isi_lst_non, isD, isntD, isNoneD, addD_i, subD_i, seqD, appendD, List.replicate, List.append_nil, List.cons_append, List.nil_append, List.getElem?_cons_zero, List.getElem?_cons_succ, List.set_cons_zero, List.set_cons_succ, List.length_cons, List.length_nil, List.nodup_nil, List.nodup_cons, List.not_mem_nil, not_false_eq_true, and_self, Option.map, if_true, if_false, Bool.false_eq_true, Bool.not_true, Bool.not_false, Bool.and_true, Bool.true_and, Bool.false_and, Bool.and_false, finR, Sl.fin, wipeR, restR, List.getD_cons_zero, List.getD_cons_succ, decide_true, decide_false, Nat.reduceAdd, Nat.reduceLT, x0, x1, eqD_s, n0, n2, a1, a2, a3, a4, e, f2]
    rfl
  | filled z =>
    obtain ⟨num, i, c, hi, rfl, _⟩ := hk
    have e := kind_ok h hi
    have x0 : ∀ w, ixD (.tuple [.str w, .str c.n]) (.int 0) = some (.str w) := fun _ => rfl
    have x1 : ∀ w, ixD (.tuple [.str w, .str c.n]) (.int 1) = some (.str c.n) := fun _ => rfl
    have n0 : eqD (.int ((2 : Nat) : Int)) (.int 0) = some (.bool false) := by rw [eqD_i]; rfl
    have n2 : neD (.int ((2 : Nat) : Int)) (.int 2) = some (.bool false) := by rw [neD_i]; rfl
    have a1 : inD id (.str "filled") (.tuple [.str "sum", .str "least", .str "greatest", .str "mean"]) = some (.bool false) := by kernel_rfl
    have a2 : inD id (.str "filled") (.tuple [.str "of all", .str "of row", .str "of column"]) = some (.bool false) := by kernel_rfl
    have a3 : inD id (.str "filled") (.tuple [.str "unlike", .str "filled"]) = some (.bool true) := by kernel_rfl
    have a4 : decide (Str.ofString "filled" = Str.ofString "count") = false := by decide +kernel
    have f2 : fits 2 = true := rfl
    unfold M_is_sum mFn smD
    simp only [mSeq, mSet, mSetO, mSet2, mRet, mRetN, mDrop, mIfS, mIf, mB, mTru, mAnd, mOr, mNot, mAndV, mOrV, mNotV, mChain, mRaise, mNx, m1, m2, mN, mNL, mVar, mC, mNil, mCons, mLst, mTup, mDsp, mCall, mANil, mAv, mAr, mAb, hasR, hasB, toSl, VL.bs, back, mMut, heldR, setR, peekR, mLenP, mLenO, mRd, mItA, mIt, mAsg, gNm, gTp, gSeq, mYes, mSl, mPs, mPn, mKn, ok_bind, Oc.bind, Oc.opt, lenD_l, lenD_t, tupD, truD, isi_str_str, isi_str_tup, isi_str_int, isi_str_non, isi_str_lst, isi_tup_tup, isi_tup_lst, isi_tup_str, isi_tup_int, isi_tup_non, isi_lst_lst, isi_lst_tup, isi_int_int, isi_int_str, isi_int_non, isi_bool_int, isi_int_tup, isi_bool_tup, isi_bool_str, isi_bool_non, isi_lst_str, isi_lst_int, isi_lst_non, isD, isntD, isNoneD, addD_i, subD_i, seqD, appendD, List.replicate, List.append_nil, List.cons_append, List.nil_append, List.getElem?_cons_zero, List.getElem?_cons_succ, List.set_cons_zero, List.set_cons_succ, List.length_cons, List.length_nil, List.nodup_nil, List.nodup_cons, List.not_mem_nil, not_false_eq_true, and_self, Option.map, if_true, if_false, Bool.false_eq_true, Bool.not_true, Bool.not_false, Bool.and_true, Bool.true_and, Bool.false_and, Bool.and_false, finR, Sl.fin, wipeR, restR, List.getD_cons_zero, List.getD_cons_succ, decide_true, decide_false, Nat.reduceAdd, Nat.reduceLT, x0, x1, eqD_s, n0, n2, a1, a2, a3, a4, e, f2]
    rfl
  | op o z =>
    obtain ⟨i, c, hi, rfl, hn⟩ := hk
    have e := kind_ok h hi
    have x0 : ∀ w, ixD (.tuple [.str w, .str c.n]) (.int 0) = some (.str w) := fun _ => rfl
    have x1 : ∀ w, ixD (.tuple [.str w, .str c.n]) (.int 1) = some (.str c.n) := fun _ => rfl
    have n0 : eqD (.int ((2 : Nat) : Int)) (.int 0) = some (.bool false) := by rw [eqD_i]; rfl
    have n2 : neD (.int ((2 : Nat) : Int)) (.int 2) = some (.bool false) := by rw [neD_i]; rfl
    have a1 := op_a o
    have a2 := op_b o
    have a4 := op_c o
    cases hs : o.share <;> rw [hs] at a1 a2 <;> (
      unfold M_is_sum mFn smD
      simp only [mSeq, mSet, mSetO, mSet2, mRet, mRetN, mDrop, mIfS, mIf, mB, mTru, mAnd, mOr, mNot, mAndV, mOrV, mNotV, mChain, mRaise, mNx, m1, m2, mN, mNL, mVar, mC, mNil, mCons, mLst, mTup, mDsp, mCall, mANil, mAv, mAr, mAb, hasR, hasB, toSl, VL.bs, back, mMut, heldR, setR, peekR, mLenP, mLenO, mRd, mItA, mIt, mAsg, gNm, gTp, gSeq, mYes, mSl, mPs, mPn, mKn, ok_bind, Oc.bind, Oc.opt, lenD_l, lenD_t, tupD, truD, isi_str_str, isi_str_tup, isi_str_int, isi_str_non, isi_str_lst, isi_tup_tup, isi_tup_lst, isi_tup_str, isi_tup_int, isi_tup_non, isi_lst_lst, isi_lst_tup, isi_int_int, isi_int_str, isi_int_non, isi_bool_int, isi_int_tup, isi_bool_tup, isi_bool_str, isi_bool_non, isi_lst_str, isi_lst_int, isi_lst_non, isD, isntD, isNoneD, addD_i, subD_i, seqD, appendD, List.replicate, List.append_nil, List.cons_append, List.nil_append, List.getElem?_cons_zero, List.getElem?_cons_succ, List.set_cons_zero, List.set_cons_succ, List.length_cons, List.length_nil, List.nodup_nil, List.nodup_cons, List.not_mem_nil, not_false_eq_true, and_self, Option.map, if_true, if_false, Bool.false_eq_true, Bool.not_true, Bool.not_false, Bool.and_true, Bool.true_and, Bool.false_and, Bool.and_false, finR, Sl.fin, wipeR, restR, List.getD_cons_zero, List.getD_cons_succ, decide_true, decide_false, Nat.reduceAdd, Nat.reduceLT, x0, x1, eqD_s, n0, n2, a1, a2, a4, e, hn, kind_number]
      rfl)
/-! ### sifts -/
inductive Sf where
  | is (z : Str) (d : PyData) | isnt (z : Str) (d : PyData) | from (z : Str) (lo hi : Int)
def sfD : Sf → PyData
  | .is z d => .tuple [.str "is", .str z, d]
  | .isnt z d => .tuple [.str "not", .str z, d]
  | .from z lo hi => .tuple [.str "from", .str z, .int lo, .int hi]
def SfOk (cs : List Col) : Sf → Prop
  | .is z d => ∃ num, HasCol cs z num ∧ ValOk num d
  | .isnt z d => ∃ num, HasCol cs z num ∧ ValOk num d
  | .from z lo hi => HasCol cs z true ∧ -1000000 ≤ lo ∧ lo ≤ 1000000 ∧ -1000000 ≤ hi ∧ hi ≤ 1000000
theorem is_sift_ok {cs : List Col} (h : ColsOk cs) {k : Sf} (hk : SfOk cs k) : M_is_sift [.val (colsD cs), .val (sfD k)] = .ok (.bool true) [.un, .un] := by
  have n0 : eqD (.int ((3 : Nat) : Int)) (.int 0) = some (.bool false) := by rw [eqD_i]; rfl
  have n3 : eqD (.int ((3 : Nat) : Int)) (.int 3) = some (.bool true) := by rw [eqD_i]; rfl
  have f2 : fits 2 = true := rfl
  cases k with
  | is z d =>
    obtain ⟨num, ⟨i, c, hi, rfl, hn⟩, hv⟩ := hk
    subst hn
    have e := kind_ok h hi
    have e2 := is_value_ok hv
    have x0 : ixD (.tuple [.str "is", .str c.n, d]) (.int 0) = some (.str "is") := rfl
    have x1 : ixD (.tuple [.str "is", .str c.n, d]) (.int 1) = some (.str c.n) := rfl
    have x2 : ixD (.tuple [.str "is", .str c.n, d]) (.int 2) = some d := rfl
    have a1 : inD id (.str "is") (.tuple [.str "is", .str "not"]) = some (.bool true) := by kernel_rfl
    unfold M_is_sift mFn sfD
    simp only [mSeq, mSet, mSetO, mSet2, mRet, mRetN, mDrop, mIfS, mIf, mB, mTru, mAnd, mOr, mNot, mAndV, mOrV, mNotV, mChain, mRaise, mNx, m1, m2, mN, mNL, mVar, mC, mNil, mCons, mLst, mTup, mDsp, mCall, mANil, mAv, mAr, mAb, hasR, hasB, toSl, VL.bs, back, mMut, heldR, setR, peekR, mLenP, mLenO, mRd, mItA, mIt, mAsg, gNm, gTp, gSeq, mYes, mSl, mPs, mPn, mKn, ok_bind, Oc.bind, Oc.opt, lenD_l, lenD_t, tupD, truD, isi_str_str, isi_str_tup, isi_str_int, isi_str_non, isi_str_lst, isi_tup_tup, isi_tup_lst, isi_tup_str, isi_tup_int, isi_tup_non, isi_lst_lst, isi_lst_tup, isi_int_int, isi_int_str, isi_int_non, isi_bool_int, isi_int_tup, isi_bool_tup, isi_bool_str, isi_bool_non, isi_lst_str, isi_lst_int, isi_lst_non, isD, isntD, isNoneD, addD_i, subD_i, seqD, appendD, List.replicate, List.append_nil, List.cons_append, List.nil_append, List.getElem?_cons_zero, List.getElem?_cons_succ, List.set_cons_zero, List.set_cons_succ, List.length_cons, List.length_nil, List.nodup_nil, List.nodup_cons, List.not_mem_nil, not_false_eq_true, and_self, Option.map, if_true, if_false, Bool.false_eq_true, Bool.not_true, Bool.not_false, Bool.and_true, Bool.true_and, Bool.false_and, Bool.and_false, finR, Sl.fin, wipeR, restR, List.getD_cons_zero, List.getD_cons_succ, decide_true, decide_false, Nat.reduceAdd, Nat.reduceLT, x0, x1, x2, n0, n3, a1, e, e2, f2]
    rfl
  | isnt z d =>
    obtain ⟨num, ⟨i, c, hi, rfl, hn⟩, hv⟩ := hk
    subst hn
    have e := kind_ok h hi
    have e2 := is_value_ok hv
    have x0 : ixD (.tuple [.str "not", .str c.n, d]) (.int 0) = some (.str "not") := rfl
    have x1 : ixD (.tuple [.str "not", .str c.n, d]) (.int 1) = some (.str c.n) := rfl
    have x2 : ixD (.tuple [.str "not", .str c.n, d]) (.int 2) = some d := rfl
    have a1 : inD id (.str "not") (.tuple [.str "is", .str "not"]) = some (.bool true) := by kernel_rfl
    unfold M_is_sift mFn sfD
    simp only [mSeq, mSet, mSetO, mSet2, mRet, mRetN, mDrop, mIfS, mIf, mB, mTru, mAnd, mOr, mNot, mAndV, mOrV, mNotV, mChain, mRaise, mNx, m1, m2, mN, mNL, mVar, mC, mNil, mCons, mLst, mTup, mDsp, mCall, mANil, mAv, mAr, mAb, hasR, hasB, toSl, VL.bs, back, mMut, heldR, setR, peekR, mLenP, mLenO, mRd, mItA, mIt, mAsg, gNm, gTp, gSeq, mYes, mSl, mPs, mPn, mKn, ok_bind, Oc.bind, Oc.opt, lenD_l, lenD_t, tupD, truD, isi_str_str, isi_str_tup, isi_str_int, isi_str_non, isi_str_lst, isi_tup_tup, isi_tup_lst, isi_tup_str, isi_tup_int, isi_tup_non, isi_lst_lst, isi_lst_tup, isi_int_int, isi_int_str, isi_int_non, isi_bool_int, isi_int_tup, isi_bool_tup, isi_bool_str, isi_bool_non, isi_lst_str, isi_lst_int, isi_lst_non, isD, isntD, isNoneD, addD_i, subD_i, seqD, appendD, List.replicate, List.append_nil, List.cons_append, List.nil_append, List.getElem?_cons_zero, List.getElem?_cons_succ, List.set_cons_zero, List.set_cons_succ, List.length_cons, List.length_nil, List.nodup_nil, List.nodup_cons, List.not_mem_nil, not_false_eq_true, and_self, Option.map, if_true, if_false, Bool.false_eq_true, Bool.not_true, Bool.not_false, Bool.and_true, Bool.true_and, Bool.false_and, Bool.and_false, finR, Sl.fin, wipeR, restR, List.getD_cons_zero, List.getD_cons_succ, decide_true, decide_false, Nat.reduceAdd, Nat.reduceLT, x0, x1, x2, n0, n3, a1, e, e2, f2]
    rfl
  | «from» z lo hi' =>
    obtain ⟨⟨i, c, hi, rfl, hn⟩, h1, h2, h3, h4⟩ := hk
    have e := kind_ok h hi
    have e1 := is_whole_ok h1 h2
    have e2 := is_whole_ok h3 h4
    have x0 : ixD (.tuple [.str "from", .str c.n, .int lo, .int hi']) (.int 0) = some (.str "from") := rfl
    have x1 : ixD (.tuple [.str "from", .str c.n, .int lo, .int hi']) (.int 1) = some (.str c.n) := rfl
    have m0 : eqD (.int ((4 : Nat) : Int)) (.int 0) = some (.bool false) := by rw [eqD_i]; rfl
    have m4 : neD (.int ((4 : Nat) : Int)) (.int 4) = some (.bool false) := by rw [neD_i]; rfl
    have a1 : inD id (.str "from") (.tuple [.str "is", .str "not"]) = some (.bool false) := by kernel_rfl
    have a2 : neD (.str "from") (.str "from") = some (.bool false) := by rw [neD_g rfl rfl]; simp
    have a3 : neD (.str (kindS c.num)) (.str "number") = some (.bool false) := by
      rw [hn, neD_g rfl rfl]
      have : (PyData.str (kindS true)) = .str (Str.ofString "number") := rfl
      simp [this]
    have s1 : slD (.tuple [.str "from", .str c.n, .int lo, .int hi']) (some 2) none = some (.tuple [.int lo, .int hi']) := rfl
    have f1 := mLc_map (fs := mIt (mSl (mVar 1) (mPs (mC (.int 2))) mPn)) (g := gNm 3) (f := mCall M_is_whole (mAv (mVar 3) (mAv (m2 subD (mC (.int 0)) (mC (.int 1000000))) (mAv (mC (.int 1000000)) mANil)))) (vs := [3])
      (ρ := [.val (colsD cs), .val (.tuple [.str "from", .str c.n, .int lo, .int hi']), .un, .un]) (ρ1 := [.val (colsD cs), .val (.tuple [.str "from", .str c.n, .int lo, .int hi']), .un, .un]) [lo, hi'] PyData.int (fun _ => .bool true) (by simp only [mSeq, mSet, mSetO, mSet2, mRet, mRetN, mDrop, mIfS, mIf, mB, mTru, mAnd, mOr, mNot, mAndV, mOrV, mNotV, mChain, mRaise, mNx, m1, m2, mN, mNL, mVar, mC, mNil, mCons, mLst, mTup, mDsp, mCall, mANil, mAv, mAr, mAb, hasR, hasB, toSl, VL.bs, back, mMut, heldR, setR, peekR, mLenP, mLenO, mRd, mItA, mIt, mAsg, gNm, gTp, gSeq, mYes, mSl, mPs, mPn, mKn, ok_bind, Oc.bind, Oc.opt, lenD_l, lenD_t, tupD, truD, isi_str_str, isi_str_tup, isi_str_int, isi_str_non, isi_str_lst, isi_tup_tup, isi_tup_lst, isi_tup_str, isi_tup_int, isi_tup_non, isi_lst_lst, isi_lst_tup, isi_int_int, isi_int_str, isi_int_non, isi_bool_int, isi_int_tup, isi_bool_tup, isi_bool_str, isi_bool_non, isi_lst_str, isi_lst_int, isi_lst_non, isD, isntD, isNoneD, addD_i, subD_i, seqD, appendD, List.replicate, List.append_nil, List.cons_append, List.nil_append, List.getElem?_cons_zero, List.getElem?_cons_succ, List.set_cons_zero, List.set_cons_succ, List.length_cons, List.length_nil, List.nodup_nil, List.nodup_cons, List.not_mem_nil, not_false_eq_true, and_self, Option.map, if_true, if_false, Bool.false_eq_true, Bool.not_true, Bool.not_false, Bool.and_true, Bool.true_and, Bool.false_and, Bool.and_false, finR, Sl.fin, wipeR, restR, List.getD_cons_zero, List.getD_cons_succ, decide_true, decide_false, Nat.reduceAdd, Nat.reduceLT, s1]; rfl) rfl
      (fun j hj => ⟨[.val (colsD cs), .val (.tuple [.str "from", .str c.n, .int lo, .int hi']), .un, .val (.int j)], rfl, by
        simp only [List.mem_cons, List.not_mem_nil, or_false] at hj
        rcases hj with rfl | rfl
        · simp only [mSeq, mSet, mSetO, mSet2, mRet, mRetN, mDrop, mIfS, mIf, mB, mTru, mAnd, mOr, mNot, mAndV, mOrV, mNotV, mChain, mRaise, mNx, m1, m2, mN, mNL, mVar, mC, mNil, mCons, mLst, mTup, mDsp, mCall, mANil, mAv, mAr, mAb, hasR, hasB, toSl, VL.bs, back, mMut, heldR, setR, peekR, mLenP, mLenO, mRd, mItA, mIt, mAsg, gNm, gTp, gSeq, mYes, mSl, mPs, mPn, mKn, ok_bind, Oc.bind, Oc.opt, lenD_l, lenD_t, tupD, truD, isi_str_str, isi_str_tup, isi_str_int, isi_str_non, isi_str_lst, isi_tup_tup, isi_tup_lst, isi_tup_str, isi_tup_int, isi_tup_non, isi_lst_lst, isi_lst_tup, isi_int_int, isi_int_str, isi_int_non, isi_bool_int, isi_int_tup, isi_bool_tup, isi_bool_str, isi_bool_non, isi_lst_str, isi_lst_int, isi_lst_non, isD, isntD, isNoneD, addD_i, subD_i, seqD, appendD, List.replicate, List.append_nil, List.cons_append, List.nil_append, List.getElem?_cons_zero, List.getElem?_cons_succ, List.set_cons_zero, List.set_cons_succ, List.length_cons, List.length_nil, List.nodup_nil, List.nodup_cons, List.not_mem_nil, not_false_eq_true, and_self, Option.map, if_true, if_false, Bool.false_eq_true, Bool.not_true, Bool.not_false, Bool.and_true, Bool.true_and, Bool.false_and, Bool.and_false, finR, Sl.fin, wipeR, restR, List.getD_cons_zero, List.getD_cons_succ, decide_true, decide_false, Nat.reduceAdd, Nat.reduceLT, Int.zero_sub, e1]
        · simp only [mSeq, mSet, mSetO, mSet2, mRet, mRetN, mDrop, mIfS, mIf, mB, mTru, mAnd, mOr, mNot, mAndV, mOrV, mNotV, mChain, mRaise, mNx, m1, m2, mN, mNL, mVar, mC, mNil, mCons, mLst, mTup, mDsp, mCall, mANil, mAv, mAr, mAb, hasR, hasB, toSl, VL.bs, back, mMut, heldR, setR, peekR, mLenP, mLenO, mRd, mItA, mIt, mAsg, gNm, gTp, gSeq, mYes, mSl, mPs, mPn, mKn, ok_bind, Oc.bind, Oc.opt, lenD_l, lenD_t, tupD, truD, isi_str_str, isi_str_tup, isi_str_int, isi_str_non, isi_str_lst, isi_tup_tup, isi_tup_lst, isi_tup_str, isi_tup_int, isi_tup_non, isi_lst_lst, isi_lst_tup, isi_int_int, isi_int_str, isi_int_non, isi_bool_int, isi_int_tup, isi_bool_tup, isi_bool_str, isi_bool_non, isi_lst_str, isi_lst_int, isi_lst_non, isD, isntD, isNoneD, addD_i, subD_i, seqD, appendD, List.replicate, List.append_nil, List.cons_append, List.nil_append, List.getElem?_cons_zero, List.getElem?_cons_succ, List.set_cons_zero, List.set_cons_succ, List.length_cons, List.length_nil, List.nodup_nil, List.nodup_cons, List.not_mem_nil, not_false_eq_true, and_self, Option.map, if_true, if_false, Bool.false_eq_true, Bool.not_true, Bool.not_false, Bool.and_true, Bool.true_and, Bool.false_and, Bool.and_false, finR, Sl.fin, wipeR, restR, List.getD_cons_zero, List.getD_cons_succ, decide_true, decide_false, Nat.reduceAdd, Nat.reduceLT, Int.zero_sub, e2], rfl, rfl⟩) (by simp)
    have e4 := allD_map [lo, hi'] (fun _ => true) (fun _ _ => rfl)
    unfold M_is_sift mFn sfD
    simp only [mSeq, mSet, mSetO, mSet2, mRet, mRetN, mDrop, mIfS, mIf, mB, mTru, mAnd, mOr, mNot, mAndV, mOrV, mNotV, mChain, mRaise, mNx, m1, m2, mN, mNL, mVar, mC, mNil, mCons, mLst, mTup, mDsp, mCall, mANil, mAv, mAr, mAb, hasR, hasB, toSl, VL.bs, back, mMut, heldR, setR, peekR, mLenP, mLenO, mRd, mItA, mIt, mAsg, gNm, gTp, gSeq, mYes, mSl, mPs, mPn, mKn, ok_bind, Oc.bind, Oc.opt, lenD_l, lenD_t, tupD, truD, isi_str_str, isi_str_tup, isi_str_int, isi_str_non, isi_str_lst, isi_tup_tup, isi_tup_lst, isi_tup_str, isi_tup_int, isi_tup_non, isi_lst_lst, isi_lst_tup, isi_int_int, isi_int_str, isi_int_non, isi_bool_int, isi_int_tup, isi_bool_tup, isi_bool_str, isi_bool_non, isi_lst_str, isi_lst_int, isi_lst_non, isD, isntD, isNoneD, addD_i, subD_i, seqD, appendD, List.replicate, List.append_nil, List.cons_append, List.nil_append, List.getElem?_cons_zero, List.getElem?_cons_succ, List.set_cons_zero, List.set_cons_succ, List.length_cons, List.length_nil, List.nodup_nil, List.nodup_cons, List.not_mem_nil, not_false_eq_true, and_self, Option.map, if_true, if_false, Bool.false_eq_true, Bool.not_true, Bool.not_false, Bool.and_true, Bool.true_and, Bool.false_and, Bool.and_false, finR, Sl.fin, wipeR, restR, List.getD_cons_zero, List.getD_cons_succ, decide_true, decide_false, Nat.reduceAdd, Nat.reduceLT, x0, x1, m0, m4, a1, a2, a3, e, f1, e4, f2]
    rfl
/-! ### plans -/
structure Pn where
  rk : List Ky
  ck : List Ky
  sm : List Sm
  sf : List Sf
def pnD (p : Pn) : PyData := .tuple [.tuple (p.rk.map kyD), .tuple (p.ck.map kyD), .tuple (p.sm.map smD), .tuple (p.sf.map sfD)]
structure PnOk (cs : List Col) (p : Pn) : Prop where
  r3 : p.rk.length ≤ 3
  c3 : p.ck.length ≤ 3
  s4 : p.sm.length ≤ 4
  s1 : 1 ≤ p.sm.length
  f3 : p.sf.length ≤ 3
  rk : ∀ k ∈ p.rk, KyOk cs k
  ck : ∀ k ∈ p.ck, KyOk cs k
  sm : ∀ k ∈ p.sm, SmOk cs k
  sf : ∀ k ∈ p.sf, SfOk cs k
theorem are_all_ok {α : Type} {cs : List Col} {n : Nat} {m : Mir} {enc : α → PyData} (xs : List α) (most : Int) (hl : (xs.length : Int) ≤ most) (hm : most ≤ 100) (hL : List.lookup n [(0, M_is_key), (1, M_is_sum), (2, M_is_sift)] = some m)
    (hx : ∀ x ∈ xs, m [.val (colsD cs), .val (enc x)] = .ok (.bool true) [.un, .un]) : M_are_all [.val (.tuple (xs.map enc)), .val (.int most), .fn n, .val (colsD cs)] = .ok (.bool true) [.un, .un, .un, .un] := by
  have l1 : lenD [.tuple (xs.map enc)] = some (.int (xs.length : Nat)) := by rw [lenD_t, List.length_map]
  have f1 := mLc_map (fs := mIt (mVar 0)) (g := gNm 4) (f := mCallL 2 [(0, M_is_key), (1, M_is_sum), (2, M_is_sift)] (mAv (mVar 3) (mAv (mVar 4) mANil))) (vs := [4])
    (ρ := [.val (.tuple (xs.map enc)), .val (.int most), .fn n, .val (colsD cs), .un]) (ρ1 := [.val (.tuple (xs.map enc)), .val (.int most), .fn n, .val (colsD cs), .un]) xs enc (fun _ => .bool true) rfl rfl
    (fun x hm' => ⟨[.val (.tuple (xs.map enc)), .val (.int most), .fn n, .val (colsD cs), .val (enc x)], rfl, by
      have e := hx x hm'
      simp only [mSeq, mSet, mSetO, mSet2, mRet, mRetN, mDrop, mIfS, mIf, mB, mTru, mAnd, mOr, mNot, mAndV, mOrV, mNotV, mChain, mRaise, mNx, m1, m2, mN, mNL, mVar, mC, mNil, mCons, mLst, mTup, mDsp, mCall, mANil, mAv, mAr, mAb, hasR, hasB, toSl, VL.bs, back, mMut, heldR, setR, peekR, mLenP, mLenO, mRd, mItA, mIt, mAsg, gNm, gTp, gSeq, mYes, mSl, mPs, mPn, mKn, ok_bind, Oc.bind, Oc.opt, lenD_l, lenD_t, tupD, truD, isi_str_str, isi_str_tup, isi_str_int, isi_str_non, isi_str_lst, isi_tup_tup, isi_tup_lst, isi_tup_str, isi_tup_int, isi_tup_non, isi_lst_lst, isi_lst_tup, isi_int_int, isi_int_str, isi_int_non, isi_bool_int, isi_int_tup, isi_bool_tup, isi_bool_str, isi_bool_non, isi_lst_str, isi_lst_int, isi_lst_non, isD, isntD, isNoneD, addD_i, subD_i, seqD, appendD, List.replicate, List.append_nil, List.cons_append, List.nil_append, List.getElem?_cons_zero, List.getElem?_cons_succ, List.set_cons_zero, List.set_cons_succ, List.length_cons, List.length_nil, List.nodup_nil, List.nodup_cons, List.not_mem_nil, not_false_eq_true, and_self, Option.map, if_true, if_false, Bool.false_eq_true, Bool.not_true, Bool.not_false, Bool.and_true, Bool.true_and, Bool.false_and, Bool.and_false, finR, Sl.fin, wipeR, restR, List.getD_cons_zero, List.getD_cons_succ, decide_true, decide_false, Nat.reduceAdd, Nat.reduceLT, mCallL, hL, e], rfl, rfl⟩) (by omega)
  have e4 := allD_map xs (fun _ => true) (fun _ _ => rfl)
  unfold M_are_all mFn
  simp only [mSeq, mSet, mSetO, mSet2, mRet, mRetN, mDrop, mIfS, mIf, mB, mTru, mAnd, mOr, mNot, mAndV, mOrV, mNotV, mChain, mRaise, mNx, m1, m2, mN, mNL, mVar, mC, mNil, mCons, mLst, mTup, mDsp, mCall, mANil, mAv, mAr, mAb, hasR, hasB, toSl, VL.bs, back, mMut, heldR, setR, peekR, mLenP, mLenO, mRd, mItA, mIt, mAsg, gNm, gTp, gSeq, mYes, mSl, mPs, mPn, mKn, ok_bind, Oc.bind, Oc.opt, lenD_l, lenD_t, tupD, truD, isi_str_str, isi_str_tup, isi_str_int, isi_str_non, isi_str_lst, isi_tup_tup, isi_tup_lst, isi_tup_str, isi_tup_int, isi_tup_non, isi_lst_lst, isi_lst_tup, isi_int_int, isi_int_str, isi_int_non, isi_bool_int, isi_int_tup, isi_bool_tup, isi_bool_str, isi_bool_non, isi_lst_str, isi_lst_int, isi_lst_non, isD, isntD, isNoneD, addD_i, subD_i, seqD, appendD, List.replicate, List.append_nil, List.cons_append, List.nil_append, List.getElem?_cons_zero, List.getElem?_cons_succ, List.set_cons_zero, List.set_cons_succ, List.length_cons, List.length_nil, List.nodup_nil, List.nodup_cons, List.not_mem_nil, not_false_eq_true, and_self, Option.map, if_true, if_false, Bool.false_eq_true, Bool.not_true, Bool.not_false, Bool.and_true, Bool.true_and, Bool.false_and, Bool.and_false, finR, Sl.fin, wipeR, restR, List.getD_cons_zero, List.getD_cons_succ, decide_true, decide_false, Nat.reduceAdd, Nat.reduceLT, l1, leD_t hl, f1, e4]
  rfl
theorem look_plan_ok {cs : List Col} {p : Pn} (h : ColsOk cs) (hp : PnOk cs p) : M_look_plan [.val (colsD cs), .val (pnD p)] = .ok .none [.un, .un] := by
  have e0 := look_columns_ok h
  have a1 := are_all_ok (cs := cs) (n := 0) (enc := kyD) p.rk 3 (by have := hp.r3; omega) (by decide) rfl (fun k hk => is_key_ok h (hp.rk k hk))
  have a2 := are_all_ok (cs := cs) (n := 0) (enc := kyD) p.ck 3 (by have := hp.c3; omega) (by decide) rfl (fun k hk => is_key_ok h (hp.ck k hk))
  have a3 := are_all_ok (cs := cs) (n := 1) (enc := smD) p.sm 4 (by have := hp.s4; omega) (by decide) rfl (fun k hk => is_sum_ok h (hp.sm k hk))
  have a4 := are_all_ok (cs := cs) (n := 2) (enc := sfD) p.sf 3 (by have := hp.f3; omega) (by decide) rfl (fun k hk => is_sift_ok h (hp.sf k hk))
  have x0 : ixD (pnD p) (.int 0) = some (.tuple (p.rk.map kyD)) := rfl
  have x1 : ixD (pnD p) (.int 1) = some (.tuple (p.ck.map kyD)) := rfl
  have x2 : ixD (pnD p) (.int 2) = some (.tuple (p.sm.map smD)) := rfl
  have x3 : ixD (pnD p) (.int 3) = some (.tuple (p.sf.map sfD)) := rfl
  have t1 : isiD "tuple" (pnD p) = some (.bool true) := rfl
  have l1 : lenD [pnD p] = some (.int ((4 : Nat) : Int)) := rfl
  have m4 : neD (.int ((4 : Nat) : Int)) (.int 4) = some (.bool false) := by rw [neD_i]; rfl
  have l2 : eqD (.int ((p.sm.map smD).length : Nat)) (.int 0) = some (.bool false) := by
    rw [eqD_i, List.length_map, decide_eq_false (by have := hp.s1; omega)]
  unfold M_look_plan mFn
  simp only [mSeq, mSet, mSetO, mSet2, mRet, mRetN, mDrop, mIfS, mIf, mB, mTru, mAnd, mOr, mNot, mAndV, mOrV, mNotV, mChain, mRaise, mNx, m1, m2, mN, mNL, mVar, mC, mNil, mCons, mLst, mTup, mDsp, mCall, mANil, mAv, mAr, mAb, hasR, hasB, toSl, VL.bs, back, mMut, heldR, setR, peekR, mLenP, mLenO, mRd, mItA, mIt, mAsg, gNm, gTp, gSeq, mYes, mSl, mPs, mPn, mKn, ok_bind, Oc.bind, Oc.opt, lenD_l, lenD_t, tupD, truD, isi_str_str, isi_str_tup, isi_str_int, isi_str_non, isi_str_lst, isi_tup_tup, isi_tup_lst, isi_tup_str, isi_tup_int, isi_tup_non, isi_lst_lst, isi_lst_tup, isi_int_int, isi_int_str, isi_int_non, isi_bool_int, isi_int_tup, isi_bool_tup, isi_bool_str, isi_bool_non, isi_lst_str, isi_lst_int, isi_lst_non, isD, isntD, isNoneD, addD_i, subD_i, seqD, appendD, List.replicate, List.append_nil, List.cons_append, List.nil_append, List.getElem?_cons_zero, List.getElem?_cons_succ, List.set_cons_zero, List.set_cons_succ, List.length_cons, List.length_nil, List.nodup_nil, List.nodup_cons, List.not_mem_nil, not_false_eq_true, and_self, Option.map, if_true, if_false, Bool.false_eq_true, Bool.not_true, Bool.not_false, Bool.and_true, Bool.true_and, Bool.false_and, Bool.and_false, finR, Sl.fin, wipeR, restR, List.getD_cons_zero, List.getD_cons_succ, decide_true, decide_false, Nat.reduceAdd, Nat.reduceLT, mAf, e0, a1, a2, a3, a4, x0, x1, x2, x3, t1, l1, m4, l2]
  rfl
theorem look_all_ok {cs : List Col} {rs : List (List PyData)} {p : Pn} (h : TabOk cs rs) (hp : PnOk cs p) : M_look_all [.val (tabD cs rs), .val (pnD p)] = .ok .none [.un, .un] := by
  have e0 := look_table_ok h
  have e1 := look_plan_ok h.cols hp
  have x0 : ixD (tabD cs rs) (.int 0) = some (colsD cs) := rfl
  unfold M_look_all mFn
  simp only [mSeq, mSet, mSetO, mSet2, mRet, mRetN, mDrop, mIfS, mIf, mB, mTru, mAnd, mOr, mNot, mAndV, mOrV, mNotV, mChain, mRaise, mNx, m1, m2, mN, mNL, mVar, mC, mNil, mCons, mLst, mTup, mDsp, mCall, mANil, mAv, mAr, mAb, hasR, hasB, toSl, VL.bs, back, mMut, heldR, setR, peekR, mLenP, mLenO, mRd, mItA, mIt, mAsg, gNm, gTp, gSeq, mYes, mSl, mPs, mPn, mKn, ok_bind, Oc.bind, Oc.opt, lenD_l, lenD_t, tupD, truD, isi_str_str, isi_str_tup, isi_str_int, isi_str_non, isi_str_lst, isi_tup_tup, isi_tup_lst, isi_tup_str, isi_tup_int, isi_tup_non, isi_lst_lst, isi_lst_tup, isi_int_int, isi_int_str, isi_int_non, isi_bool_int, isi_int_tup, isi_bool_tup, isi_bool_str, isi_bool_non, isi_lst_str, isi_lst_int, isi_lst_non, isD, isntD, isNoneD, addD_i, subD_i, seqD, appendD, List.replicate, List.append_nil, List.cons_append, List.nil_append, List.getElem?_cons_zero, List.getElem?_cons_succ, List.set_cons_zero, List.set_cons_succ, List.length_cons, List.length_nil, List.nodup_nil, List.nodup_cons, List.not_mem_nil, not_false_eq_true, and_self, Option.map, if_true, if_false, Bool.false_eq_true, Bool.not_true, Bool.not_false, Bool.and_true, Bool.true_and, Bool.false_and, Bool.and_false, finR, Sl.fin, wipeR, restR, List.getD_cons_zero, List.getD_cons_succ, decide_true, decide_false, Nat.reduceAdd, Nat.reduceLT, e0, e1, x0]
  rfl
end VL

set_option Elab.async false
set_option linter.all false
set_option maxRecDepth 100000
set_option maxHeartbeats 4000000
/-! VM6: what keys make of rows, which rows count. -/
namespace VL
open PySem L2
def outD (o : Oc PyData) : PyData := match o with
  | .ok d _ => d
  | _ => .none
def Leaf' (num : Bool) (d : PyData) : Prop := d = .none ∨ (num = true ∧ ∃ i, d = .int i ∧ -2000000 ≤ i ∧ i ≤ 2000000) ∨ (num = false ∧ ∃ z, d = .str z)
theorem Leaf'.gd {num : Bool} {d : PyData} (h : Leaf' num d) (n : Nat) : gdn n d = true := by
  rcases h with rfl | ⟨_, i, rfl, _⟩ | ⟨_, z, rfl⟩ <;> cases n <;> rfl
theorem ValOk.leaf {num : Bool} {d : PyData} (h : ValOk num d) : Leaf' num d := by
  rcases h with rfl | ⟨h, i, rfl, h1, h2⟩ | ⟨h, z, rfl, _⟩
  · exact .inl rfl
  · exact .inr (.inl ⟨h, i, rfl, by omega, by omega⟩)
  · exact .inr (.inr ⟨h, z, rfl⟩)
def KyKind (cs : List Col) : Ky → Bool → Prop
  | .col z, num => HasCol cs z num
  | .band _ _, num => num = true
  | .fst _ _, num => num = false
theorem band_lo {i w : Int} (h1 : -1000000 ≤ i) (h2 : i ≤ 1000000) (h3 : 1 ≤ w) (h4 : w ≤ 1000000) : (-1000000 ≤ i / w ∧ i / w ≤ 1000000) ∧ -2000000 ≤ i / w * w ∧ i / w * w ≤ 2000000 := by
  have a := Int.ediv_mul_le i (show w ≠ 0 by omega)
  have b := Int.lt_ediv_add_one_mul_self i (show 0 < w by omega)
  rw [Int.add_mul, Int.one_mul] at b
  refine ⟨⟨?_, ?_⟩, by omega, by omega⟩
  · refine (Int.le_ediv_iff_mul_le (by omega)).mpr ?_
    omega
  · refine Int.ediv_le_of_le_mul (by omega) ?_
    omega
theorem row_at {cs : List Col} {r : List PyData} (h : RowOk cs r) {i : Nat} {c : Col} (hi : cs[i]? = some c) : ∃ d, r[i]? = some d ∧ ValOk c.num d ∧ ixD (.tuple r) (.int (i : Int)) = some d := by
  have li := (List.getElem?_eq_some_iff.mp hi).1
  have lr : i < r.length := by rw [h.len]; exact li
  have e := List.getElem?_eq_getElem lr
  refine ⟨r[i], e, h.val i c _ hi e, ?_⟩
  show atI r (i : Int) = _
  rw [atI_n, e]
/-- the place of a column -/
def plc (cs : List Col) (z : Str) : Nat := cs.findIdx fun c => decide (c.n = z)
theorem plc_is {cs : List Col} (hc : ColsOk cs) {i : Nat} {c : Col} (hi : cs[i]? = some c) : plc cs c.n = i := by
  have li := (List.getElem?_eq_some_iff.mp hi).1
  have hlt : plc cs c.n < cs.length := List.findIdx_lt_length_of_exists ⟨c, List.mem_of_getElem? hi, by simp⟩
  have := List.findIdx_getElem (p := fun d : Col => decide (d.n = c.n)) (xs := cs) (w := hlt)
  exact (cols_one hc hi (List.getElem?_eq_getElem hlt)).mp (of_decide_eq_true this)
theorem at_plc {cs : List Col} (hc : ColsOk cs) {i : Nat} {c : Col} (hi : cs[i]? = some c) {r : List PyData} {d : PyData} (hd : r[i]? = some d) : r.getD (plc cs c.n) .none = d := by
  rw [plc_is hc hi, List.getD_eq_getElem?_getD, hd]
  rfl
/-- what a key makes of a row -/
def kyV (cs : List Col) : Ky → List PyData → PyData
  | .col z, r => r.getD (plc cs z) .none
  | .band z w, r => match r.getD (plc cs z) .none with
    | .int j => .int (j / w * w)
    | _ => .none
  | .fst z w, r => match r.getD (plc cs z) .none with
    | .str y => .str (cutS y none (some w))
    | _ => .none
noncomputable def kv (cs : List Col) (k : Ky) (r : List PyData) : PyData := outD (M_key_in [.val (colsD cs), .val (kyD k), .val (.tuple r)])
theorem key_in_ex {cs : List Col} {r : List PyData} (hc : ColsOk cs) (hr : RowOk cs r) {k : Ky} (hk : KyOk cs k) : ∃ d num, d = kyV cs k r ∧ KyKind cs k num ∧ Leaf' num d ∧ M_key_in [.val (colsD cs), .val (kyD k), .val (.tuple r)] = .ok d [.un, .un, .un] := by
  cases k with
  | col z =>
    obtain ⟨num, i, c, hi, rfl, hn⟩ := hk
    subst hn
    obtain ⟨d, ha, hv, e⟩ := row_at hr hi
    have e1 := place_ok hc hi
    refine ⟨d, c.num, (at_plc hc hi ha).symm, ⟨i, c, hi, rfl, rfl⟩, hv.leaf, ?_⟩
    unfold M_key_in mFn kyD
    simp only [mSeq, mSet, mSetO, mSet2, mRet, mRetN, mDrop, mIfS, mIf, mB, mTru, mAnd, mOr, mNot, mAndV, mOrV, mNotV, mChain, mRaise, mNx, m1, m2, mN, mNL, mVar, mC, mNil, mCons, mLst, mTup, mDsp, mCall, mANil, mAv, mAr, mAb, hasR, hasB, toSl, VL.bs, back, mMut, heldR, setR, peekR, mLenP, mLenO, mRd, mItA, mIt, mAsg, gNm, gTp, gSeq, mYes, mSl, mPs, mPn, mKn, ok_bind, Oc.bind, Oc.opt, lenD_l, lenD_t, tupD, truD, isi_str_str, isi_str_tup, isi_str_int, isi_str_non, isi_str_lst, isi_tup_tup, isi_tup_lst, isi_tup_str, isi_tup_int, isi_tup_non, isi_lst_lst, isi_lst_tup, isi_int_int, isi_int_str, isi_int_non, isi_bool_int, isi_int_tup, isi_bool_tup, isi_bool_str, isi_bool_non, isi_lst_str, isi_lst_int, isi_lst_non, isD, isntD, isNoneD, addD_i, subD_i, seqD, appendD, List.replicate, List.append_nil, List.cons_append, List.nil_append, List.getElem?_cons_zero, List.getElem?_cons_succ, List.set_cons_zero, List.set_cons_succ, List.length_cons, List.length_nil, List.nodup_nil, List.nodup_cons, List.not_mem_nil, not_false_eq_true, and_self, Option.map, if_true, if_false, Bool.false_eq_true, Bool.not_true, Bool.not_false, Bool.and_true, Bool.true_and, Bool.false_and, Bool.and_false, finR, Sl.fin, wipeR, restR, List.getD_cons_zero, List.getD_cons_succ, decide_true, decide_false, Nat.reduceAdd, Nat.reduceLT, e1, e]
    rfl
  | band z w =>
    obtain ⟨⟨i, c, hi, rfl, hn⟩, h1, h2⟩ := hk
    obtain ⟨d, ha, hv, e⟩ := row_at hr hi
    have hat := at_plc hc hi ha
    have e1 := place_ok hc hi
    have x0 : ixD (.tuple [.str "band", .str c.n, .int w]) (.int 0) = some (.str "band") := rfl
    have x1 : ixD (.tuple [.str "band", .str c.n, .int w]) (.int 1) = some (.str c.n) := rfl
    have x2 : ixD (.tuple [.str "band", .str c.n, .int w]) (.int 2) = some (.int w) := rfl
    rcases hv with rfl | ⟨_, j, rfl, h3, h4⟩ | ⟨h, _⟩
    · refine ⟨.none, true, by simp only [kyV, hat], rfl, .inl rfl, ?_⟩
      unfold M_key_in mFn kyD
      simp only [mSeq, mSet, mSetO, mSet2, mRet, mRetN, mDrop, mIfS, mIf, mB, mTru, mAnd, mOr, mNot, mAndV, mOrV, mNotV, mChain, mRaise, mNx, m1, m2, mN, mNL, mVar, mC, mNil, mCons, mLst, mTup, mDsp, mCall, mANil, mAv, mAr, mAb, hasR, hasB, toSl, VL.bs, back, mMut, heldR, setR, peekR, mLenP, mLenO, mRd, mItA, mIt, mAsg, gNm, gTp, gSeq, mYes, mSl, mPs, mPn, mKn, ok_bind, Oc.bind, Oc.opt, lenD_l, lenD_t, tupD, truD, isi_str_str, isi_str_tup, isi_str_int, isi_str_non, isi_str_lst, isi_tup_tup, isi_tup_lst, isi_tup_str, isi_tup_int, isi_tup_non, isi_lst_lst, isi_lst_tup, isi_int_int, isi_int_str, isi_int_non, isi_bool_int, isi_int_tup, isi_bool_tup, isi_bool_str, isi_bool_non, isi_lst_str, isi_lst_int, isi_lst_non, isD, isntD, isNoneD, addD_i, subD_i, seqD, appendD, List.replicate, List.append_nil, List.cons_append, List.nil_append, List.getElem?_cons_zero, List.getElem?_cons_succ, List.set_cons_zero, List.set_cons_succ, List.length_cons, List.length_nil, List.nodup_nil, List.nodup_cons, List.not_mem_nil, not_false_eq_true, and_self, Option.map, if_true, if_false, Bool.false_eq_true, Bool.not_true, Bool.not_false, Bool.and_true, Bool.true_and, Bool.false_and, Bool.and_false, finR, Sl.fin, wipeR, restR, List.getD_cons_zero, List.getD_cons_succ, decide_true, decide_false, Nat.reduceAdd, Nat.reduceLT, x0, x1, x2, e1, e]
      rfl
    · obtain ⟨⟨b1, b2⟩, b3, b4⟩ := band_lo h3 h4 h1 h2
      have e2 : divD (.int j) (.int w) = some (.int (j / w)) := divD_i (by omega) (by omega)
      have e3 : mulD (.int (j / w)) (.int w) = some (.int (j / w * w)) := mulD_i (by omega) (by omega)
      refine ⟨.int (j / w * w), true, by simp only [kyV, hat], rfl, .inr (.inl ⟨rfl, _, rfl, b3, b4⟩), ?_⟩
      unfold M_key_in mFn kyD
      simp only [mSeq, mSet, mSetO, mSet2, mRet, mRetN, mDrop, mIfS, mIf, mB, mTru, mAnd, mOr, mNot, mAndV, mOrV, mNotV, mChain, mRaise, mNx, m1, m2, mN, mNL, mVar, mC, mNil, mCons, mLst, mTup, mDsp, mCall, mANil, mAv, mAr, mAb, hasR, hasB, toSl, VL.bs, back, mMut, heldR, setR, peekR, mLenP, mLenO, mRd, mItA, mIt, mAsg, gNm, gTp, gSeq, mYes, mSl, mPs, mPn, mKn, ok_bind, Oc.bind, Oc.opt, lenD_l, lenD_t, tupD, truD, isi_str_str, isi_str_tup, isi_str_int, isi_str_non, isi_str_lst, isi_tup_tup, isi_tup_lst, isi_tup_str, isi_tup_int, isi_tup_non, isi_lst_lst, isi_lst_tup, isi_int_int, isi_int_str, isi_int_non, isi_bool_int, isi_int_tup, isi_bool_tup, isi_bool_str, isi_bool_non, isi_lst_str, isi_lst_int, isi_lst_non, isD, isntD, isNoneD, addD_i, subD_i, seqD, appendD, List.replicate, List.append_nil, List.cons_append, List.nil_append, List.getElem?_cons_zero, List.getElem?_cons_succ, List.set_cons_zero, List.set_cons_succ, List.length_cons, List.length_nil, List.nodup_nil, List.nodup_cons, List.not_mem_nil, not_false_eq_true, and_self, Option.map, if_true, if_false, Bool.false_eq_true, Bool.not_true, Bool.not_false, Bool.and_true, Bool.true_and, Bool.false_and, Bool.and_false, finR, Sl.fin, wipeR, restR, List.getD_cons_zero, List.getD_cons_succ, decide_true, decide_false, Nat.reduceAdd, Nat.reduceLT, x0, x1, x2, e1, e, eqD_s, e2, e3]
      rfl
    · rw [hn] at h; cases h
  | fst z w =>
    obtain ⟨⟨i, c, hi, rfl, hn⟩, h1, h2⟩ := hk
    obtain ⟨d, ha, hv, e⟩ := row_at hr hi
    have hat := at_plc hc hi ha
    have e1 := place_ok hc hi
    have x0 : ixD (.tuple [.str "first", .str c.n, .int w]) (.int 0) = some (.str "first") := rfl
    have x1 : ixD (.tuple [.str "first", .str c.n, .int w]) (.int 1) = some (.str c.n) := rfl
    have x2 : ixD (.tuple [.str "first", .str c.n, .int w]) (.int 2) = some (.int w) := rfl
    rcases hv with rfl | ⟨h, _⟩ | ⟨_, y, rfl, hy⟩
    · refine ⟨.none, false, by simp only [kyV, hat], rfl, .inl rfl, ?_⟩
      unfold M_key_in mFn kyD
      simp only [mSeq, mSet, mSetO, mSet2, mRet, mRetN, mDrop, mIfS, mIf, mB, mTru, mAnd, mOr, mNot, mAndV, mOrV, mNotV, mChain, mRaise, mNx, m1, m2, mN, mNL, mVar, mC, mNil, mCons, mLst, mTup, mDsp, mCall, mANil, mAv, mAr, mAb, hasR, hasB, toSl, VL.bs, back, mMut, heldR, setR, peekR, mLenP, mLenO, mRd, mItA, mIt, mAsg, gNm, gTp, gSeq, mYes, mSl, mPs, mPn, mKn, ok_bind, Oc.bind, Oc.opt, lenD_l, lenD_t, tupD, truD, isi_str_str, isi_str_tup, isi_str_int, isi_str_non, isi_str_lst, isi_tup_tup, isi_tup_lst, isi_tup_str, isi_tup_int, isi_tup_non, isi_lst_lst, isi_lst_tup, isi_int_int, isi_int_str, isi_int_non, isi_bool_int, isi_int_tup, isi_bool_tup, isi_bool_str, isi_bool_non, isi_lst_str, isi_lst_int, isi_lst_non, isD, isntD, isNoneD, addD_i, subD_i, seqD, appendD, List.replicate, List.append_nil, List.cons_append, List.nil_append, List.getElem?_cons_zero, List.getElem?_cons_succ, List.set_cons_zero, List.set_cons_succ, List.length_cons, List.length_nil, List.nodup_nil, List.nodup_cons, List.not_mem_nil, not_false_eq_true, and_self, Option.map, if_true, if_false, Bool.false_eq_true, Bool.not_true, Bool.not_false, Bool.and_true, Bool.true_and, Bool.false_and, Bool.and_false, finR, Sl.fin, wipeR, restR, List.getD_cons_zero, List.getD_cons_succ, decide_true, decide_false, Nat.reduceAdd, Nat.reduceLT, x0, x1, x2, e1, e]
      rfl
    · rw [hn] at h; cases h
    · have hl : y.length ≤ 16777216 := by
        simp only [wordB, Bool.and_eq_true, decide_eq_true_eq] at hy
        omega
      have e2 : slD (.str y) none (some w) = some (.str (cutS y none (some w))) := by
        show (if fits y.length = true then _ else _) = _
        rw [if_pos (show fits y.length = true from decide_eq_true hl)]
      refine ⟨.str (cutS y none (some w)), false, by simp only [kyV, hat], rfl, .inr (.inr ⟨rfl, _, rfl⟩), ?_⟩
      unfold M_key_in mFn kyD
      simp only [mSeq, mSet, mSetO, mSet2, mRet, mRetN, mDrop, mIfS, mIf, mB, mTru, mAnd, mOr, mNot, mAndV, mOrV, mNotV, mChain, mRaise, mNx, m1, m2, mN, mNL, mVar, mC, mNil, mCons, mLst, mTup, mDsp, mCall, mANil, mAv, mAr, mAb, hasR, hasB, toSl, VL.bs, back, mMut, heldR, setR, peekR, mLenP, mLenO, mRd, mItA, mIt, mAsg, gNm, gTp, gSeq, mYes, mSl, mPs, mPn, mKn, ok_bind, Oc.bind, Oc.opt, lenD_l, lenD_t, tupD, truD, isi_str_str, isi_str_tup, isi_str_int, isi_str_non, isi_str_lst, isi_tup_tup, isi_tup_lst, isi_tup_str, isi_tup_int, isi_tup_non, isi_lst_lst, isi_lst_tup, isi_int_int, isi_int_str, isi_int_non, isi_bool_int, isi_int_tup, isi_bool_tup, isi_bool_str, isi_bool_non, isi_lst_str, isi_lst_int, isi_lst_non, isD, isntD, isNoneD, addD_i, subD_i, seqD, appendD, List.replicate, List.append_nil, List.cons_append, List.nil_append, List.getElem?_cons_zero, List.getElem?_cons_succ, List.set_cons_zero, List.set_cons_succ, List.length_cons, List.length_nil, List.nodup_nil, List.nodup_cons, List.not_mem_nil, not_false_eq_true, and_self, Option.map, if_true, if_false, Bool.false_eq_true, Bool.not_true, Bool.not_false, Bool.and_true, Bool.true_and, Bool.false_and, Bool.and_false, finR, Sl.fin, wipeR, restR, List.getD_cons_zero, List.getD_cons_succ, decide_true, decide_false, Nat.reduceAdd, Nat.reduceLT, x0, x1, x2, e1, e, eqD_s, str_first_band, e2]
      rfl
theorem key_in_ok {cs : List Col} {r : List PyData} (hc : ColsOk cs) (hr : RowOk cs r) {k : Ky} (hk : KyOk cs k) : M_key_in [.val (colsD cs), .val (kyD k), .val (.tuple r)] = .ok (kv cs k r) [.un, .un, .un] ∧ ∃ num, KyKind cs k num ∧ Leaf' num (kv cs k r) := by
  obtain ⟨d, num, _, h1, h2, e⟩ := key_in_ex hc hr hk
  have : kv cs k r = d := by unfold kv; rw [e]; rfl
  rw [this]
  exact ⟨e, num, h1, h2⟩
theorem kv_is {cs : List Col} {r : List PyData} (hc : ColsOk cs) (hr : RowOk cs r) {k : Ky} (hk : KyOk cs k) : kv cs k r = kyV cs k r := by
  obtain ⟨d, num, h0, h1, h2, e⟩ := key_in_ex hc hr hk
  unfold kv
  rw [e]
  exact h0
noncomputable def pv (cs : List Col) (ks : List Ky) (r : List PyData) : PyData := .tuple (ks.map fun k => kv cs k r)
theorem path_in_ok {cs : List Col} {r : List PyData} (hc : ColsOk cs) (hr : RowOk cs r) {ks : List Ky} (hk : ∀ k ∈ ks, KyOk cs k) (hl : ks.length ≤ 10) : M_path_in [.val (colsD cs), .val (.tuple (ks.map kyD)), .val (.tuple r)] = .ok (pv cs ks r) [.un, .un, .un] := by
  have f1 := mLc_map (fs := mIt (mVar 1)) (g := gNm 3) (f := mCall M_key_in (mAv (mVar 0) (mAv (mVar 3) (mAv (mVar 2) mANil)))) (vs := [3])
    (ρ := [.val (colsD cs), .val (.tuple (ks.map kyD)), .val (.tuple r), .un]) (ρ1 := [.val (colsD cs), .val (.tuple (ks.map kyD)), .val (.tuple r), .un]) ks kyD (fun k => kv cs k r) rfl rfl
    (fun k hk' => ⟨[.val (colsD cs), .val (.tuple (ks.map kyD)), .val (.tuple r), .val (kyD k)], rfl, by
      have e := (key_in_ok hc hr (hk k hk')).1
      simp only [mSeq, mSet, mSetO, mSet2, mRet, mRetN, mDrop, mIfS, mIf, mB, mTru, mAnd, mOr, mNot, mAndV, mOrV, mNotV, mChain, mRaise, mNx, m1, m2, mN, mNL, mVar, mC, mNil, mCons, mLst, mTup, mDsp, mCall, mANil, mAv, mAr, mAb, hasR, hasB, toSl, VL.bs, back, mMut, heldR, setR, peekR, mLenP, mLenO, mRd, mItA, mIt, mAsg, gNm, gTp, gSeq, mYes, mSl, mPs, mPn, mKn, ok_bind, Oc.bind, Oc.opt, lenD_l, lenD_t, tupD, truD, isi_str_str, isi_str_tup, isi_str_int, isi_str_non, isi_str_lst, isi_tup_tup, isi_tup_lst, isi_tup_str, isi_tup_int, isi_tup_non, isi_lst_lst, isi_lst_tup, isi_int_int, isi_int_str, isi_int_non, isi_bool_int, isi_int_tup, isi_bool_tup, isi_bool_str, isi_bool_non, isi_lst_str, isi_lst_int, isi_lst_non, isD, isntD, isNoneD, addD_i, subD_i, seqD, appendD, List.replicate, List.append_nil, List.cons_append, List.nil_append, List.getElem?_cons_zero, List.getElem?_cons_succ, List.set_cons_zero, List.set_cons_succ, List.length_cons, List.length_nil, List.nodup_nil, List.nodup_cons, List.not_mem_nil, not_false_eq_true, and_self, Option.map, if_true, if_false, Bool.false_eq_true, Bool.not_true, Bool.not_false, Bool.and_true, Bool.true_and, Bool.false_and, Bool.and_false, finR, Sl.fin, wipeR, restR, List.getD_cons_zero, List.getD_cons_succ, decide_true, decide_false, Nat.reduceAdd, Nat.reduceLT, e], rfl, rfl⟩) (by omega)
  unfold M_path_in mFn
  simp only [mSeq, mSet, mSetO, mSet2, mRet, mRetN, mDrop, mIfS, mIf, mB, mTru, mAnd, mOr, mNot, mAndV, mOrV, mNotV, mChain, mRaise, mNx, m1, m2, mN, mNL, mVar, mC, mNil, mCons, mLst, mTup, mDsp, mCall, mANil, mAv, mAr, mAb, hasR, hasB, toSl, VL.bs, back, mMut, heldR, setR, peekR, mLenP, mLenO, mRd, mItA, mIt, mAsg, gNm, gTp, gSeq, mYes, mSl, mPs, mPn, mKn, ok_bind, Oc.bind, Oc.opt, lenD_l, lenD_t, tupD, truD, isi_str_str, isi_str_tup, isi_str_int, isi_str_non, isi_str_lst, isi_tup_tup, isi_tup_lst, isi_tup_str, isi_tup_int, isi_tup_non, isi_lst_lst, isi_lst_tup, isi_int_int, isi_int_str, isi_int_non, isi_bool_int, isi_int_tup, isi_bool_tup, isi_bool_str, isi_bool_non, isi_lst_str, isi_lst_int, isi_lst_non, isD, isntD, isNoneD, addD_i, subD_i, seqD, appendD, List.replicate, List.append_nil, List.cons_append, List.nil_append, List.getElem?_cons_zero, List.getElem?_cons_succ, List.set_cons_zero, List.set_cons_succ, List.length_cons, List.length_nil, List.nodup_nil, List.nodup_cons, List.not_mem_nil, not_false_eq_true, and_self, Option.map, if_true, if_false, Bool.false_eq_true, Bool.not_true, Bool.not_false, Bool.and_true, Bool.true_and, Bool.false_and, Bool.and_false, finR, Sl.fin, wipeR, restR, List.getD_cons_zero, List.getD_cons_succ, decide_true, decide_false, Nat.reduceAdd, Nat.reduceLT, f1]
  rfl
/-! ### which rows count -/
theorem neD_b (a b : Bool) : neD (.bool a) (.bool b) = some (.bool (a != b)) := by
  unfold neD
  have h1 : okD (.bool a) = true := rfl
  have h2 : okD (.bool b) = true := rfl
  rw [h1, h2]
  simp only [PyData.eqv, Bool.and_self, if_true]
  cases a <;> cases b <;> rfl
theorem eqD_v {num : Bool} {d e : PyData} (h1 : ValOk num d) (h2 : ValOk num e) : eqD d e = some (.bool (decide (d = e))) := eqD_g (h1.gd 50) (h2.gd 50)
/-- whether a sift lets a row by -/
noncomputable def sfB (cs : List Col) : Sf → List PyData → Bool
  | .is z v, r => decide (r.getD (plc cs z) .none = v)
  | .isnt z v, r => !decide (r.getD (plc cs z) .none = v)
  | .from z lo hi, r => match r.getD (plc cs z) .none with
    | .int j => decide (lo ≤ j) && decide (j ≤ hi)
    | _ => false
theorem sift_body {cs : List Col} {r : List PyData} (hc : ColsOk cs) (hr : RowOk cs r) (S : PyData) {k : Sf} (hk : SfOk cs k) (s4 : Sl) : ∃ fl s4', fl = (if sfB cs k r = true then Fl.nx else .rt (.bool false)) ∧ s4'.fin = Sl.un ∧
    (mSeq (mSet 4 (m2 ixD (mVar 2) (mCall M_place_of (mAv (mVar 0) (mAv (m2 ixD (mVar 3) (mC (.int 1))) mANil)))))
      (mIfS (mB (m2 eqD (m2 ixD (mVar 3) (mC (.int 0))) (mC (.str "from")))) (mIfS (mOr (mB (m2 isD (mVar 4) (mC .none))) (mNot (mB (mChain leD leD (m2 ixD (mVar 3) (mC (.int 2))) (mVar 4) (m2 ixD (mVar 3) (mC (.int 3))))))) (mRet (mC (.bool false))) mNx) (mIfS (mB (m2 neD (m2 eqD (mVar 4) (m2 ixD (mVar 3) (mC (.int 2)))) (m2 eqD (m2 ixD (mVar 3) (mC (.int 0))) (mC (.str "is"))))) (mRet (mC (.bool false))) mNx)))
      [.val (colsD cs), .val S, .val (.tuple r), .val (sfD k), s4] = .ok fl [.val (colsD cs), .val S, .val (.tuple r), .val (sfD k), s4'] := by
  have q1 : decide (Str.ofString "is" = Str.ofString "from") = false := by decide +kernel
  have q2 : decide (Str.ofString "not" = Str.ofString "from") = false := by decide +kernel
  have q3 : decide (Str.ofString "not" = Str.ofString "is") = false := by decide +kernel
  cases k with
  | is z v =>
    obtain ⟨num, ⟨i, c, hi, rfl, hn⟩, hv⟩ := hk
    subst hn
    obtain ⟨d, ha, hd, e⟩ := row_at hr hi
    have hat := at_plc hc hi ha
    have e1 := place_ok hc hi
    have x0 : ixD (.tuple [.str "is", .str c.n, v]) (.int 0) = some (.str "is") := rfl
    have x1 : ixD (.tuple [.str "is", .str c.n, v]) (.int 1) = some (.str c.n) := rfl
    have x2 : ixD (.tuple [.str "is", .str c.n, v]) (.int 2) = some v := rfl
    have e2 := eqD_v hd hv
    by_cases h : d = v
    · refine ⟨.nx, .val d, by simp only [sfB, hat]; simp [h], rfl, ?_⟩
      rw [decide_eq_true h] at e2
      unfold sfD
      simp only [mSeq, mSet, mSetO, mSet2, mRet, mRetN, mDrop, mIfS, mIf, mB, mTru, mAnd, mOr, mNot, mAndV, mOrV, mNotV, mChain, mRaise, mNx, m1, m2, mN, mNL, mVar, mC, mNil, mCons, mLst, mTup, mDsp, mCall, mANil, mAv, mAr, mAb, hasR, hasB, toSl, VL.bs, back, mMut, heldR, setR, peekR, mLenP, mLenO, mRd, mItA, mIt, mAsg, gNm, gTp, gSeq, mYes, mSl, mPs, mPn, mKn, ok_bind, Oc.bind, Oc.opt, lenD_l, lenD_t, tupD, truD, isi_str_str, isi_str_tup, isi_str_int, isi_str_non, isi_str_lst, isi_tup_tup, isi_tup_lst, isi_tup_str, isi_tup_int, isi_tup_non, isi_lst_lst, isi_lst_tup, isi_int_int, isi_int_str, isi_int_non, isi_bool_int, isi_int_tup, isi_bool_tup, isi_bool_str, isi_bool_non, isi_lst_str, isi_lst_int, isi_lst_non, isD, isntD, isNoneD, addD_i, subD_i, seqD, appendD, List.replicate, List.append_nil, List.cons_append, List.nil_append, List.getElem?_cons_zero, List.getElem?_cons_succ, List.set_cons_zero, List.set_cons_succ, List.length_cons, List.length_nil, List.nodup_nil, List.nodup_cons, List.not_mem_nil, not_false_eq_true, and_self, Option.map, if_true, if_false, Bool.false_eq_true, Bool.not_true, Bool.not_false, Bool.and_true, Bool.true_and, Bool.false_and, Bool.and_false, finR, Sl.fin, wipeR, restR, List.getD_cons_zero, List.getD_cons_succ, decide_true, decide_false, Nat.reduceAdd, Nat.reduceLT, x0, x1, x2, e1, e, eqD_s, q1, e2, neD_b, bne_self_eq_false]
    · refine ⟨.rt (.bool false), .val d, by simp only [sfB, hat]; simp [h], rfl, ?_⟩
      rw [decide_eq_false h] at e2
      have nb : neD (.bool false) (.bool true) = some (.bool true) := neD_b _ _
      unfold sfD
      simp only [mSeq, mSet, mSetO, mSet2, mRet, mRetN, mDrop, mIfS, mIf, mB, mTru, mAnd, mOr, mNot, mAndV, mOrV, mNotV, mChain, mRaise, mNx, m1, m2, mN, mNL, mVar, mC, mNil, mCons, mLst, mTup, mDsp, mCall, mANil, mAv, mAr, mAb, hasR, hasB, toSl, VL.bs, back, mMut, heldR, setR, peekR, mLenP, mLenO, mRd, mItA, mIt, mAsg, gNm, gTp, gSeq, mYes, mSl, mPs, mPn, mKn, ok_bind, Oc.bind, Oc.opt, lenD_l, lenD_t, tupD, truD, isi_str_str, isi_str_tup, isi_str_int, isi_str_non, isi_str_lst, isi_tup_tup, isi_tup_lst, isi_tup_str, isi_tup_int, isi_tup_non, isi_lst_lst, isi_lst_tup, isi_int_int, isi_int_str, isi_int_non, isi_bool_int, isi_int_tup, isi_bool_tup, isi_bool_str, isi_bool_non, isi_lst_str, isi_lst_int, isi_lst_non, isD, isntD, isNoneD, addD_i, subD_i, seqD, appendD, List.replicate, List.append_nil, List.cons_append, List.nil_append, List.getElem?_cons_zero, List.getElem?_cons_succ, List.set_cons_zero, List.set_cons_succ, List.length_cons, List.length_nil, List.nodup_nil, List.nodup_cons, List.not_mem_nil, not_false_eq_true, and_self, Option.map, if_true, if_false, Bool.false_eq_true, Bool.not_true, Bool.not_false, Bool.and_true, Bool.true_and, Bool.false_and, Bool.and_false, finR, Sl.fin, wipeR, restR, List.getD_cons_zero, List.getD_cons_succ, decide_true, decide_false, Nat.reduceAdd, Nat.reduceLT, x0, x1, x2, e1, e, eqD_s, q1, e2, nb]
  | isnt z v =>
    obtain ⟨num, ⟨i, c, hi, rfl, hn⟩, hv⟩ := hk
    subst hn
    obtain ⟨d, ha, hd, e⟩ := row_at hr hi
    have hat := at_plc hc hi ha
    have e1 := place_ok hc hi
    have x0 : ixD (.tuple [.str "not", .str c.n, v]) (.int 0) = some (.str "not") := rfl
    have x1 : ixD (.tuple [.str "not", .str c.n, v]) (.int 1) = some (.str c.n) := rfl
    have x2 : ixD (.tuple [.str "not", .str c.n, v]) (.int 2) = some v := rfl
    have e2 := eqD_v hd hv
    by_cases h : d = v
    · refine ⟨.rt (.bool false), .val d, by simp only [sfB, hat]; simp [h], rfl, ?_⟩
      rw [decide_eq_true h] at e2
      have nb : neD (.bool true) (.bool false) = some (.bool true) := neD_b _ _
      unfold sfD
      simp only [mSeq, mSet, mSetO, mSet2, mRet, mRetN, mDrop, mIfS, mIf, mB, mTru, mAnd, mOr, mNot, mAndV, mOrV, mNotV, mChain, mRaise, mNx, m1, m2, mN, mNL, mVar, mC, mNil, mCons, mLst, mTup, mDsp, mCall, mANil, mAv, mAr, mAb, hasR, hasB, toSl, VL.bs, back, mMut, heldR, setR, peekR, mLenP, mLenO, mRd, mItA, mIt, mAsg, gNm, gTp, gSeq, mYes, mSl, mPs, mPn, mKn, ok_bind, Oc.bind, Oc.opt, lenD_l, lenD_t, tupD, truD, isi_str_str, isi_str_tup, isi_str_int, isi_str_non, isi_str_lst, isi_tup_tup, isi_tup_lst, isi_tup_str, isi_tup_int, isi_tup_non, isi_lst_lst, isi_lst_tup, isi_int_int, isi_int_str, isi_int_non, isi_bool_int, isi_int_tup, isi_bool_tup, isi_bool_str, isi_bool_non, isi_lst_str, isi_lst_int, isi_lst_non, isD, isntD, isNoneD, addD_i, subD_i, seqD, appendD, List.replicate, List.append_nil, List.cons_append, List.nil_append, List.getElem?_cons_zero, List.getElem?_cons_succ, List.set_cons_zero, List.set_cons_succ, List.length_cons, List.length_nil, List.nodup_nil, List.nodup_cons, List.not_mem_nil, not_false_eq_true, and_self, Option.map, if_true, if_false, Bool.false_eq_true, Bool.not_true, Bool.not_false, Bool.and_true, Bool.true_and, Bool.false_and, Bool.and_false, finR, Sl.fin, wipeR, restR, List.getD_cons_zero, List.getD_cons_succ, decide_true, decide_false, Nat.reduceAdd, Nat.reduceLT, x0, x1, x2, e1, e, eqD_s, q2, q3, e2, nb]
    · refine ⟨.nx, .val d, by simp only [sfB, hat]; simp [h], rfl, ?_⟩
      rw [decide_eq_false h] at e2
      have nb : neD (.bool false) (.bool false) = some (.bool false) := neD_b _ _
      unfold sfD
      simp only [mSeq, mSet, mSetO, mSet2, mRet, mRetN, mDrop, mIfS, mIf, mB, mTru, mAnd, mOr, mNot, mAndV, mOrV, mNotV, mChain, mRaise, mNx, m1, m2, mN, mNL, mVar, mC, mNil, mCons, mLst, mTup, mDsp, mCall, mANil, mAv, mAr, mAb, hasR, hasB, toSl, VL.bs, back, mMut, heldR, setR, peekR, mLenP, mLenO, mRd, mItA, mIt, mAsg, gNm, gTp, gSeq, mYes, mSl, mPs, mPn, mKn, ok_bind, Oc.bind, Oc.opt, lenD_l, lenD_t, tupD, truD, isi_str_str, isi_str_tup, isi_str_int, isi_str_non, isi_str_lst, isi_tup_tup, isi_tup_lst, isi_tup_str, isi_tup_int, isi_tup_non, isi_lst_lst, isi_lst_tup, isi_int_int, isi_int_str, isi_int_non, isi_bool_int, isi_int_tup, isi_bool_tup, isi_bool_str, isi_bool_non, isi_lst_str, isi_lst_int, isi_lst_non, isD, isntD, isNoneD, addD_i, subD_i, seqD, appendD, List.replicate, List.append_nil, List.cons_append, List.nil_append, List.getElem?_cons_zero, List.getElem?_cons_succ, List.set_cons_zero, List.set_cons_succ, List.length_cons, List.length_nil, List.nodup_nil, List.nodup_cons, List.not_mem_nil, not_false_eq_true, and_self, Option.map, if_true, if_false, Bool.false_eq_true, Bool.not_true, Bool.not_false, Bool.and_true, Bool.true_and, Bool.false_and, Bool.and_false, finR, Sl.fin, wipeR, restR, List.getD_cons_zero, List.getD_cons_succ, decide_true, decide_false, Nat.reduceAdd, Nat.reduceLT, x0, x1, x2, e1, e, eqD_s, q2, q3, e2, nb]
  | «from» z lo hi' =>
    obtain ⟨⟨i, c, hi, rfl, hn⟩, h1, h2, h3, h4⟩ := hk
    obtain ⟨d, ha, hd, e⟩ := row_at hr hi
    have hat := at_plc hc hi ha
    have e1 := place_ok hc hi
    have x0 : ixD (.tuple [.str "from", .str c.n, .int lo, .int hi']) (.int 0) = some (.str "from") := rfl
    have x1 : ixD (.tuple [.str "from", .str c.n, .int lo, .int hi']) (.int 1) = some (.str c.n) := rfl
    have x2 : ixD (.tuple [.str "from", .str c.n, .int lo, .int hi']) (.int 2) = some (.int lo) := rfl
    have x3 : ixD (.tuple [.str "from", .str c.n, .int lo, .int hi']) (.int 3) = some (.int hi') := rfl
    rcases hd with rfl | ⟨_, j, rfl, _⟩ | ⟨h, _⟩
    · refine ⟨.rt (.bool false), .val .none, by simp only [sfB, hat]; simp, rfl, ?_⟩
      unfold sfD
      simp only [mSeq, mSet, mSetO, mSet2, mRet, mRetN, mDrop, mIfS, mIf, mB, mTru, mAnd, mOr, mNot, mAndV, mOrV, mNotV, mChain, mRaise, mNx, m1, m2, mN, mNL, mVar, mC, mNil, mCons, mLst, mTup, mDsp, mCall, mANil, mAv, mAr, mAb, hasR, hasB, toSl, VL.bs, back, mMut, heldR, setR, peekR, mLenP, mLenO, mRd, mItA, mIt, mAsg, gNm, gTp, gSeq, mYes, mSl, mPs, mPn, mKn, ok_bind, Oc.bind, Oc.opt, lenD_l, lenD_t, tupD, truD, isi_str_str, isi_str_tup, isi_str_int, isi_str_non, isi_str_lst, isi_tup_tup, isi_tup_lst, isi_tup_str, isi_tup_int, isi_tup_non, isi_lst_lst, isi_lst_tup, isi_int_int, isi_int_str, isi_int_non, isi_bool_int, isi_int_tup, isi_bool_tup, isi_bool_str, isi_bool_non, isi_lst_str, isi_lst_int, isi_lst_non, isD, isntD, isNoneD, addD_i, subD_i, seqD, appendD, List.replicate, List.append_nil, List.cons_append, List.nil_append, List.getElem?_cons_zero, List.getElem?_cons_succ, List.set_cons_zero, List.set_cons_succ, List.length_cons, List.length_nil, List.nodup_nil, List.nodup_cons, List.not_mem_nil, not_false_eq_true, and_self, Option.map, if_true, if_false, Bool.false_eq_true, Bool.not_true, Bool.not_false, Bool.and_true, Bool.true_and, Bool.false_and, Bool.and_false, finR, Sl.fin, wipeR, restR, List.getD_cons_zero, List.getD_cons_succ, decide_true, decide_false, Nat.reduceAdd, Nat.reduceLT, x0, x1, x2, x3, e1, e, eqD_s]
    · by_cases c1 : lo ≤ j
      · by_cases c2 : j ≤ hi'
        · refine ⟨.nx, .val (.int j), by simp only [sfB, hat]; simp [c1, c2], rfl, ?_⟩
          unfold sfD
          simp only [mSeq, mSet, mSetO, mSet2, mRet, mRetN, mDrop, mIfS, mIf, mB, mTru, mAnd, mOr, mNot, mAndV, mOrV, mNotV, mChain, mRaise, mNx, m1, m2, mN, mNL, mVar, mC, mNil, mCons, mLst, mTup, mDsp, mCall, mANil, mAv, mAr, mAb, hasR, hasB, toSl, VL.bs, back, mMut, heldR, setR, peekR, mLenP, mLenO, mRd, mItA, mIt, mAsg, gNm, gTp, gSeq, mYes, mSl, mPs, mPn, mKn, ok_bind, Oc.bind, Oc.opt, lenD_l, lenD_t, tupD, truD, isi_str_str, isi_str_tup, isi_str_int, isi_str_non, isi_str_lst, isi_tup_tup, isi_tup_lst, isi_tup_str, isi_tup_int, isi_tup_non, isi_lst_lst, isi_lst_tup, isi_int_int, isi_int_str, isi_int_non, isi_bool_int, isi_int_tup, isi_bool_tup, isi_bool_str, isi_bool_non, isi_lst_str, isi_lst_int, isi_lst_non, isD, isntD, isNoneD, addD_i, subD_i, seqD, appendD, List.replicate, List.append_nil, List.cons_append, List.nil_append, List.getElem?_cons_zero, List.getElem?_cons_succ, List.set_cons_zero, List.set_cons_succ, List.length_cons, List.length_nil, List.nodup_nil, List.nodup_cons, List.not_mem_nil, not_false_eq_true, and_self, Option.map, if_true, if_false, Bool.false_eq_true, Bool.not_true, Bool.not_false, Bool.and_true, Bool.true_and, Bool.false_and, Bool.and_false, finR, Sl.fin, wipeR, restR, List.getD_cons_zero, List.getD_cons_succ, decide_true, decide_false, Nat.reduceAdd, Nat.reduceLT, x0, x1, x2, x3, e1, e, eqD_s, leD_t c1, leD_t c2]
        · refine ⟨.rt (.bool false), .val (.int j), by simp only [sfB, hat]; simp [c1, c2], rfl, ?_⟩
          unfold sfD
          simp only [mSeq, mSet, mSetO, mSet2, mRet, mRetN, mDrop, mIfS, mIf, mB, mTru, mAnd, mOr, mNot, mAndV, mOrV, mNotV, mChain, mRaise, mNx, m1, m2, mN, mNL, mVar, mC, mNil, mCons, mLst, mTup, mDsp, mCall, mANil, mAv, mAr, mAb, hasR, hasB, toSl, VL.bs, back, mMut, heldR, setR, peekR, mLenP, mLenO, mRd, mItA, mIt, mAsg, gNm, gTp, gSeq, mYes, mSl, mPs, mPn, mKn, ok_bind, Oc.bind, Oc.opt, lenD_l, lenD_t, tupD, truD, isi_str_str, isi_str_tup, isi_str_int, isi_str_non, isi_str_lst, isi_tup_tup, isi_tup_lst, isi_tup_str, isi_tup_int, isi_tup_non, isi_lst_lst, isi_lst_tup, isi_int_int, isi_int_str, isi_int_non, isi_bool_int, isi_int_tup, isi_bool_tup, isi_bool_str, isi_bool_non, isi_lst_str, isi_lst_int, isi_lst_non, isD, isntD, isNoneD, addD_i, subD_i, seqD, appendD, List.replicate, List.append_nil, List.cons_append, List.nil_append, List.getElem?_cons_zero, List.getElem?_cons_succ, List.set_cons_zero, List.set_cons_succ, List.length_cons, List.length_nil, List.nodup_nil, List.nodup_cons, List.not_mem_nil, not_false_eq_true, and_self, Option.map, if_true, if_false, Bool.false_eq_true, Bool.not_true, Bool.not_false, Bool.and_true, Bool.true_and, Bool.false_and, Bool.and_false, finR, Sl.fin, wipeR, restR, List.getD_cons_zero, List.getD_cons_succ, decide_true, decide_false, Nat.reduceAdd, Nat.reduceLT, x0, x1, x2, x3, e1, e, eqD_s, leD_t c1, leD_f c2]
      · refine ⟨.rt (.bool false), .val (.int j), by simp only [sfB, hat]; simp [c1], rfl, ?_⟩
        unfold sfD
        simp only [mSeq, mSet, mSetO, mSet2, mRet, mRetN, mDrop, mIfS, mIf, mB, mTru, mAnd, mOr, mNot, mAndV, mOrV, mNotV, mChain, mRaise, mNx, m1, m2, mN, mNL, mVar, mC, mNil, mCons, mLst, mTup, mDsp, mCall, mANil, mAv, mAr, mAb, hasR, hasB, toSl, VL.bs, back, mMut, heldR, setR, peekR, mLenP, mLenO, mRd, mItA, mIt, mAsg, gNm, gTp, gSeq, mYes, mSl, mPs, mPn, mKn, ok_bind, Oc.bind, Oc.opt, lenD_l, lenD_t, tupD, truD, isi_str_str, isi_str_tup, isi_str_int, isi_str_non, isi_str_lst, isi_tup_tup, isi_tup_lst, isi_tup_str, isi_tup_int, isi_tup_non, isi_lst_lst, isi_lst_tup, isi_int_int, isi_int_str, isi_int_non, isi_bool_int, isi_int_tup, isi_bool_tup, isi_bool_str, isi_bool_non, isi_lst_str, isi_lst_int, isi_lst_non, isD, isntD, isNoneD, addD_i, subD_i, seqD, appendD, List.replicate, List.append_nil, List.cons_append, List.nil_append, List.getElem?_cons_zero, List.getElem?_cons_succ, List.set_cons_zero, List.set_cons_succ, List.length_cons, List.length_nil, List.nodup_nil, List.nodup_cons, List.not_mem_nil, not_false_eq_true, and_self, Option.map, if_true, if_false, Bool.false_eq_true, Bool.not_true, Bool.not_false, Bool.and_true, Bool.true_and, Bool.false_and, Bool.and_false, finR, Sl.fin, wipeR, restR, List.getD_cons_zero, List.getD_cons_succ, decide_true, decide_false, Nat.reduceAdd, Nat.reduceLT, x0, x1, x2, x3, e1, e, eqD_s, leD_f c1]
    · rw [hn] at h; cases h
theorem counts_ok {cs : List Col} {r : List PyData} (hc : ColsOk cs) (hr : RowOk cs r) {ks : List Sf} (hk : ∀ k ∈ ks, SfOk cs k) : ∃ b, b = ks.all (sfB cs · r) ∧ M_counts [.val (colsD cs), .val (.tuple (ks.map sfD)), .val (.tuple r)] = .ok (.bool b) [.un, .un, .un] := by
  let S := PyData.tuple (ks.map sfD)
  obtain ⟨fl, ρ, e, s3, s4, hfl, rfl⟩ := mFor_inv (fs := mIt (mVar 1)) (g := gNm 3)
    (m := mSeq (mSet 4 (m2 ixD (mVar 2) (mCall M_place_of (mAv (mVar 0) (mAv (m2 ixD (mVar 3) (mC (.int 1))) mANil)))))
      (mIfS (mB (m2 eqD (m2 ixD (mVar 3) (mC (.int 0))) (mC (.str "from")))) (mIfS (mOr (mB (m2 isD (mVar 4) (mC .none))) (mNot (mB (mChain leD leD (m2 ixD (mVar 3) (mC (.int 2))) (mVar 4) (m2 ixD (mVar 3) (mC (.int 3))))))) (mRet (mC (.bool false))) mNx) (mIfS (mB (m2 neD (m2 eqD (mVar 4) (m2 ixD (mVar 3) (mC (.int 2)))) (m2 eqD (m2 ixD (mVar 3) (mC (.int 0))) (mC (.str "is"))))) (mRet (mC (.bool false))) mNx)))
    (ρ := [.val (colsD cs), .val S, .val (.tuple r), .un, .un])
    (P := fun fl ρ => ∃ s3 s4 : Sl, ((fl = .nx ∧ ks.all (sfB cs · r) = true) ∨ (fl = .rt (.bool false) ∧ ks.all (sfB cs · r) = false)) ∧ ρ = [.val (colsD cs), .val S, .val (.tuple r), s3, s4])
    (fun i ρ => (ks.take i).all (sfB cs · r) = true ∧ ∃ s3 s4 : Sl, ρ = [.val (colsD cs), .val S, .val (.tuple r), s3, s4]) (ks.map sfD) rfl ⟨rfl, .un, .un, rfl⟩
    (by
      rintro i d ρ hd ⟨hall, s3, s4, rfl⟩
      rw [List.getElem?_map] at hd
      obtain ⟨k, hk', rfl⟩ := Option.map_eq_some_iff.mp hd
      obtain ⟨fl, s4', hfl, _, e⟩ := sift_body hc hr S (hk k (List.mem_of_getElem? hk')) s4
      refine ⟨[.val (colsD cs), .val S, .val (.tuple r), .val (sfD k), s4], rfl, fl, _, e, ?_⟩
      cases hb : sfB cs k r with
      | true =>
        rw [hb, if_pos rfl] at hfl
        subst hfl
        refine ⟨?_, _, _, rfl⟩
        rw [List.take_add_one, List.all_append, hall, hk']
        simp [hb]
      | false =>
        rw [hb, if_neg (by nofun)] at hfl
        subst hfl
        refine ⟨_, _, .inr ⟨rfl, ?_⟩, rfl⟩
        rw [List.all_eq_false]
        exact ⟨k, List.mem_of_getElem? hk', by rw [hb]; nofun⟩)
    (by
      rintro ρ ⟨hall, s3, s4, rfl⟩
      rw [List.length_map, List.take_length] at hall
      exact ⟨s3, s4, .inl ⟨rfl, hall⟩, rfl⟩)
  have e' : mFor _ _ _ [Sl.val (colsD cs), .val (.tuple (ks.map sfD)), .val (.tuple r), .un, .un] = _ := e
  rcases hfl with ⟨rfl, ha⟩ | ⟨rfl, ha⟩
  · refine ⟨true, ha.symm, ?_⟩
    unfold M_counts mFn
    simp only [mSeq, mSet, mSetO, mSet2, mRet, mRetN, mDrop, mIfS, mIf, mB, mTru, mAnd, mOr, mNot, mAndV, mOrV, mNotV, mChain, mRaise, mNx, m1, m2, mN, mNL, mVar, mC, mNil, mCons, mLst, mTup, mDsp, mCall, mANil, mAv, mAr, mAb, hasR, hasB, toSl, VL.bs, back, mMut, heldR, setR, peekR, mLenP, mLenO, mRd, mItA, mIt, mAsg, gNm, gTp, gSeq, mYes, mSl, mPs, mPn, mKn, ok_bind, Oc.bind, Oc.opt, lenD_l, lenD_t, tupD, truD, isi_str_str, isi_str_tup, isi_str_int, isi_str_non, isi_str_lst, isi_tup_tup, isi_tup_lst, isi_tup_str, isi_tup_int, isi_tup_non, isi_lst_lst, isi_lst_tup, isi_int_int, isi_int_str, isi_int_non, isi_bool_int, isi_int_tup, isi_bool_tup, isi_bool_str, isi_bool_non, isi_lst_str, isi_lst_int, isi_lst_non, isD, isntD, isNoneD, addD_i, subD_i, seqD, appendD, List.replicate, List.append_nil, List.cons_append, List.nil_append, List.getElem?_cons_zero, List.getElem?_cons_succ, List.set_cons_zero, List.set_cons_succ, List.length_cons, List.length_nil, List.nodup_nil, List.nodup_cons, List.not_mem_nil, not_false_eq_true, and_self, Option.map, if_true, if_false, Bool.false_eq_true, Bool.not_true, Bool.not_false, Bool.and_true, Bool.true_and, Bool.false_and, Bool.and_false, finR, Sl.fin, wipeR, restR, List.getD_cons_zero, List.getD_cons_succ, decide_true, decide_false, Nat.reduceAdd, Nat.reduceLT, e']
    rfl
  · refine ⟨false, ha.symm, ?_⟩
    unfold M_counts mFn
    simp only [mSeq, mSet, mSetO, mSet2, mRet, mRetN, mDrop, mIfS, mIf, mB, mTru, mAnd, mOr, mNot, mAndV, mOrV, mNotV, mChain, mRaise, mNx, m1, m2, mN, mNL, mVar, mC, mNil, mCons, mLst, mTup, mDsp, mCall, mANil, mAv, mAr, mAb, hasR, hasB, toSl, VL.bs, back, mMut, heldR, setR, peekR, mLenP, mLenO, mRd, mItA, mIt, mAsg, gNm, gTp, gSeq, mYes, mSl, mPs, mPn, mKn, ok_bind, Oc.bind, Oc.opt, lenD_l, lenD_t, tupD, truD, isi_str_str, isi_str_tup, isi_str_int, isi_str_non, isi_str_lst, isi_tup_tup, isi_tup_lst, isi_tup_str, isi_tup_int, isi_tup_non, isi_lst_lst, isi_lst_tup, isi_int_int, isi_int_str, isi_int_non, isi_bool_int, isi_int_tup, isi_bool_tup, isi_bool_str, isi_bool_non, isi_lst_str, isi_lst_int, isi_lst_non, isD, isntD, isNoneD, addD_i, subD_i, seqD, appendD, List.replicate, List.append_nil, List.cons_append, List.nil_append, List.getElem?_cons_zero, List.getElem?_cons_succ, List.set_cons_zero, List.set_cons_succ, List.length_cons, List.length_nil, List.nodup_nil, List.nodup_cons, List.not_mem_nil, not_false_eq_true, and_self, Option.map, if_true, if_false, Bool.false_eq_true, Bool.not_true, Bool.not_false, Bool.and_true, Bool.true_and, Bool.false_and, Bool.and_false, finR, Sl.fin, wipeR, restR, List.getD_cons_zero, List.getD_cons_succ, decide_true, decide_false, Nat.reduceAdd, Nat.reduceLT, e']
    rfl
noncomputable def cv (cs : List Col) (ks : List Sf) (r : List PyData) : Bool := match outD (M_counts [.val (colsD cs), .val (.tuple (ks.map sfD)), .val (.tuple r)]) with
  | .bool b => b
  | _ => false
theorem counts_is {cs : List Col} {r : List PyData} (hc : ColsOk cs) (hr : RowOk cs r) {ks : List Sf} (hk : ∀ k ∈ ks, SfOk cs k) : M_counts [.val (colsD cs), .val (.tuple (ks.map sfD)), .val (.tuple r)] = .ok (.bool (cv cs ks r)) [.un, .un, .un] := by
  obtain ⟨b, _, e⟩ := counts_ok hc hr hk
  have : cv cs ks r = b := by unfold cv; rw [e]; rfl
  rw [this, e]
theorem cv_is {cs : List Col} {r : List PyData} (hc : ColsOk cs) (hr : RowOk cs r) {ks : List Sf} (hk : ∀ k ∈ ks, SfOk cs k) : cv cs ks r = ks.all (sfB cs · r) := by
  obtain ⟨b, h, e⟩ := counts_ok hc hr hk
  unfold cv
  rw [e]
  exact h
/-! ### the rows that count -/
/-- which rows count -/
noncomputable def ctN (cs : List Col) (rs : List (List PyData)) (p : Pn) (n : Nat) : List Nat := (List.range n).filter fun k => cv cs p.sf (rs.getD k [])
noncomputable def ctE (cs : List Col) (rs : List (List PyData)) (p : Pn) (k : Nat) : PyData := .tuple [.int (k : Int), pv cs p.rk (rs.getD k []), pv cs p.ck (rs.getD k [])]
noncomputable def ctL (cs : List Col) (rs : List (List PyData)) (p : Pn) : List PyData := (ctN cs rs p rs.length).map (ctE cs rs p)
theorem ctN_succ (cs : List Col) (rs : List (List PyData)) (p : Pn) (n : Nat) : ctN cs rs p (n + 1) = ctN cs rs p n ++ if cv cs p.sf (rs.getD n []) then [n] else [] := by
  unfold ctN
  rw [List.range_succ, List.filter_append]
  congr 1
  by_cases h : cv cs p.sf (rs.getD n []) = true
  · rw [List.filter_cons_of_pos (p := fun k => cv cs p.sf (rs.getD k [])) h, List.filter_nil, if_pos h]
  · rw [List.filter_cons_of_neg (p := fun k => cv cs p.sf (rs.getD k [])) h, List.filter_nil, if_neg h]
theorem ctN_len (cs : List Col) (rs : List (List PyData)) (p : Pn) (n : Nat) : (ctN cs rs p n).length ≤ n := by
  have := List.length_filter_le (fun k => cv cs p.sf (rs.getD k [])) (List.range n)
  rw [List.length_range] at this
  exact this
theorem counted_ok {cs : List Col} {rs : List (List PyData)} {p : Pn} (h : TabOk cs rs) (hp : PnOk cs p) : M_counted [.val (tabD cs rs), .val (pnD p)] = .ok (.list (ctL cs rs p)) [.un, .un] := by
  have hf := h.few
  have x0 : ixD (pnD p) (.int 0) = some (.tuple (p.rk.map kyD)) := rfl
  have x1 : ixD (pnD p) (.int 1) = some (.tuple (p.ck.map kyD)) := rfl
  have x3 : ixD (pnD p) (.int 3) = some (.tuple (p.sf.map sfD)) := rfl
  have l1 : lenD [rowsD rs] = some (.int (rs.length : Nat)) := by show some (PyData.int ((rs.map PyData.tuple).length : Nat)) = _; rw [List.length_map]
  have hr := range1_n rs.length (Nat.le_trans hf (by decide))
  have g1 : gTp [gNm 2, gNm 3] (tabD cs rs) [.val (tabD cs rs), .val (pnD p), .un, .un, .un, .un] = some [.val (tabD cs rs), .val (pnD p), .val (colsD cs), .val (rowsD rs), .un, .un] := rfl
  have f3 : fits 3 = true := rfl
  have f0 : fits 0 = true := rfl
  obtain ⟨fl, ρ, e, rfl, s5, rfl⟩ := mFor_inv (fs := mItA range1D (mCons (mN lenD (mCons (mVar 3) mNil)) mNil)) (g := gNm 5)
    (m := mIfS (mTru (mCall M_counts (mAv (mVar 2) (mAv (m2 ixD (mVar 1) (mC (.int 3))) (mAv (m2 ixD (mVar 3) (mVar 5)) mANil))))) (mMut 4 appendD (mTup (mCons (mVar 5) (mCons (mCall M_path_in (mAv (mVar 2) (mAv (m2 ixD (mVar 1) (mC (.int 0))) (mAv (m2 ixD (mVar 3) (mVar 5)) mANil)))) (mCons (mCall M_path_in (mAv (mVar 2) (mAv (m2 ixD (mVar 1) (mC (.int 1))) (mAv (m2 ixD (mVar 3) (mVar 5)) mANil)))) mNil))))) mNx)
    (ρ := [.val (tabD cs rs), .val (pnD p), .val (colsD cs), .val (rowsD rs), .own [], .un])
    (P := fun fl ρ => fl = .nx ∧ ∃ s5 : Sl, ρ = [.val (tabD cs rs), .val (pnD p), .val (colsD cs), .val (rowsD rs), .own (ctL cs rs p), s5])
    (fun i ρ => i ≤ rs.length ∧ ∃ s5 : Sl, ρ = [.val (tabD cs rs), .val (pnD p), .val (colsD cs), .val (rowsD rs), .own ((ctN cs rs p i).map (ctE cs rs p)), s5])
    ((List.range rs.length).map fun i => .int ((i : Nat) : Int)) (by simp only [mSeq, mSet, mSetO, mSet2, mRet, mRetN, mDrop, mIfS, mIf, mB, mTru, mAnd, mOr, mNot, mAndV, mOrV, mNotV, mChain, mRaise, mNx, m1, m2, mN, mNL, mVar, mC, mNil, mCons, mLst, mTup, mDsp, mCall, mANil, mAv, mAr, mAb, hasR, hasB, toSl, VL.bs, back, mMut, heldR, setR, peekR, mLenP, mLenO, mRd, mItA, mIt, mAsg, gNm, gTp, gSeq, mYes, mSl, mPs, mPn, mKn, ok_bind, Oc.bind, Oc.opt, lenD_l, lenD_t, tupD, truD, isi_str_str, isi_str_tup, isi_str_int, isi_str_non, isi_str_lst, isi_tup_tup, isi_tup_lst, isi_tup_str, isi_tup_int, isi_tup_non, isi_lst_lst, isi_lst_tup, isi_int_int, isi_int_str, isi_int_non, isi_bool_int, isi_int_tup, isi_bool_tup, isi_bool_str, isi_bool_non, isi_lst_str, isi_lst_int, isi_lst_non, isD, isntD, isNoneD, addD_i, subD_i, seqD, appendD, List.replicate, List.append_nil, List.cons_append, List.nil_append, List.getElem?_cons_zero, List.getElem?_cons_succ, List.set_cons_zero, List.set_cons_succ, List.length_cons, List.length_nil, List.nodup_nil, List.nodup_cons, List.not_mem_nil, not_false_eq_true, and_self, Option.map, if_true, if_false, Bool.false_eq_true, Bool.not_true, Bool.not_false, Bool.and_true, Bool.true_and, Bool.false_and, Bool.and_false, finR, Sl.fin, wipeR, restR, List.getD_cons_zero, List.getD_cons_succ, decide_true, decide_false, Nat.reduceAdd, Nat.reduceLT, l1, hr]; rfl) ⟨Nat.zero_le _, .un, rfl⟩
    (by
      rintro i d ρ hd ⟨hi, s5, rfl⟩
      have hi : i < rs.length := by
        have := (List.getElem?_eq_some_iff.mp hd).1
        simpa using this
      have hd' : d = .int (i : Int) := by
        rw [List.getElem?_map, List.getElem?_range hi] at hd
        simpa using hd.symm
      subst hd'
      have hri : rs[i]? = some rs[i] := List.getElem?_eq_getElem hi
      have hgd : rs.getD i [] = rs[i] := by rw [List.getD_eq_getElem?_getD, hri]; rfl
      have hro := h.rows _ (List.getElem_mem hi)
      have y1 : ixD (rowsD rs) (.int (i : Int)) = some (.tuple rs[i]) := ix_list hri
      have y2 := counts_is h.cols hro hp.sf
      have y3 := path_in_ok h.cols hro hp.rk (by have := hp.r3; omega)
      have y4 := path_in_ok h.cols hro hp.ck (by have := hp.c3; omega)
      have cl := ctN_len cs rs p i
      refine ⟨[.val (tabD cs rs), .val (pnD p), .val (colsD cs), .val (rowsD rs), .own ((ctN cs rs p i).map (ctE cs rs p)), .val (.int (i : Int))], rfl, ?_⟩
      cases hb : cv cs p.sf rs[i] with
      | false =>
        rw [hb] at y2
        refine ⟨.nx, [.val (tabD cs rs), .val (pnD p), .val (colsD cs), .val (rowsD rs), .own ((ctN cs rs p (i + 1)).map (ctE cs rs p)), .val (.int (i : Int))], ?_, by omega, _, rfl⟩
        have e1 : ctN cs rs p (i + 1) = ctN cs rs p i := by rw [ctN_succ, hgd, hb]; simp
        rw [e1]
        simp only [mSeq, mSet, mSetO, mSet2, mRet, mRetN, mDrop, mIfS, mIf, mB, mTru, mAnd, mOr, mNot, mAndV, mOrV, mNotV, mChain, mRaise, mNx, m1, m2, mN, mNL, mVar, mC, mNil, mCons, mLst, mTup, mDsp, mCall, mANil, mAv, mAr, mAb, hasR, hasB, toSl, VL.bs, back, mMut, heldR, setR, peekR, mLenP, mLenO, mRd, mItA, mIt, mAsg, gNm, gTp, gSeq, mYes, mSl, mPs, mPn, mKn, ok_bind, Oc.bind, Oc.opt, lenD_l, lenD_t, tupD, truD, isi_str_str, isi_str_tup, isi_str_int, isi_str_non, isi_str_lst, isi_tup_tup, isi_tup_lst, isi_tup_str, isi_tup_int, isi_tup_non, isi_lst_lst, isi_lst_tup, isi_int_int, isi_int_str, isi_int_non, isi_bool_int, isi_int_tup, isi_bool_tup, isi_bool_str, isi_bool_non, isi_lst_str, isi_lst_int, isi_lst_non, isD, isntD, isNoneD, addD_i, subD_i, seqD, appendD, List.replicate, List.append_nil, List.cons_append, List.nil_append, List.getElem?_cons_zero, List.getElem?_cons_succ, List.set_cons_zero, List.set_cons_succ, List.length_cons, List.length_nil, List.nodup_nil, List.nodup_cons, List.not_mem_nil, not_false_eq_true, and_self, Option.map, if_true, if_false, Bool.false_eq_true, Bool.not_true, Bool.not_false, Bool.and_true, Bool.true_and, Bool.false_and, Bool.and_false, finR, Sl.fin, wipeR, restR, List.getD_cons_zero, List.getD_cons_succ, decide_true, decide_false, Nat.reduceAdd, Nat.reduceLT, x3, y1, y2]
      | true =>
        rw [hb] at y2
        refine ⟨.nx, [.val (tabD cs rs), .val (pnD p), .val (colsD cs), .val (rowsD rs), .own ((ctN cs rs p (i + 1)).map (ctE cs rs p)), .val (.int (i : Int))], ?_, by omega, _, rfl⟩
        have e1 : (ctN cs rs p (i + 1)).map (ctE cs rs p) = (ctN cs rs p i).map (ctE cs rs p) ++ [.tuple [.int (i : Int), pv cs p.rk rs[i], pv cs p.ck rs[i]]] := by
          rw [ctN_succ, hgd, hb, List.map_append]
          simp only [if_true, List.map_cons, List.map_nil, ctE, hgd]
        have f4 : fits (((ctN cs rs p i).map (ctE cs rs p)).length + 1) = true := decide_eq_true (by rw [List.length_map]; omega)
        rw [e1]
        simp only [mSeq, mSet, mSetO, mSet2, mRet, mRetN, mDrop, mIfS, mIf, mB, mTru, mAnd, mOr, mNot, mAndV, mOrV, mNotV, mChain, mRaise, mNx, m1, m2, mN, mNL, mVar, mC, mNil, mCons, mLst, mTup, mDsp, mCall, mANil, mAv, mAr, mAb, hasR, hasB, toSl, VL.bs, back, mMut, heldR, setR, peekR, mLenP, mLenO, mRd, mItA, mIt, mAsg, gNm, gTp, gSeq, mYes, mSl, mPs, mPn, mKn, ok_bind, Oc.bind, Oc.opt, lenD_l, lenD_t, tupD, truD, isi_str_str, isi_str_tup, isi_str_int, isi_str_non, isi_str_lst, isi_tup_tup, isi_tup_lst, isi_tup_str, isi_tup_int, isi_tup_non, isi_lst_lst, isi_lst_tup, isi_int_int, isi_int_str, isi_int_non, isi_bool_int, isi_int_tup, isi_bool_tup, isi_bool_str, isi_bool_non, isi_lst_str, isi_lst_int, isi_lst_non, isD, isntD, isNoneD, addD_i, subD_i, seqD, appendD, List.replicate, List.append_nil, List.cons_append, List.nil_append, List.getElem?_cons_zero, List.getElem?_cons_succ, List.set_cons_zero, List.set_cons_succ, List.length_cons, List.length_nil, List.nodup_nil, List.nodup_cons, List.not_mem_nil, not_false_eq_true, and_self, Option.map, if_true, if_false, Bool.false_eq_true, Bool.not_true, Bool.not_false, Bool.and_true, Bool.true_and, Bool.false_and, Bool.and_false, finR, Sl.fin, wipeR, restR, List.getD_cons_zero, List.getD_cons_succ, decide_true, decide_false, Nat.reduceAdd, Nat.reduceLT, x0, x1, x3, y1, y2, y3, y4, f3, f4])
    (by
      rintro ρ ⟨_, s5, rfl⟩
      rw [List.length_map, List.length_range]
      exact ⟨rfl, s5, rfl⟩)
  unfold M_counted mFn
  simp only [mSeq, mSet, mSetO, mSet2, mRet, mRetN, mDrop, mIfS, mIf, mB, mTru, mAnd, mOr, mNot, mAndV, mOrV, mNotV, mChain, mRaise, mNx, m1, m2, mN, mNL, mVar, mC, mNil, mCons, mLst, mTup, mDsp, mCall, mANil, mAv, mAr, mAb, hasR, hasB, toSl, VL.bs, back, mMut, heldR, setR, peekR, mLenP, mLenO, mRd, mItA, mIt, mAsg, gNm, mYes, mSl, mPs, mPn, mKn, ok_bind, Oc.bind, Oc.opt, lenD_l, lenD_t, tupD, truD, isi_str_str, isi_str_tup, isi_str_int, isi_str_non, isi_str_lst, isi_tup_tup, isi_tup_lst, isi_tup_str, isi_tup_int, isi_tup_non, isi_lst_lst, isi_lst_tup, isi_int_int, isi_int_str, isi_int_non, isi_bool_int, isi_int_tup, isi_bool_tup, isi_bool_str, isi_bool_non, isi_lst_str, isi_lst_int, isi_lst_non, isD, isntD, isNoneD, addD_i, subD_i, seqD, appendD, List.replicate, List.append_nil, List.cons_append, List.nil_append, List.getElem?_cons_zero, List.getElem?_cons_succ, List.set_cons_zero, List.set_cons_succ, List.length_cons, List.length_nil, List.nodup_nil, List.nodup_cons, List.not_mem_nil, not_false_eq_true, and_self, Option.map, if_true, if_false, Bool.false_eq_true, Bool.not_true, Bool.not_false, Bool.and_true, Bool.true_and, Bool.false_and, Bool.and_false, finR, Sl.fin, wipeR, restR, List.getD_cons_zero, List.getD_cons_succ, decide_true, decide_false, Nat.reduceAdd, Nat.reduceLT, g1, f0, e]
  rfl
end VL

set_option Elab.async false
set_option linter.all false
set_option maxRecDepth 100000
set_option maxHeartbeats 4000000
/-! VM7: paths with their beginnings, in order. -/
namespace VL
open PySem L2
def leafB : PyData → Bool
  | .none => true
  | .int _ => true
  | .str _ => true
  | _ => false
abbrev Leaves (ds : List PyData) : Prop := ∀ d ∈ ds, leafB d = true
def nk1 : PyData → NestedKey
  | .int i => .num i
  | .str z => .text z
  | _ => .none
def pk (ds : List PyData) : NestedKey := .tup (ds.map nk1)
theorem nkA_leaves : ∀ {ds : List PyData}, Leaves ds → nkA ds = some (ds.map nk1)
  | [], _ => rfl
  | d :: ds, h => by
    have h1 := h d List.mem_cons_self
    have h2 := nkA_leaves (ds := ds) fun x hx => h x (List.mem_cons_of_mem _ hx)
    unfold nkA
    cases d <;> simp [leafB] at h1 <;> simp [nkD, h2, nk1]
theorem depth_leaves : ∀ {ds : List PyData}, Leaves ds → NestedKey.depthAll (ds.map nk1) = 0
  | [], _ => rfl
  | d :: ds, h => by
    have h1 := h d List.mem_cons_self
    have h2 := depth_leaves (ds := ds) fun x hx => h x (List.mem_cons_of_mem _ hx)
    cases d <;> simp [leafB] at h1 <;> simp [NestedKey.depthAll, NestedKey.depth, h2, nk1]
theorem key_path {ds : List PyData} (h : Leaves ds) : keyD (.tuple ds) = some (pk ds) := by
  show (match nkA ds with
    | some ks => if (NestedKey.tup ks).depth ≤ 8 then some (NestedKey.tup ks) else none
    | none => none) = _
  rw [nkA_leaves h]
  have : (NestedKey.tup (ds.map nk1)).depth ≤ 8 := by
    simp only [NestedKey.depth, depth_leaves h]
    omega
  simp only [if_pos this]
  rfl
theorem pk_data {ds : List PyData} (h : Leaves ds) : (pk ds).data = .tuple ds := nk_data _ (keyD_nk (key_path h)).1
theorem dLoop_inv {x : Nat} {g : MG} {m : MD} (I : Nat → R → List NestedKey → Prop) (ds : List PyData)
    (step : ∀ i d ρ ks, ds[i]? = some d → I i ρ ks → ∃ ρ2, g d ρ = some ρ2 ∧ isUn ρ2 x = true ∧ ∃ ρ3 ks3, m ρ2 ks = some (ρ3, ks3) ∧ I (i + 1) ρ3 ks3) : ∀ (i : Nat) (ρ : R) (ks : List NestedKey), i ≤ ds.length → I i ρ ks → ∃ ρ' ks', dFor.dLoop x g m (ds.drop i) ρ ks = some (ρ', ks') ∧ I ds.length ρ' ks' := by
  intro i ρ ks hi
  induction hk : ds.length - i generalizing i ρ ks with
  | zero =>
    intro h
    have e : i = ds.length := by omega
    subst e
    rw [List.drop_length]
    exact ⟨ρ, ks, rfl, h⟩
  | succ k ih =>
    intro h
    have lt : i < ds.length := by omega
    obtain ⟨ρ2, e1, e2, ρ3, ks3, e3, h3⟩ := step i ds[i] ρ ks (List.getElem?_eq_getElem lt) h
    rw [List.drop_eq_getElem_cons lt]
    obtain ⟨ρ', ks', e4, h4⟩ := ih (i + 1) ρ3 ks3 (by omega) (by omega) h3
    refine ⟨ρ', ks', ?_, h4⟩
    show (match g ds[i] ρ with
      | some ρ2 => if isUn ρ2 x = true then match m ρ2 ks with
          | some (ρ3, ks3) => dFor.dLoop x g m (ds.drop (i + 1)) ρ3 ks3
          | none => none
        else none
      | none => none) = _
    simp only [e1, e2, if_true, e3, e4]
theorem dFor_inv {x : Nat} {fs : ML} {g : MG} {m : MD} {ρ ρ1 : R} {ks : List NestedKey} (I : Nat → R → List NestedKey → Prop) (ds : List PyData) (h1 : fs ρ = .ok ds ρ1) (hu : isUn ρ1 x = true) (h0 : I 0 ρ1 ks)
    (step : ∀ i d ρ ks, ds[i]? = some d → I i ρ ks → ∃ ρ2, g d ρ = some ρ2 ∧ isUn ρ2 x = true ∧ ∃ ρ3 ks3, m ρ2 ks = some (ρ3, ks3) ∧ I (i + 1) ρ3 ks3) : ∃ ρ' ks', dFor x fs g m ρ ks = some (ρ', ks') ∧ I ds.length ρ' ks' := by
  obtain ⟨ρ', ks', e, h⟩ := dLoop_inv I ds step 0 ρ1 ks (Nat.zero_le _) h0
  refine ⟨ρ', ks', ?_, h⟩
  unfold dFor
  rw [h1]
  simp only [hu, if_true]
  rwa [List.drop_zero] at e
/-- keys that are paths of at most so many leaves -/
def KsOk (n : Nat) (ks : List NestedKey) : Prop := ks.Nodup ∧ ∀ k ∈ ks, ∃ ds, k = pk ds ∧ Leaves ds ∧ ds.length ≤ n
theorem KsOk.put {n : Nat} {ks : List NestedKey} {ds : List PyData} (h : KsOk n ks) (hd : Leaves ds) (hl : ds.length ≤ n) : KsOk n (ddK ks (pk ds)) := by
  unfold ddK
  split
  · exact h
  · rename_i hn
    refine ⟨mem_snoc_nodup h.1 hn, fun k hk => ?_⟩
    rcases List.mem_append.mp hk with hk | hk
    · exact h.2 k hk
    · rw [List.mem_singleton.mp hk]; exact ⟨ds, rfl, hd, hl⟩
theorem ddK_sub {ks : List NestedKey} {k x : NestedKey} (h : x ∈ ks) : x ∈ ddK ks k := by
  unfold ddK
  split
  · exact h
  · exact List.mem_append_left _ h
theorem slT_hi (ds : List PyData) (t : Nat) : slD (.tuple ds) none (some (t : Int)) = some (.tuple (ds.take t)) := by
  show some (PyData.tuple (cutD ds _ _)) = _
  rw [cutD_hi]
theorem dput_ok {x : Nat} {f : ME} {ρ ρ1 : R} {ks : List NestedKey} {ds : List PyData} (e : f ρ = .ok (.tuple ds) ρ1) (hd : Leaves ds) (hl : ks.length ≤ 10000) (hu : isUn ρ1 x = true) : dPut x f ρ ks = some (ρ1, ddK ks (pk ds)) := by
  unfold dPut
  rw [e]
  have hf : fits (ks.length + 1) = true := decide_eq_true (by omega)
  simp only [key_path hd, hf, hu, Bool.and_self, if_true]
/-- all beginnings, as they are met -/
def prefs (n : Nat) (paths : List (List PyData)) : List (List PyData) := [] :: (paths.map fun ds => (List.range (n + 1)).map fun j => ds.take j).flatten
theorem prefs_snoc (n : Nat) (xs : List (List PyData)) (ds : List PyData) : prefs n (xs ++ [ds]) = prefs n xs ++ (List.range (n + 1)).map fun j => ds.take j := by
  simp [prefs]
theorem mem_prefs {n : Nat} {paths : List (List PyData)} {q : List PyData} : q ∈ prefs n paths ↔ q = [] ∨ ∃ ds ∈ paths, ∃ j, j ≤ n ∧ q = ds.take j := by
  simp only [prefs, List.mem_cons, List.mem_flatten, List.mem_map, List.mem_range]
  constructor
  · rintro (h | ⟨l, ⟨ds, hd, rfl⟩, hq⟩)
    · exact .inl h
    · obtain ⟨j, hj, rfl⟩ := List.mem_map.mp hq
      exact .inr ⟨ds, hd, j, Nat.le_of_lt_succ (List.mem_range.mp hj), rfl⟩
  · rintro (h | ⟨ds, hd, j, hj, rfl⟩)
    · exact .inl h
    · exact .inr ⟨_, ⟨ds, hd, rfl⟩, List.mem_map.mpr ⟨j, List.mem_range.mpr (Nat.lt_succ_of_le hj), rfl⟩⟩
theorem mem_ddK {κ : Type} [DecidableEq κ] {s : List κ} {k x : κ} : x ∈ ddK s k ↔ x ∈ s ∨ x = k := by
  unfold ddK
  split
  · rename_i h
    exact ⟨.inl, fun z => z.elim id fun e => e ▸ h⟩
  · simp
theorem mem_metK' {κ : Type} [DecidableEq κ] {x : κ} : ∀ (ks s : List κ), x ∈ ks.foldl ddK s ↔ x ∈ s ∨ x ∈ ks
  | [], s => by simp
  | k :: ks, s => by
    rw [List.foldl_cons, mem_metK' ks, mem_ddK, List.mem_cons, or_assoc]
theorem mem_met {κ : Type} [DecidableEq κ] {x : κ} (ks : List κ) : x ∈ metK ks ↔ x ∈ ks := by
  unfold metK
  rw [mem_metK']
  simp
theorem heads_dict {paths : List (List PyData)} {n : Nat} (hn : n ≤ 10) (hp : paths.length ≤ 24) (hl : ∀ ds ∈ paths, Leaves ds) : ∃ ks s3 s4, KsOk n ks ∧ ks = metK ((prefs n paths).map pk) ∧ ks.length ≤ 1 + 24 * 11 ∧ s3.fin = Sl.un ∧ s4.fin = Sl.un ∧ s4.plain = true ∧
    mDict 2 0 (dSeq (dPut 2 (mTup mNil)) (dFor 2 (mIt (mVar 0)) (gNm 3) (dFor 2 (mItA range1D (mCons (m2 addD (mVar 1) (mC (.int 1))) mNil)) (gNm 4) (dPut 2 (mSl (mVar 3) mPn (mPs (mVar 4)))))))
      [.val (.list (paths.map .tuple)), .val (.int (n : Int)), .un, .un, .un, .un, .un] = .ok .nx [.val (.list (ks.map (·.data))), .val (.int (n : Int)), .un, s3, s4, .un, .un] := by
  let St : Sl → Sl → R := fun s3 s4 => [.val (.list (paths.map .tuple)), .val (.int (n : Int)), .un, s3, s4, .un, .un]
  have l0 : Leaves [] := fun _ h => absurd h List.not_mem_nil
  have e00 : mTup mNil (St .un .un) = .ok (.tuple []) (St .un .un) := rfl
  have e0 : dPut 2 (mTup mNil) (St .un .un) [] = some (St .un .un, ddK [] (pk [])) := dput_ok e00 l0 (Nat.zero_le _) rfl
  have hr : range1D [.int ((n : Int) + 1)] = some ((List.range (n + 1)).map fun i => .int ((i : Nat) : Int)) := by
    have := range1_n (n + 1) (by omega)
    rwa [show ((n + 1 : Nat) : Int) = (n : Int) + 1 by omega] at this
  have k0 : KsOk n (ddK [] (pk [])) := KsOk.put ⟨List.nodup_nil, fun _ h => absurd h List.not_mem_nil⟩ l0 (Nat.zero_le _)
  obtain ⟨ρ', ks, e1, s3, s4, z3, z4, z5, rfl, hk, hm, hlen⟩ := dFor_inv (x := 2) (fs := mIt (mVar 0)) (g := gNm 3) (m := dFor 2 (mItA range1D (mCons (m2 addD (mVar 1) (mC (.int 1))) mNil)) (gNm 4) (dPut 2 (mSl (mVar 3) mPn (mPs (mVar 4))))) (ρ := St .un .un) (ks := ddK [] (pk []))
    (fun i ρ ks => ∃ s3 s4 : Sl, s3.fin = .un ∧ s4.fin = .un ∧ s4.plain = true ∧ ρ = St s3 s4 ∧ KsOk n ks ∧ ks = metK ((prefs n (paths.take i)).map pk) ∧ ks.length ≤ 1 + i * (n + 1)) (paths.map .tuple) rfl rfl ⟨.un, .un, rfl, rfl, rfl, rfl, k0, rfl, by simp [ddK]⟩
    (by
      rintro i d ρ ks hd ⟨s3, s4, z3, z4, z5, rfl, hk, hm, hlen⟩
      have hi : i < paths.length := by
        have := (List.getElem?_eq_some_iff.mp hd).1
        simpa using this
      rw [List.getElem?_map] at hd
      obtain ⟨ds, hds, rfl⟩ := Option.map_eq_some_iff.mp hd
      have hL := hl ds (List.mem_of_getElem? hds)
      have hb : ks.length ≤ 1 + 24 * 11 := Nat.le_trans hlen (by have := Nat.mul_le_mul (show i ≤ 24 by omega) (show n + 1 ≤ 11 by omega); omega)
      refine ⟨St (.val (.tuple ds)) s4, rfl, rfl, ?_⟩
      obtain ⟨ρ', ks', e, s4', z4', z5', rfl, hk', hm', hlen'⟩ := dFor_inv (x := 2) (fs := mItA range1D (mCons (m2 addD (mVar 1) (mC (.int 1))) mNil)) (g := gNm 4) (m := dPut 2 (mSl (mVar 3) mPn (mPs (mVar 4)))) (ρ := St (.val (.tuple ds)) s4) (ks := ks)
        (fun j ρ ks' => ∃ s4 : Sl, s4.fin = .un ∧ s4.plain = true ∧ ρ = St (.val (.tuple ds)) s4 ∧ KsOk n ks' ∧ ks' = metK (((prefs n (paths.take i)) ++ (List.range j).map fun j => ds.take j).map pk) ∧ ks'.length ≤ ks.length + j) ((List.range (n + 1)).map fun i => .int ((i : Nat) : Int)) (by simp only [St]; simp only [mSeq, mSet, mSetO, mSet2, mRet, mRetN, mDrop, mIfS, mIf, mB, mTru, mAnd, mOr, mNot, mAndV, mOrV, mNotV, mChain, mRaise, mNx, m1, m2, mN, mNL, mVar, mC, mNil, mCons, mLst, mTup, mDsp, mCall, mANil, mAv, mAr, mAb, hasR, hasB, toSl, VL.bs, back, mMut, heldR, setR, peekR, mLenP, mLenO, mRd, mItA, mIt, mAsg, gNm, gTp, gSeq, mYes, mSl, mPs, mPn, mKn, ok_bind, Oc.bind, Oc.opt, lenD_l, lenD_t, tupD, truD, isi_str_str, isi_str_tup, isi_str_int, isi_str_non, isi_str_lst, isi_tup_tup, isi_tup_lst, isi_tup_str, isi_tup_int, isi_tup_non, isi_lst_lst, isi_lst_tup, isi_int_int, isi_int_str, isi_int_non, isi_bool_int, isi_int_tup, isi_bool_tup, isi_bool_str, isi_bool_non, isi_lst_str, isi_lst_int, isi_lst_non, isD, isntD, isNoneD, addD_i, subD_i, seqD, appendD, List.replicate, List.append_nil, List.cons_append, List.nil_append, List.getElem?_cons_zero, List.getElem?_cons_succ, List.set_cons_zero, List.set_cons_succ, List.length_cons, List.length_nil, List.nodup_nil, List.nodup_cons, List.not_mem_nil, not_false_eq_true, and_self, Option.map, if_true, if_false, Bool.false_eq_true, Bool.not_true, Bool.not_false, Bool.and_true, Bool.true_and, Bool.false_and, Bool.and_false, finR, Sl.fin, wipeR, restR, List.getD_cons_zero, List.getD_cons_succ, decide_true, decide_false, Nat.reduceAdd, Nat.reduceLT, hr]) rfl ⟨s4, z4, z5, rfl, hk, by rw [hm]; simp, by omega⟩
        (by
          rintro j d ρ ks' hd ⟨s4, _, _, rfl, hk', hm', hlen'⟩
          have hj : j < n + 1 := by
            have := (List.getElem?_eq_some_iff.mp hd).1
            simpa using this
          have hd' : d = .int (j : Int) := by
            rw [List.getElem?_map, List.getElem?_range hj] at hd
            simpa using hd.symm
          subst hd'
          have hT : Leaves (ds.take j) := fun x hx => hL x (List.mem_of_mem_take hx)
          have sl := slT_hi ds j
          refine ⟨St (.val (.tuple ds)) (.val (.int (j : Int))), rfl, rfl, _, _, dput_ok (ds := ds.take j) (ρ1 := St (.val (.tuple ds)) (.val (.int (j : Int)))) (by simp only [St]; simp only [mSeq, mSet, mSetO, mSet2, mRet, mRetN, mDrop, mIfS, mIf, mB, mTru, mAnd, mOr, mNot, mAndV, mOrV, mNotV, mChain, mRaise, mNx, m1, m2, mN, mNL, mVar, mC, mNil, mCons, mLst, mTup, mDsp, mCall, mANil, mAv, mAr, mAb, hasR, hasB, toSl, VL.bs, back, mMut, heldR, setR, peekR, mLenP, mLenO, mRd, mItA, mIt, mAsg, gNm, gTp, gSeq, mYes, mSl, mPs, mPn, mKn, ok_bind, Oc.bind, Oc.opt, lenD_l, lenD_t, tupD, truD, isi_str_str, isi_str_tup, isi_str_int, isi_str_non, isi_str_lst, isi_tup_tup, isi_tup_lst, isi_tup_str, isi_tup_int, isi_tup_non, isi_lst_lst, isi_lst_tup, isi_int_int, isi_int_str, isi_int_non, isi_bool_int, isi_int_tup, isi_bool_tup, isi_bool_str, isi_bool_non, isi_lst_str, isi_lst_int, isi_lst_non, isD, isntD, isNoneD, addD_i, subD_i, seqD, appendD, List.replicate, List.append_nil, List.cons_append, List.nil_append, List.getElem?_cons_zero, List.getElem?_cons_succ, List.set_cons_zero, List.set_cons_succ, List.length_cons, List.length_nil, List.nodup_nil, List.nodup_cons, List.not_mem_nil, not_false_eq_true, and_self, Option.map, if_true, if_false, Bool.false_eq_true, Bool.not_true, Bool.not_false, Bool.and_true, Bool.true_and, Bool.false_and, Bool.and_false, finR, Sl.fin, wipeR, restR, List.getD_cons_zero, List.getD_cons_succ, decide_true, decide_false, Nat.reduceAdd, Nat.reduceLT, sl]) hT (by omega) rfl, _, rfl, rfl, rfl, hk'.put hT (by rw [List.length_take]; omega), by rw [hm', List.range_succ, List.map_append (l₁ := List.range j), ← List.append_assoc, List.map_append (l₂ := [_].map _)]; exact (metK_snoc _ _).symm, ?_⟩
          have := ddK_len ks' (pk (ds.take j))
          omega)
      refine ⟨_, ks', e, .val (.tuple ds), s4', rfl, z4', z5', rfl, hk', by rw [hm', List.length_map, List.length_range, ← prefs_snoc, List.take_add_one, hds]; rfl, ?_⟩
      rw [List.length_map, List.length_range] at hlen'
      rw [Nat.succ_mul]
      omega)
  rw [List.length_map] at hlen hm
  rw [List.take_length] at hm
  refine ⟨ks, s3, s4, hk, hm, Nat.le_trans hlen (by have := Nat.mul_le_mul hp (show n + 1 ≤ 11 by omega); omega), z3, z4, z5, ?_⟩
  have e2 : dSeq (dPut 2 (mTup mNil)) (dFor 2 (mIt (mVar 0)) (gNm 3) (dFor 2 (mItA range1D (mCons (m2 addD (mVar 1) (mC (.int 1))) mNil)) (gNm 4) (dPut 2 (mSl (mVar 3) mPn (mPs (mVar 4)))))) (St .un .un) [] = some (St s3 s4, ks) := by
    unfold dSeq
    rw [e0]
    exact e1
  unfold mDict
  rw [if_pos (by simp)]
  show (match dSeq _ _ (St .un .un) [] with
    | some (ρ1, ks) => Oc.ok Fl.nx (ρ1.set 0 (.val (.list (ks.map fun k : NestedKey => k.data))))
    | none => .no) = _
  rw [e2]
  rfl
end VL

set_option Elab.async false
set_option linter.all false
set_option maxRecDepth 100000
set_option maxHeartbeats 4000000
/-! VM8: with_heads. -/
namespace VL
open PySem L2
def rankD : PyData → PyData
  | .int i => .tuple [.int 1, .int i, .str ""]
  | .str z => .tuple [.int 1, .int 0, .str z]
  | _ => .tuple [.int 0, .int 0, .str ""]
theorem rank_ok {d : PyData} (h : leafB d = true) : M_rank [.val d] = .ok (rankD d) [.un] := by
  have f3 : fits 3 = true := rfl
  cases d <;> simp [leafB] at h
  all_goals
    unfold M_rank mFn
    simp only [mSeq, mSet, mSetO, mSet2, mRet, mRetN, mDrop, mIfS, mIf, mB, mTru, mAnd, mOr, mNot, mAndV, mOrV, mNotV, mChain, mRaise, mNx, m1, m2, mN, mNL, mVar, mC, mNil, mCons, mLst, mTup, mDsp, mCall, mANil, mAv, mAr, mAb, hasR, hasB, toSl, VL.bs, back, mMut, heldR, setR, peekR, mLenP, mLenO, mRd, mItA, mIt, mAsg, gNm, gTp, gSeq, mYes, mSl, mPs, mPn, mKn, ok_bind, Oc.bind, Oc.opt, lenD_l, lenD_t, tupD, truD, isi_str_str, isi_str_tup, isi_str_int, isi_str_non, isi_str_lst, isi_tup_tup, isi_tup_lst, isi_tup_str, isi_tup_int, isi_tup_non, isi_lst_lst, isi_lst_tup, isi_int_int, isi_int_str, isi_int_non, isi_bool_int, isi_int_tup, isi_bool_tup, isi_bool_str, isi_bool_non, isi_lst_str, isi_lst_int, isi_lst_non, isD, isntD, isNoneD, addD_i, subD_i, seqD, appendD, List.replicate, List.append_nil, List.cons_append, List.nil_append, List.getElem?_cons_zero, List.getElem?_cons_succ, List.set_cons_zero, List.set_cons_succ, List.length_cons, List.length_nil, List.nodup_nil, List.nodup_cons, List.not_mem_nil, not_false_eq_true, and_self, Option.map, if_true, if_false, Bool.false_eq_true, Bool.not_true, Bool.not_false, Bool.and_true, Bool.true_and, Bool.false_and, Bool.and_false, finR, Sl.fin, wipeR, restR, List.getD_cons_zero, List.getD_cons_succ, decide_true, decide_false, Nat.reduceAdd, Nat.reduceLT, f3]
    rfl
theorem ranked_ok {ds : List PyData} (h : Leaves ds) (hl : ds.length ≤ 100) : M_ranked [.val (.tuple ds)] = .ok (.list (ds.map rankD)) [.un] := by
  have f1 := mLc_map (fs := mIt (mVar 0)) (g := gNm 1) (f := mCall M_rank (mAv (mVar 1) mANil)) (vs := [1])
    (ρ := [.val (.tuple ds), .un]) (ρ1 := [.val (.tuple ds), .un]) ds id rankD (by rw [List.map_id]; rfl) rfl
    (fun d hd => ⟨[.val (.tuple ds), .val d], rfl, by
      have e := rank_ok (h d hd)
      simp only [mSeq, mSet, mSetO, mSet2, mRet, mRetN, mDrop, mIfS, mIf, mB, mTru, mAnd, mOr, mNot, mAndV, mOrV, mNotV, mChain, mRaise, mNx, m1, m2, mN, mNL, mVar, mC, mNil, mCons, mLst, mTup, mDsp, mCall, mANil, mAv, mAr, mAb, hasR, hasB, toSl, VL.bs, back, mMut, heldR, setR, peekR, mLenP, mLenO, mRd, mItA, mIt, mAsg, gNm, gTp, gSeq, mYes, mSl, mPs, mPn, mKn, ok_bind, Oc.bind, Oc.opt, lenD_l, lenD_t, tupD, truD, isi_str_str, isi_str_tup, isi_str_int, isi_str_non, isi_str_lst, isi_tup_tup, isi_tup_lst, isi_tup_str, isi_tup_int, isi_tup_non, isi_lst_lst, isi_lst_tup, isi_int_int, isi_int_str, isi_int_non, isi_bool_int, isi_int_tup, isi_bool_tup, isi_bool_str, isi_bool_non, isi_lst_str, isi_lst_int, isi_lst_non, isD, isntD, isNoneD, addD_i, subD_i, seqD, appendD, List.replicate, List.append_nil, List.cons_append, List.nil_append, List.getElem?_cons_zero, List.getElem?_cons_succ, List.set_cons_zero, List.set_cons_succ, List.length_cons, List.length_nil, List.nodup_nil, List.nodup_cons, List.not_mem_nil, not_false_eq_true, and_self, Option.map, if_true, if_false, Bool.false_eq_true, Bool.not_true, Bool.not_false, Bool.and_true, Bool.true_and, Bool.false_and, Bool.and_false, finR, Sl.fin, wipeR, restR, List.getD_cons_zero, List.getD_cons_succ, decide_true, decide_false, Nat.reduceAdd, Nat.reduceLT, e], rfl, rfl⟩) (by omega)
  unfold M_ranked mFn
  simp only [mSeq, mSet, mSetO, mSet2, mRet, mRetN, mDrop, mIfS, mIf, mB, mTru, mAnd, mOr, mNot, mAndV, mOrV, mNotV, mChain, mRaise, mNx, m1, m2, mN, mNL, mVar, mC, mNil, mCons, mLst, mTup, mDsp, mCall, mANil, mAv, mAr, mAb, hasR, hasB, toSl, VL.bs, back, mMut, heldR, setR, peekR, mLenP, mLenO, mRd, mItA, mIt, mAsg, gNm, gTp, gSeq, mYes, mSl, mPs, mPn, mKn, ok_bind, Oc.bind, Oc.opt, lenD_l, lenD_t, tupD, truD, isi_str_str, isi_str_tup, isi_str_int, isi_str_non, isi_str_lst, isi_tup_tup, isi_tup_lst, isi_tup_str, isi_tup_int, isi_tup_non, isi_lst_lst, isi_lst_tup, isi_int_int, isi_int_str, isi_int_non, isi_bool_int, isi_int_tup, isi_bool_tup, isi_bool_str, isi_bool_non, isi_lst_str, isi_lst_int, isi_lst_non, isD, isntD, isNoneD, addD_i, subD_i, seqD, appendD, List.replicate, List.append_nil, List.cons_append, List.nil_append, List.getElem?_cons_zero, List.getElem?_cons_succ, List.set_cons_zero, List.set_cons_succ, List.length_cons, List.length_nil, List.nodup_nil, List.nodup_cons, List.not_mem_nil, not_false_eq_true, and_self, Option.map, if_true, if_false, Bool.false_eq_true, Bool.not_true, Bool.not_false, Bool.and_true, Bool.true_and, Bool.false_and, Bool.and_false, finR, Sl.fin, wipeR, restR, List.getD_cons_zero, List.getD_cons_succ, decide_true, decide_false, Nat.reduceAdd, Nat.reduceLT, f1]
  rfl
theorem alike_rank (d e : PyData) : PySem.W.alike (rankD d) (rankD e) = true := by cases d <;> cases e <;> rfl
theorem alike_ranks : ∀ (xs ys : List PyData), PySem.W.alikeAll (xs.map rankD) (ys.map rankD) = true
  | [], [] => rfl
  | [], _ :: _ => rfl
  | _ :: _, [] => rfl
  | x :: xs, y :: ys => by
    show (PySem.W.alike (rankD x) (rankD y) && PySem.W.alikeAll (xs.map rankD) (ys.map rankD)) = true
    rw [alike_rank, alike_ranks xs ys]
    rfl
theorem gd_rank (d : PyData) (n : Nat) : gdn (n + 1) (rankD d) = true := by
  cases d <;> (show List.all _ _ = true; cases n <;> rfl)
/-! ### the order of paths -/
def rkD (q : List PyData) : PyData := .list (q.map rankD)
def pLt (a b : List PyData) : Bool := PySem.W.dataLt (rkD a) (rkD b)
theorem lt_irrefl' (a : PyData) : PySem.W.dataLt a a = false := PyProof.Rows.lex_irrefl _
theorem lt_trans' {a b c : PyData} (h1 : PySem.W.dataLt a b = true) (h2 : PySem.W.dataLt b c = true) : PySem.W.dataLt a c = true := PyProof.Rows.lex_trans _ _ _ h1 h2
theorem pLt_irrefl (a : List PyData) : pLt a a = false := lt_irrefl' _
theorem pLt_trans {a b c : List PyData} (h1 : pLt a b = true) (h2 : pLt b c = true) : pLt a c = true := lt_trans' h1 h2
theorem pLt_asymm {a b : List PyData} (h1 : pLt a b = true) : pLt b a = false := by
  cases h : pLt b a with
  | false => rfl
  | true => exact absurd (pLt_trans h1 h) (by rw [pLt_irrefl]; nofun)
theorem toks_rank (d : PyData) : ∃ a b c, PySem.W.keyToks (rankD d) = [.inl 1, a, .inl 1, b, .inl 1, c, .inl 0] ∧ ∀ e, PySem.W.keyToks (rankD e) = [.inl 1, a, .inl 1, b, .inl 1, c, .inl 0] → rankD e = rankD d := by
  have t : ∀ (i j : Int) (z : Str), PySem.W.keyToks (.tuple [.int i, .int j, .str z]) = [.inl 1, .inl i, .inl 1, .inl j, .inl 1, .inr z.cps.toList, .inl 0] := fun i j z => by simp [PySem.W.keyToks, PySem.W.keyToksAll]
  have sh : ∀ e, ∃ i j z, rankD e = .tuple [.int i, .int j, .str z] := fun e => by
    unfold rankD
    split <;> exact ⟨_, _, _, rfl⟩
  obtain ⟨i, j, z, e1⟩ := sh d
  refine ⟨_, _, _, by rw [e1, t], fun e he => ?_⟩
  obtain ⟨i', j', z', e2⟩ := sh e
  rw [e2, t] at he
  simp only [List.cons.injEq, Sum.inl.injEq, Sum.inr.injEq, true_and, and_true] at he
  obtain ⟨h1, h2, h3⟩ := he
  rw [e1, e2, h1, h2, PySem.W.str_of_cps h3]
theorem toks_ranks : ∀ (xs ys : List PyData), PySem.W.keyToksAll (xs.map rankD) = PySem.W.keyToksAll (ys.map rankD) → xs.map rankD = ys.map rankD
  | [], [], _ => rfl
  | [], y :: ys, h => by simp [PySem.W.keyToksAll] at h
  | x :: xs, [], h => by simp [PySem.W.keyToksAll] at h
  | x :: xs, y :: ys, h => by
    obtain ⟨a, b, c, e1, k1⟩ := toks_rank x
    obtain ⟨a', b', c', e2, k2⟩ := toks_rank y
    rw [List.map_cons, List.map_cons, PySem.W.toks_all_cons, PySem.W.toks_all_cons, e1, e2] at h
    simp only [List.cons_append, List.nil_append, List.cons.injEq, true_and] at h
    obtain ⟨h1, h2, h3, h4⟩ := h
    rw [List.map_cons, List.map_cons, toks_ranks xs ys h4, k1 y (by rw [e2, h1, h2, h3])]
theorem pLt_total {a b : List PyData} (h : a.map rankD ≠ b.map rankD) (h1 : pLt a b = false) : pLt b a = true := by
  cases h2 : pLt b a with
  | true => rfl
  | false => exact absurd (toks_ranks a b (by
      have z := PyProof.Rows.lex_total _ _ h1 h2
      simpa [rkD, PySem.W.keyToks] using z)) h
theorem sorted_one {α : Type} {r : α → α → Prop} (irr : ∀ a, ¬ r a a) (tr : ∀ a b c, r a b → r b c → r a c) : ∀ (xs ys : List α), xs.Pairwise r → ys.Pairwise r → (∀ x, x ∈ xs ↔ x ∈ ys) → xs = ys
  | [], [], _, _, _ => rfl
  | [], y :: ys, _, _, h => absurd ((h y).mpr List.mem_cons_self) List.not_mem_nil
  | x :: xs, [], _, _, h => absurd ((h x).mp List.mem_cons_self) List.not_mem_nil
  | x :: xs, y :: ys, h1, h2, h => by
    rw [List.pairwise_cons] at h1 h2
    have e : x = y := by
      rcases List.mem_cons.mp ((h x).mp List.mem_cons_self) with e | hx
      · exact e
      · rcases List.mem_cons.mp ((h y).mpr List.mem_cons_self) with e | hy
        · exact e.symm
        · exact absurd (tr _ _ _ (h1.1 y hy) (h2.1 x hx)) (irr x)
    subst e
    rw [sorted_one irr tr xs ys h1.2 h2.2 fun z => by
      have hz := h z
      rw [List.mem_cons, List.mem_cons] at hz
      constructor
      · intro hx
        rcases hz.mp (.inr hx) with e | h'
        · exact absurd (h1.1 z hx) (by rw [e]; exact irr x)
        · exact h'
      · intro hy
        rcases hz.mpr (.inr hy) with e | h'
        · exact absurd (h2.1 z hy) (by rw [e]; exact irr x)
        · exact h']
theorem paths_one {xs ys : List (List PyData)} (h1 : xs.Pairwise fun a b => pLt a b = true) (h2 : ys.Pairwise fun a b => pLt a b = true) (h : ∀ q, q ∈ xs ↔ q ∈ ys) : xs = ys :=
  sorted_one (r := fun a b => pLt a b = true) (fun a => by rw [pLt_irrefl]; nofun) (fun a b c => pLt_trans) xs ys h1 h2 h
/-- marks tell paths apart -/
def RkInj (qs : List (List PyData)) : Prop := ∀ a ∈ qs, ∀ b ∈ qs, a.map rankD = b.map rankD → a = b
theorem le_trans_data (a b c : PyData) (h1 : PySem.W.dataLe false id a b = true) (h2 : PySem.W.dataLe false id b c = true) : PySem.W.dataLe false id a c = true := by
  rw [PySem.W.dataLe_eq] at *
  simp only [id, cond_false, Bool.not_eq_true'] at *
  cases h : PySem.W.dataLt c a with
  | false => rfl
  | true =>
    rcases PyProof.Rows.lex_negTrans (O := PyProof.Rows.itemOrd) _ (PySem.W.keyToks b) _ h with z | z
    · exact absurd z (by rw [show PyProof.Rows.lexLt PyProof.Rows.itemOrd (PySem.W.keyToks c) (PySem.W.keyToks b) = false from h2]; nofun)
    · exact absurd z (by rw [show PyProof.Rows.lexLt PyProof.Rows.itemOrd (PySem.W.keyToks b) (PySem.W.keyToks a) = false from h1]; nofun)
theorem le_total_data (a b : PyData) : (PySem.W.dataLe false id a b || PySem.W.dataLe false id b a) = true := by
  rw [PySem.W.dataLe_eq]
  simp only [id, cond_false]
  cases h : PySem.W.dataLt b a with
  | false => rfl
  | true =>
    cases h2 : PySem.W.dataLt a b with
    | false => rfl
    | true => exact absurd (lt_trans' h h2) (by rw [lt_irrefl']; nofun)
theorem sortL_pair (L : List PyData) : (sortL L).Pairwise fun a b => PySem.W.dataLt b a = false := by
  refine (List.pairwise_mergeSort (le := PySem.W.dataLe false id) le_trans_data le_total_data L).imp fun {a b} h => ?_
  rw [PySem.W.dataLe_eq] at h
  simpa using h
def srtE (qs : List (List PyData)) (i : Nat) : PyData := .tuple [.list ((qs.getD i []).map rankD), .int (i : Int)]
theorem sort_ok (qs : List (List PyData)) (h : qs.length ≤ 10000) : sortOk ((List.range qs.length).map (srtE qs)) = true := by
  unfold sortOk
  simp only [Bool.and_eq_true]
  refine ⟨⟨List.all_eq_true.mpr fun d hd => ?_, ?_⟩, decide_eq_true (by rw [List.length_map, List.length_range]; omega)⟩
  · obtain ⟨i, _, rfl⟩ := List.mem_map.mp hd
    rw [Bool.and_eq_true]
    refine ⟨Gd.ok ?_, List.all_eq_true.mpr fun e he => ?_⟩
    · have h1 : gdn 48 (.list ((qs.getD i []).map rankD)) = true := List.all_eq_true.mpr fun x hx => by
        obtain ⟨y, _, rfl⟩ := List.mem_map.mp hx
        exact gd_rank y 46
      have h2 := gdn_up 48 49 _ (by decide) h1
      refine List.all_eq_true.mpr fun x hx => ?_
      simp only [List.mem_cons, List.not_mem_nil, or_false] at hx
      rcases hx with rfl | rfl
      · exact h2
      · rfl
    · obtain ⟨j, _, rfl⟩ := List.mem_map.mp he
      show (PySem.W.alikeAll _ _ && (true && _)) = true
      rw [alike_ranks]
      rfl
  · rw [Bool.or_eq_true]
    refine .inl (List.all_eq_true.mpr fun d hd => ?_)
    obtain ⟨i, _, rfl⟩ := List.mem_map.mp hd
    rfl
def unS (qs : List (List PyData)) : PyData → List PyData
  | .tuple [_, .int k] => qs.getD k.toNat []
  | _ => []
def unK (k : NestedKey) : List PyData := match k.data with
  | .tuple ds => ds
  | _ => []
theorem unK_pk {ds : List PyData} (h : Leaves ds) : unK (pk ds) = ds := by
  unfold unK
  rw [pk_data h]
theorem with_heads_ok {paths : List (List PyData)} {n : Nat} (hn : n ≤ 10) (hp : paths.length ≤ 24) (hl : ∀ ds ∈ paths, Leaves ds) : ∃ out : List (List PyData), out.Nodup ∧ (∀ q ∈ out, Leaves q ∧ q.length ≤ n) ∧ (∀ q, q ∈ out ↔ q ∈ prefs n paths) ∧ (RkInj (prefs n paths) → out.Pairwise fun a b => pLt a b = true) ∧ out.length ≤ 265 ∧
    M_with_heads [.val (.list (paths.map .tuple)), .val (.int (n : Int))] = .ok (.list (out.map .tuple)) [.un, .un] := by
  obtain ⟨ks, s3, s4, hk, hm, hlen, z3, z4, z5, e1⟩ := heads_dict hn hp hl
  have hq : ∀ k ∈ ks, Leaves (unK k) ∧ (unK k).length ≤ n ∧ k.data = .tuple (unK k) ∧ k = pk (unK k) := fun k hk' => by
    obtain ⟨ds, rfl, h1, h2⟩ := hk.2 k hk'
    rw [unK_pk h1]
    exact ⟨h1, h2, pk_data h1, rfl⟩
  obtain ⟨qs, hqs⟩ : ∃ qs, qs = ks.map unK := ⟨_, rfl⟩
  have ed : (ks.map fun k : NestedKey => k.data) = qs.map .tuple := by
    rw [hqs, List.map_map]
    exact List.map_congr_left fun k hk' => (hq k hk').2.2.1
  have hql : qs.length = ks.length := by rw [hqs, List.length_map]
  have qL : ∀ q ∈ qs, Leaves q ∧ q.length ≤ n := fun q hq' => by
    rw [hqs] at hq'
    obtain ⟨k, hk', rfl⟩ := List.mem_map.mp hq'
    exact ⟨(hq k hk').1, (hq k hk').2.1⟩
  have qN : qs.Nodup := by
    rw [hqs]
    exact List.pairwise_map.mpr (hk.1.imp_of_mem fun {a b} ha hb hne e => hne (by rw [(hq a ha).2.2.2, (hq b hb).2.2.2, e]))
  have pL : ∀ q ∈ prefs n paths, Leaves q := fun q hq' => by
    rcases mem_prefs.mp hq' with rfl | ⟨ds, hd, j, _, rfl⟩
    · exact fun _ h => absurd h List.not_mem_nil
    · exact fun d hd' => hl ds hd d (List.mem_of_mem_take hd')
  have q0 : ∀ q, q ∈ qs ↔ q ∈ prefs n paths := fun q => by
    rw [hqs, hm, List.mem_map]
    constructor
    · rintro ⟨k, hk', rfl⟩
      rw [mem_met, List.mem_map] at hk'
      obtain ⟨q, hq', rfl⟩ := hk'
      rwa [unK_pk (pL q hq')]
    · intro hq'
      exact ⟨pk q, (mem_met _).mpr (List.mem_map_of_mem hq'), unK_pk (pL q hq')⟩
  rw [ed] at e1
  have hr := range1_n qs.length (by omega)
  let St : Sl → R := fun s5 => [.val (.list (qs.map .tuple)), .val (.int (n : Int)), .un, s3, .un, s5, .un]
  have l1 : lenD [.list (qs.map .tuple)] = some (.int (qs.length : Nat)) := by rw [lenD_l, List.length_map]
  have f2 : fits 2 = true := rfl
  have f1 := mLc_map (fs := mItA range1D (mCons (mN lenD (mCons (mVar 0) mNil)) mNil)) (g := gNm 4) (f := mTup (mCons (mCall M_ranked (mAv (m2 ixD (mVar 0) (mVar 4)) mANil)) (mCons (mVar 4) mNil))) (vs := [4])
    (ρ := [.val (.list (qs.map .tuple)), .val (.int (n : Int)), .un, s3, s4, .un, .un]) (ρ1 := [.val (.list (qs.map .tuple)), .val (.int (n : Int)), .un, s3, s4, .un, .un]) (List.range qs.length) (fun i => .int ((i : Nat) : Int)) (srtE qs) (by simp only [mSeq, mSet, mSetO, mSet2, mRet, mRetN, mDrop, mIfS, mIf, mB, mTru, mAnd, mOr, mNot, mAndV, mOrV, mNotV, mChain, mRaise, mNx, m1, m2, mN, mNL, mVar, mC, mNil, mCons, mLst, mTup, mDsp, mCall, mANil, mAv, mAr, mAb, hasR, hasB, toSl, VL.bs, back, mMut, heldR, setR, peekR, mLenP, mLenO, mRd, mItA, mIt, mAsg, gNm, gTp, gSeq, mYes, mSl, mPs, mPn, mKn, ok_bind, Oc.bind, Oc.opt, lenD_l, lenD_t, tupD, truD, isi_str_str, isi_str_tup, isi_str_int, isi_str_non, isi_str_lst, isi_tup_tup, isi_tup_lst, isi_tup_str, isi_tup_int, isi_tup_non, isi_lst_lst, isi_lst_tup, isi_int_int, isi_int_str, isi_int_non, isi_bool_int, isi_int_tup, isi_bool_tup, isi_bool_str, isi_bool_non, isi_lst_str, isi_lst_int, isi_lst_non, isD, isntD, isNoneD, addD_i, subD_i, seqD, appendD, List.replicate, List.append_nil, List.cons_append, List.nil_append, List.getElem?_cons_zero, List.getElem?_cons_succ, List.set_cons_zero, List.set_cons_succ, List.length_cons, List.length_nil, List.nodup_nil, List.nodup_cons, List.not_mem_nil, not_false_eq_true, and_self, Option.map, if_true, if_false, Bool.false_eq_true, Bool.not_true, Bool.not_false, Bool.and_true, Bool.true_and, Bool.false_and, Bool.and_false, finR, Sl.fin, wipeR, restR, List.getD_cons_zero, List.getD_cons_succ, decide_true, decide_false, Nat.reduceAdd, Nat.reduceLT, l1, hr])
    (by show (s4.plain && true) = true; rw [z5]; rfl)
    (fun i hi => ⟨[.val (.list (qs.map .tuple)), .val (.int (n : Int)), .un, s3, .val (.int (i : Int)), .un, .un], rfl, by
      have hi := List.mem_range.mp hi
      have hqi : qs[i]? = some qs[i] := List.getElem?_eq_getElem hi
      have x1 : ixD (.list (qs.map .tuple)) (.int (i : Int)) = some (.tuple qs[i]) := ix_list hqi
      have hL := qL _ (List.getElem_mem hi)
      have x2 := ranked_ok hL.1 (by omega)
      have x3 : qs.getD i [] = qs[i] := by rw [List.getD_eq_getElem?_getD, hqi]; rfl
      simp only [mSeq, mSet, mSetO, mSet2, mRet, mRetN, mDrop, mIfS, mIf, mB, mTru, mAnd, mOr, mNot, mAndV, mOrV, mNotV, mChain, mRaise, mNx, m1, m2, mN, mNL, mVar, mC, mNil, mCons, mLst, mTup, mDsp, mCall, mANil, mAv, mAr, mAb, hasR, hasB, toSl, VL.bs, back, mMut, heldR, setR, peekR, mLenP, mLenO, mRd, mItA, mIt, mAsg, gNm, gTp, gSeq, mYes, mSl, mPs, mPn, mKn, ok_bind, Oc.bind, Oc.opt, lenD_l, lenD_t, tupD, truD, isi_str_str, isi_str_tup, isi_str_int, isi_str_non, isi_str_lst, isi_tup_tup, isi_tup_lst, isi_tup_str, isi_tup_int, isi_tup_non, isi_lst_lst, isi_lst_tup, isi_int_int, isi_int_str, isi_int_non, isi_bool_int, isi_int_tup, isi_bool_tup, isi_bool_str, isi_bool_non, isi_lst_str, isi_lst_int, isi_lst_non, isD, isntD, isNoneD, addD_i, subD_i, seqD, appendD, List.replicate, List.append_nil, List.cons_append, List.nil_append, List.getElem?_cons_zero, List.getElem?_cons_succ, List.set_cons_zero, List.set_cons_succ, List.length_cons, List.length_nil, List.nodup_nil, List.nodup_cons, List.not_mem_nil, not_false_eq_true, and_self, Option.map, if_true, if_false, Bool.false_eq_true, Bool.not_true, Bool.not_false, Bool.and_true, Bool.true_and, Bool.false_and, Bool.and_false, finR, Sl.fin, wipeR, restR, List.getD_cons_zero, List.getD_cons_succ, decide_true, decide_false, Nat.reduceAdd, Nat.reduceLT, x1, x2, f2]
      unfold srtE
      rw [x3], rfl, rfl⟩) (by rw [List.length_range]; omega)
  have hso := sort_ok qs (by omega)
  obtain ⟨L, hL⟩ : ∃ L, L = (List.range qs.length).map (srtE qs) := ⟨_, rfl⟩
  rw [← hL] at f1 hso
  have e2 : sortD [.list L] = some (.list (sortL L)) := by
    show (if sortOk L = true then some (PyData.list (sortL L)) else none) = _
    rw [if_pos hso]
  have hperm : (sortL L).Perm L := List.mergeSort_perm L _
  have hmem : ∀ d ∈ sortL L, ∃ i, i < qs.length ∧ d = srtE qs i := fun d hd => by
    have := hperm.mem_iff.mp hd
    rw [hL] at this
    obtain ⟨i, hi, rfl⟩ := List.mem_map.mp this
    exact ⟨i, List.mem_range.mp hi, rfl⟩
  have hLl : (sortL L).length = qs.length := by rw [hperm.length_eq, hL, List.length_map, List.length_range]
  have f3 := mLc_map (fs := mIt (mVar 5)) (g := gTp [gNm 6, gNm 4]) (f := m2 ixD (mVar 0) (mVar 4)) (vs := [6, 4])
    (ρ := [.val (.list (qs.map .tuple)), .val (.int (n : Int)), .un, s3, s4, .val (.list (sortL L)), .un]) (ρ1 := [.val (.list (qs.map .tuple)), .val (.int (n : Int)), .un, s3, s4, .val (.list (sortL L)), .un]) (sortL L) id (fun d => .tuple (unS qs d)) (by rw [List.map_id]; rfl)
    (by show (true && (s4.plain && true)) = true; rw [z5]; rfl)
    (fun d hd => by
      obtain ⟨i, hi, rfl⟩ := hmem d hd
      have hqi : qs[i]? = some qs[i] := List.getElem?_eq_getElem hi
      have x1 : ixD (.list (qs.map .tuple)) (.int (i : Int)) = some (.tuple qs[i]) := ix_list hqi
      have x3 : unS qs (srtE qs i) = qs[i] := by
        show qs.getD ((i : Int)).toNat [] = _
        rw [Int.toNat_natCast, List.getD_eq_getElem?_getD, hqi]
        rfl
      refine ⟨[.val (.list (qs.map .tuple)), .val (.int (n : Int)), .un, s3, .val (.int (i : Int)), .val (.list (sortL L)), .val (.list ((qs.getD i []).map rankD))], rfl, ?_, rfl, rfl⟩
      rw [x3]
      simp only [mSeq, mSet, mSetO, mSet2, mRet, mRetN, mDrop, mIfS, mIf, mB, mTru, mAnd, mOr, mNot, mAndV, mOrV, mNotV, mChain, mRaise, mNx, m1, m2, mN, mNL, mVar, mC, mNil, mCons, mLst, mTup, mDsp, mCall, mANil, mAv, mAr, mAb, hasR, hasB, toSl, VL.bs, back, mMut, heldR, setR, peekR, mLenP, mLenO, mRd, mItA, mIt, mAsg, gNm, gTp, gSeq, mYes, mSl, mPs, mPn, mKn, ok_bind, Oc.bind, Oc.opt, lenD_l, lenD_t, tupD, truD, isi_str_str, isi_str_tup, isi_str_int, isi_str_non, isi_str_lst, isi_tup_tup, isi_tup_lst, isi_tup_str, isi_tup_int, isi_tup_non, isi_lst_lst, isi_lst_tup, isi_int_int, isi_int_str, isi_int_non, isi_bool_int, isi_int_tup, isi_bool_tup, isi_bool_str, isi_bool_non, isi_lst_str, isi_lst_int, isi_lst_non, isD, isntD, isNoneD, addD_i, subD_i, seqD, appendD, List.replicate, List.append_nil, List.cons_append, List.nil_append, List.getElem?_cons_zero, List.getElem?_cons_succ, List.set_cons_zero, List.set_cons_succ, List.length_cons, List.length_nil, List.nodup_nil, List.nodup_cons, List.not_mem_nil, not_false_eq_true, and_self, Option.map, if_true, if_false, Bool.false_eq_true, Bool.not_true, Bool.not_false, Bool.and_true, Bool.true_and, Bool.false_and, Bool.and_false, finR, Sl.fin, wipeR, restR, List.getD_cons_zero, List.getD_cons_succ, decide_true, decide_false, Nat.reduceAdd, Nat.reduceLT, x1]) (by omega)
  have hout : ((sortL L).map (unS qs)).Perm qs := by
    refine (hperm.map _).trans ?_
    rw [hL, List.map_map]
    have : (List.range qs.length).map (unS qs ∘ srtE qs) = qs := by
      apply List.ext_getElem?
      intro i
      rw [List.getElem?_map]
      by_cases h : i < qs.length
      · rw [List.getElem?_range h]
        have hqi : qs[i]? = some qs[i] := List.getElem?_eq_getElem h
        show some (qs.getD ((i : Int)).toNat []) = _
        rw [Int.toNat_natCast, List.getD_eq_getElem?_getD, hqi]
        rfl
      · rw [List.getElem?_eq_none (by rw [List.length_range]; omega), List.getElem?_eq_none (by omega)]
        rfl
    rw [this]
  have hsrt : RkInj (prefs n paths) → ((sortL L).map (unS qs)).Pairwise fun a b => pLt a b = true := fun inj => by
    have hnd : (sortL L).Nodup := by
      rw [hperm.nodup_iff, hL]
      refine List.pairwise_map.mpr ((List.nodup_range (n := qs.length)).imp fun {a b} hne e => hne ?_)
      simp only [srtE, PyData.tuple.injEq, List.cons.injEq, PyData.int.injEq, and_true] at e
      omega
    have hu : ∀ i, i < qs.length → unS qs (srtE qs i) = qs.getD i [] := fun i hi => by
      show qs.getD ((i : Int)).toNat [] = _
      rw [Int.toNat_natCast]
    refine List.pairwise_map.mpr (((sortL_pair L).and hnd).imp_of_mem fun {a b} ha hb ⟨h1, h2⟩ => ?_)
    obtain ⟨i, hi, rfl⟩ := hmem a ha
    obtain ⟨j, hj, rfl⟩ := hmem b hb
    rw [hu i hi, hu j hj]
    have hij : i ≠ j := fun e => h2 (by rw [e])
    have gi : qs.getD i [] = qs[i] := by rw [List.getD_eq_getElem?_getD, List.getElem?_eq_getElem hi]; rfl
    have gj : qs.getD j [] = qs[j] := by rw [List.getD_eq_getElem?_getD, List.getElem?_eq_getElem hj]; rfl
    have hne : (qs.getD j []).map rankD ≠ (qs.getD i []).map rankD := fun e => by
      rw [gi, gj] at e
      have := inj _ ((q0 _).mp (List.getElem_mem hj)) _ ((q0 _).mp (List.getElem_mem hi)) e
      exact hij ((List.getElem_inj qN).mp this).symm
    refine pLt_total hne ?_
    have ea : PyData.eqv (.list ((qs.getD j []).map rankD)) (.list ((qs.getD i []).map rankD)) = false := by
      cases h : PyData.eqv (.list ((qs.getD j []).map rankD)) (.list ((qs.getD i []).map rankD)) with
      | false => rfl
      | true =>
        have g : ∀ q : List PyData, gdn 48 (.list (q.map rankD)) = true := fun q => List.all_eq_true.mpr fun x hx => by
          obtain ⟨y, _, rfl⟩ := List.mem_map.mp hx
          exact gd_rank y 46
        have := (eqv_gdn 48 _ _ (g _) (g _)).mp h
        exact absurd (PyData.list.inj this) hne
    have z : PySem.W.dataLt (srtE qs j) (srtE qs i) = PySem.W.dataLt (.list ((qs.getD j []).map rankD)) (.list ((qs.getD i []).map rankD)) := by
      unfold srtE
      rw [PySem.W.dataLt_pair (x := .list ((qs.getD j []).map rankD)) (x' := .list ((qs.getD i []).map rankD)) (by show PySem.W.alikeAll _ _ = true; exact alike_ranks _ _) rfl, ea]
      rfl
    rw [z] at h1
    exact h1
  refine ⟨(sortL L).map (unS qs), hout.nodup_iff.mpr qN, fun q hq' => qL q (hout.mem_iff.mp hq'), fun q => hout.mem_iff.trans (q0 q), hsrt, by rw [List.length_map]; omega, ?_⟩
  have e3 : (sortL L).map (fun d => PyData.tuple (unS qs d)) = ((sortL L).map (unS qs)).map .tuple := by rw [List.map_map]; rfl
  rw [e3] at f3
  unfold M_with_heads mFn
  simp only [mSeq, mSet, mSetO, mSet2, mRet, mRetN, mDrop, mIfS, mIf, mB, mTru, mAnd, mOr, mNot, mAndV, mOrV, mNotV, mChain, mRaise, mNx, m1, m2, mN, mNL, mVar, mC, mNil, mCons, mLst, mTup, mDsp, mCall, mANil, mAv, mAr, mAb, hasR, hasB, toSl, VL.bs, back, mMut, heldR, setR, peekR, mLenP, mLenO, mRd, mItA, mIt, mAsg, gNm, mYes, mSl, mPs, mPn, mKn, ok_bind, Oc.bind, Oc.opt, lenD_l, lenD_t, tupD, truD, isi_str_str, isi_str_tup, isi_str_int, isi_str_non, isi_str_lst, isi_tup_tup, isi_tup_lst, isi_tup_str, isi_tup_int, isi_tup_non, isi_lst_lst, isi_lst_tup, isi_int_int, isi_int_str, isi_int_non, isi_bool_int, isi_int_tup, isi_bool_tup, isi_bool_str, isi_bool_non, isi_lst_str, isi_lst_int, isi_lst_non, isD, isntD, isNoneD, addD_i, subD_i, seqD, appendD, List.replicate, List.append_nil, List.cons_append, List.nil_append, List.getElem?_cons_zero, List.getElem?_cons_succ, List.set_cons_zero, List.set_cons_succ, List.length_cons, List.length_nil, List.nodup_nil, List.nodup_cons, List.not_mem_nil, not_false_eq_true, and_self, Option.map, if_true, if_false, Bool.false_eq_true, Bool.not_true, Bool.not_false, Bool.and_true, Bool.true_and, Bool.false_and, Bool.and_false, finR, Sl.fin, wipeR, restR, List.getD_cons_zero, List.getD_cons_succ, decide_true, decide_false, Nat.reduceAdd, Nat.reduceLT, e1, f1, e2, f3]
  rfl
end VL

set_option Elab.async false
set_option linter.all false
set_option maxRecDepth 100000
set_option maxHeartbeats 4000000
/-! VM9: the sides of a sheet; the rows behind a place. -/
namespace VL
open PySem L2
theorem Leaf'.leaf {num : Bool} {d : PyData} (h : Leaf' num d) : leafB d = true := by
  rcases h with rfl | ⟨_, i, rfl, _⟩ | ⟨_, z, rfl⟩ <;> rfl
noncomputable def pvL (cs : List Col) (ks : List Ky) (r : List PyData) : List PyData := ks.map fun k => kv cs k r
theorem pvL_leaves {cs : List Col} {r : List PyData} (hc : ColsOk cs) (hr : RowOk cs r) {ks : List Ky} (hk : ∀ k ∈ ks, KyOk cs k) : Leaves (pvL cs ks r) := fun d hd => by
  obtain ⟨k, hk', rfl⟩ := List.mem_map.mp hd
  obtain ⟨_, num, _, h⟩ := key_in_ok hc hr (hk k hk')
  exact h.leaf
theorem getD_row {cs : List Col} {rs : List (List PyData)} (h : TabOk cs rs) {k : Nat} (hk : k < rs.length) : RowOk cs (rs.getD k []) := by
  rw [List.getD_eq_getElem?_getD, List.getElem?_eq_getElem hk]
  exact h.rows _ (List.getElem_mem hk)
theorem ctN_lt {cs : List Col} {rs : List (List PyData)} {p : Pn} {n k : Nat} (h : k ∈ ctN cs rs p n) : k < n := List.mem_range.mp (List.mem_filter.mp h).1
/-! ### kinds of keys -/
theorem HasCol.one {cs : List Col} (hc : ColsOk cs) {z : Str} {a b : Bool} (h1 : HasCol cs z a) (h2 : HasCol cs z b) : a = b := by
  obtain ⟨i, c, hi, e1, rfl⟩ := h1
  obtain ⟨j, d, hj, e2, rfl⟩ := h2
  have := (cols_one hc hi hj).mp (e2.trans e1.symm)
  subst this
  rw [hi] at hj
  cases hj
  rfl
theorem KyKind.one {cs : List Col} (hc : ColsOk cs) {k : Ky} {a b : Bool} (h1 : KyKind cs k a) (h2 : KyKind cs k b) : a = b := by
  cases k with
  | col z => exact HasCol.one hc h1 h2
  | band z w => exact Eq.trans h1 (Eq.symm h2)
  | fst z w => exact Eq.trans h1 (Eq.symm h2)
theorem rank_leaf {num : Bool} {d e : PyData} (h1 : Leaf' num d) (h2 : Leaf' num e) (h : rankD d = rankD e) : d = e := by
  rcases h1 with rfl | ⟨rfl, i, rfl, _⟩ | ⟨rfl, z, rfl⟩ <;> rcases h2 with rfl | ⟨h2, j, rfl, _⟩ | ⟨h2, y, rfl⟩ <;> first | rfl | cases h2 | skip
  all_goals (simp [rankD] at h ⊢ <;> try exact h)
/-- the paths of rows that count -/
noncomputable def rps (cs : List Col) (rs : List (List PyData)) (p : Pn) (ks : List Ky) : List (List PyData) := (ctN cs rs p rs.length).map fun k => pvL cs ks (rs.getD k [])
theorem pv_leaf {cs : List Col} {r r' : List PyData} (hc : ColsOk cs) (h1 : RowOk cs r) (h2 : RowOk cs r') {k : Ky} (hk : KyOk cs k) : rankD (kv cs k r) = rankD (kv cs k r') → kv cs k r = kv cs k r' := fun h => by
  obtain ⟨_, a, ka, la⟩ := key_in_ok hc h1 hk
  obtain ⟨_, b, kb, lb⟩ := key_in_ok hc h2 hk
  have := KyKind.one hc ka kb
  subst this
  exact rank_leaf la lb h
theorem take_inj {cs : List Col} {r r' : List PyData} (hc : ColsOk cs) (h1 : RowOk cs r) (h2 : RowOk cs r') : ∀ (ks : List Ky), (∀ k ∈ ks, KyOk cs k) → ∀ i j, ((pvL cs ks r).take i).map rankD = ((pvL cs ks r').take j).map rankD → (pvL cs ks r).take i = (pvL cs ks r').take j
  | [], _, i, j, _ => by simp [pvL]
  | k :: ks, hk, 0, 0, _ => by simp
  | k :: ks, hk, 0, j + 1, h => by simp [pvL] at h
  | k :: ks, hk, i + 1, 0, h => by simp [pvL] at h
  | k :: ks, hk, i + 1, j + 1, h => by
    have e : ∀ r i, (pvL cs (k :: ks) r).take (i + 1) = kv cs k r :: (pvL cs ks r).take i := fun _ _ => rfl
    rw [e, e] at h ⊢
    simp only [List.map_cons, List.cons.injEq] at h
    rw [pv_leaf hc h1 h2 (hk k List.mem_cons_self) h.1, take_inj hc h1 h2 ks (fun x hx => hk x (List.mem_cons_of_mem _ hx)) i j h.2]
theorem inj_prefs {cs : List Col} {rs : List (List PyData)} (h : TabOk cs rs) (p : Pn) {ks : List Ky} (hk : ∀ k ∈ ks, KyOk cs k) (n : Nat) : RkInj (prefs n (rps cs rs p ks)) := fun a ha b hb e => by
  rcases mem_prefs.mp ha with rfl | ⟨ds, hd, i, _, rfl⟩ <;> rcases mem_prefs.mp hb with rfl | ⟨es, he, j, _, rfl⟩
  · rfl
  · exact (List.map_eq_nil_iff.mp e.symm).symm
  · exact List.map_eq_nil_iff.mp e
  · obtain ⟨k, hk1, rfl⟩ := List.mem_map.mp hd
    obtain ⟨l, hl1, rfl⟩ := List.mem_map.mp he
    exact take_inj h.cols (getD_row h (ctN_lt hk1)) (getD_row h (ctN_lt hl1)) ks hk i j e
/-- what sides tells -/
structure SidesOk (cs : List Col) (rs : List (List PyData)) (p : Pn) (R C : List (List PyData)) : Prop where
  eq : M_sides [.val (tabD cs rs), .val (pnD p)] = .ok (.tuple [.list (R.map .tuple), .list (C.map .tuple)]) [.un, .un]
  rn : R.Nodup
  cn : C.Nodup
  rl : ∀ q ∈ R, Leaves q ∧ q.length ≤ p.rk.length
  cl : ∀ q ∈ C, Leaves q ∧ q.length ≤ p.ck.length
  r0 : [] ∈ R
  c0 : [] ∈ C
  rk : R.length ≤ 265
  ck : C.length ≤ 265
  rm : ∀ q, q ∈ R ↔ q ∈ prefs p.rk.length (rps cs rs p p.rk)
  cm : ∀ q, q ∈ C ↔ q ∈ prefs p.ck.length (rps cs rs p p.ck)
  rs' : R.Pairwise fun a b => pLt a b = true
  cs' : C.Pairwise fun a b => pLt a b = true
theorem sides_ok {cs : List Col} {rs : List (List PyData)} {p : Pn} (h : TabOk cs rs) (hp : PnOk cs p) : ∃ R C, SidesOk cs rs p R C := by
  have hf := h.few
  have e0 := counted_ok h hp
  have cl := ctN_len cs rs p rs.length
  have h1 := with_heads_ok (paths := (ctN cs rs p rs.length).map fun k => pvL cs p.rk (rs.getD k [])) (n := p.rk.length) (by have := hp.r3; omega) (by rw [List.length_map]; omega)
    (fun ds hd => by
      obtain ⟨k, hk, rfl⟩ := List.mem_map.mp hd
      exact pvL_leaves h.cols (getD_row h (ctN_lt hk)) hp.rk)
  have h2 := with_heads_ok (paths := (ctN cs rs p rs.length).map fun k => pvL cs p.ck (rs.getD k [])) (n := p.ck.length) (by have := hp.c3; omega) (by rw [List.length_map]; omega)
    (fun ds hd => by
      obtain ⟨k, hk, rfl⟩ := List.mem_map.mp hd
      exact pvL_leaves h.cols (getD_row h (ctN_lt hk)) hp.ck)
  obtain ⟨R, rn, rl, rm, rs', rk, e1⟩ := h1
  obtain ⟨C, cn, cl', cm, cs', ck, e2⟩ := h2
  refine ⟨R, C, ?_, rn, cn, rl, cl', (rm []).mpr (mem_prefs.mpr (.inl rfl)), (cm []).mpr (mem_prefs.mpr (.inl rfl)), rk, ck, rm, cm, rs' (inj_prefs h p hp.rk _), cs' (inj_prefs h p hp.ck _)⟩
  have x0 : ixD (pnD p) (.int 0) = some (.tuple (p.rk.map kyD)) := rfl
  have x1 : ixD (pnD p) (.int 1) = some (.tuple (p.ck.map kyD)) := rfl
  have f2 : fits 2 = true := rfl
  have f1 := mLc_map (fs := mIt (mVar 2)) (g := gNm 4) (f := m2 ixD (mVar 4) (mC (.int 1))) (vs := [4]) (ρ := [.val (tabD cs rs), .val (pnD p), .val (.list (ctL cs rs p)), .un, .un]) (ρ1 := [.val (tabD cs rs), .val (pnD p), .val (.list (ctL cs rs p)), .un, .un])
    (ctN cs rs p rs.length) (ctE cs rs p) (fun k => pv cs p.rk (rs.getD k [])) rfl rfl (fun k _ => ⟨[.val (tabD cs rs), .val (pnD p), .val (.list (ctL cs rs p)), .un, .val (ctE cs rs p k)], rfl, rfl, rfl, rfl⟩) (by omega)
  have f3 := mLc_map (fs := mIt (mVar 2)) (g := gNm 4) (f := m2 ixD (mVar 4) (mC (.int 2))) (vs := [4]) (ρ := [.val (tabD cs rs), .val (pnD p), .val (.list (ctL cs rs p)), .val (.list (R.map .tuple)), .un]) (ρ1 := [.val (tabD cs rs), .val (pnD p), .val (.list (ctL cs rs p)), .val (.list (R.map .tuple)), .un])
    (ctN cs rs p rs.length) (ctE cs rs p) (fun k => pv cs p.ck (rs.getD k [])) rfl rfl (fun k _ => ⟨[.val (tabD cs rs), .val (pnD p), .val (.list (ctL cs rs p)), .val (.list (R.map .tuple)), .val (ctE cs rs p k)], rfl, rfl, rfl, rfl⟩) (by omega)
  have g1 : (ctN cs rs p rs.length).map (fun k => pv cs p.rk (rs.getD k [])) = ((ctN cs rs p rs.length).map fun k => pvL cs p.rk (rs.getD k [])).map .tuple := by rw [List.map_map]; rfl
  have g2 : (ctN cs rs p rs.length).map (fun k => pv cs p.ck (rs.getD k [])) = ((ctN cs rs p rs.length).map fun k => pvL cs p.ck (rs.getD k [])).map .tuple := by rw [List.map_map]; rfl
  rw [g1] at f1
  rw [g2] at f3
  have l1 : lenD [.tuple (p.rk.map kyD)] = some (.int (p.rk.length : Nat)) := by rw [lenD_t, List.length_map]
  have l2 : lenD [.tuple (p.ck.map kyD)] = some (.int (p.ck.length : Nat)) := by rw [lenD_t, List.length_map]
  unfold M_sides mFn
  simp only [mSeq, mSet, mSetO, mSet2, mRet, mRetN, mDrop, mIfS, mIf, mB, mTru, mAnd, mOr, mNot, mAndV, mOrV, mNotV, mChain, mRaise, mNx, m1, m2, mN, mNL, mVar, mC, mNil, mCons, mLst, mTup, mDsp, mCall, mANil, mAv, mAr, mAb, hasR, hasB, toSl, VL.bs, back, mMut, heldR, setR, peekR, mLenP, mLenO, mRd, mItA, mIt, mAsg, gNm, gTp, gSeq, mYes, mSl, mPs, mPn, mKn, ok_bind, Oc.bind, Oc.opt, lenD_l, lenD_t, tupD, truD, isi_str_str, isi_str_tup, isi_str_int, isi_str_non, isi_str_lst, isi_tup_tup, isi_tup_lst, isi_tup_str, isi_tup_int, isi_tup_non, isi_lst_lst, isi_lst_tup, isi_int_int, isi_int_str, isi_int_non, isi_bool_int, isi_int_tup, isi_bool_tup, isi_bool_str, isi_bool_non, isi_lst_str, isi_lst_int, isi_lst_non, isD, isntD, isNoneD, addD_i, subD_i, seqD, appendD, List.replicate, List.append_nil, List.cons_append, List.nil_append, List.getElem?_cons_zero, List.getElem?_cons_succ, List.set_cons_zero, List.set_cons_succ, List.length_cons, List.length_nil, List.nodup_nil, List.nodup_cons, List.not_mem_nil, not_false_eq_true, and_self, Option.map, if_true, if_false, Bool.false_eq_true, Bool.not_true, Bool.not_false, Bool.and_true, Bool.true_and, Bool.false_and, Bool.and_false, finR, Sl.fin, wipeR, restR, List.getD_cons_zero, List.getD_cons_succ, decide_true, decide_false, Nat.reduceAdd, Nat.reduceLT, e0, f1, x0, x1, l1, l2, e1, f3, e2, f2]
  rfl
theorem heads_ok {cs : List Col} {rs : List (List PyData)} {p : Pn} {R C : List (List PyData)} (h : TabOk cs rs) (hp : PnOk cs p) (S : SidesOk cs rs p R C) : M_heads [.val (tabD cs rs), .val (pnD p)] = .ok (.tuple [.list (R.map .tuple), .list (C.map .tuple)]) [.un, .un] := by
  have e0 := look_all_ok h hp
  have e1 := S.eq
  unfold M_heads mFn
  simp only [mSeq, mSet, mSetO, mSet2, mRet, mRetN, mDrop, mIfS, mIf, mB, mTru, mAnd, mOr, mNot, mAndV, mOrV, mNotV, mChain, mRaise, mNx, m1, m2, mN, mNL, mVar, mC, mNil, mCons, mLst, mTup, mDsp, mCall, mANil, mAv, mAr, mAb, hasR, hasB, toSl, VL.bs, back, mMut, heldR, setR, peekR, mLenP, mLenO, mRd, mItA, mIt, mAsg, gNm, gTp, gSeq, mYes, mSl, mPs, mPn, mKn, ok_bind, Oc.bind, Oc.opt, lenD_l, lenD_t, tupD, truD, isi_str_str, isi_str_tup, isi_str_int, isi_str_non, isi_str_lst, isi_tup_tup, isi_tup_lst, isi_tup_str, isi_tup_int, isi_tup_non, isi_lst_lst, isi_lst_tup, isi_int_int, isi_int_str, isi_int_non, isi_bool_int, isi_int_tup, isi_bool_tup, isi_bool_str, isi_bool_non, isi_lst_str, isi_lst_int, isi_lst_non, isD, isntD, isNoneD, addD_i, subD_i, seqD, appendD, List.replicate, List.append_nil, List.cons_append, List.nil_append, List.getElem?_cons_zero, List.getElem?_cons_succ, List.set_cons_zero, List.set_cons_succ, List.length_cons, List.length_nil, List.nodup_nil, List.nodup_cons, List.not_mem_nil, not_false_eq_true, and_self, Option.map, if_true, if_false, Bool.false_eq_true, Bool.not_true, Bool.not_false, Bool.and_true, Bool.true_and, Bool.false_and, Bool.and_false, finR, Sl.fin, wipeR, restR, List.getD_cons_zero, List.getD_cons_succ, decide_true, decide_false, Nat.reduceAdd, Nat.reduceLT, e0, e1]
  rfl
theorem gd_leaves {ds : List PyData} (h : Leaves ds) (n : Nat) : gdn (n + 1) (.tuple ds) = true := List.all_eq_true.mpr fun d hd => by
  have := h d hd
  cases d <;> simp [leafB] at this <;> cases n <;> rfl
theorem begins_ok {ds hs : List PyData} (h1 : Leaves ds) (h2 : Leaves hs) : M_begins [.val (.tuple ds), .val (.tuple hs)] = .ok (.bool (decide (ds.take hs.length = hs))) [.un, .un] := by
  have e1 := slT_hi ds hs.length
  have e2 : eqD (.tuple (ds.take hs.length)) (.tuple hs) = some (.bool (decide (ds.take hs.length = hs))) := by
    rw [eqD_g (gd_leaves (fun d hd => h1 d (List.mem_of_mem_take hd)) 49) (gd_leaves h2 49)]
    congr 2
    simp
  unfold M_begins mFn
  simp only [mSeq, mSet, mSetO, mSet2, mRet, mRetN, mDrop, mIfS, mIf, mB, mTru, mAnd, mOr, mNot, mAndV, mOrV, mNotV, mChain, mRaise, mNx, m1, m2, mN, mNL, mVar, mC, mNil, mCons, mLst, mTup, mDsp, mCall, mANil, mAv, mAr, mAb, hasR, hasB, toSl, VL.bs, back, mMut, heldR, setR, peekR, mLenP, mLenO, mRd, mItA, mIt, mAsg, gNm, gTp, gSeq, mYes, mSl, mPs, mPn, mKn, ok_bind, Oc.bind, Oc.opt, lenD_l, lenD_t, tupD, truD, isi_str_str, isi_str_tup, isi_str_int, isi_str_non, isi_str_lst, isi_tup_tup, isi_tup_lst, isi_tup_str, isi_tup_int, isi_tup_non, isi_lst_lst, isi_lst_tup, isi_int_int, isi_int_str, isi_int_non, isi_bool_int, isi_int_tup, isi_bool_tup, isi_bool_str, isi_bool_non, isi_lst_str, isi_lst_int, isi_lst_non, isD, isntD, isNoneD, addD_i, subD_i, seqD, appendD, List.replicate, List.append_nil, List.cons_append, List.nil_append, List.getElem?_cons_zero, List.getElem?_cons_succ, List.set_cons_zero, List.set_cons_succ, List.length_cons, List.length_nil, List.nodup_nil, List.nodup_cons, List.not_mem_nil, not_false_eq_true, and_self, Option.map, if_true, if_false, Bool.false_eq_true, Bool.not_true, Bool.not_false, Bool.and_true, Bool.true_and, Bool.false_and, Bool.and_false, finR, Sl.fin, wipeR, restR, List.getD_cons_zero, List.getD_cons_succ, decide_true, decide_false, Nat.reduceAdd, Nat.reduceLT, e1, e2]
  rfl
/-- the rows behind a place -/
noncomputable def mbN (cs : List Col) (rs : List (List PyData)) (p : Pn) (r c : List PyData) : List Nat := (ctN cs rs p rs.length).filter fun k => decide ((pvL cs p.rk (rs.getD k [])).take r.length = r) && decide ((pvL cs p.ck (rs.getD k [])).take c.length = c)
theorem members_ok {cs : List Col} {rs : List (List PyData)} {p : Pn} (h : TabOk cs rs) (hp : PnOk cs p) {r c : List PyData} (hr : Leaves r) (hc : Leaves c) : M_members [.val (.list (ctL cs rs p)), .val (.tuple r), .val (.tuple c)] = .ok (.list ((mbN cs rs p r c).map fun k => .int ((k : Nat) : Int))) [.un, .un, .un] := by
  have hf := h.few
  have cl := ctN_len cs rs p rs.length
  have f1 := mLc_pure (fs := mIt (mVar 0)) (g := gNm 3) (t := mAnd (mTru (mCall M_begins (mAv (m2 ixD (mVar 3) (mC (.int 1))) (mAv (mVar 1) mANil)))) (mTru (mCall M_begins (mAv (m2 ixD (mVar 3) (mC (.int 2))) (mAv (mVar 2) mANil))))) (f := m2 ixD (mVar 3) (mC (.int 0))) (vs := [3])
    (ρ := [.val (.list (ctL cs rs p)), .val (.tuple r), .val (.tuple c), .un]) (ρ1 := [.val (.list (ctL cs rs p)), .val (.tuple r), .val (.tuple c), .un]) (ctN cs rs p rs.length) (ctE cs rs p)
    (fun k => decide ((pvL cs p.rk (rs.getD k [])).take r.length = r) && decide ((pvL cs p.ck (rs.getD k [])).take c.length = c)) (fun k => .int ((k : Nat) : Int)) rfl rfl
    (fun k hk => ⟨[.val (.list (ctL cs rs p)), .val (.tuple r), .val (.tuple c), .val (ctE cs rs p k)], rfl, by
      have hro := getD_row h (ctN_lt hk)
      have b1 := begins_ok (pvL_leaves h.cols hro hp.rk) hr
      have b2 := begins_ok (pvL_leaves h.cols hro hp.ck) hc
      have x1 : ixD (ctE cs rs p k) (.int 1) = some (.tuple (pvL cs p.rk (rs.getD k []))) := rfl
      have x2 : ixD (ctE cs rs p k) (.int 2) = some (.tuple (pvL cs p.ck (rs.getD k []))) := rfl
      cases q1 : decide ((pvL cs p.rk (rs.getD k [])).take r.length = r) with
      | false =>
        rw [q1] at b1
        simp only [mSeq, mSet, mSetO, mSet2, mRet, mRetN, mDrop, mIfS, mIf, mB, mTru, mAnd, mOr, mNot, mAndV, mOrV, mNotV, mChain, mRaise, mNx, m1, m2, mN, mNL, mVar, mC, mNil, mCons, mLst, mTup, mDsp, mCall, mANil, mAv, mAr, mAb, hasR, hasB, toSl, VL.bs, back, mMut, heldR, setR, peekR, mLenP, mLenO, mRd, mItA, mIt, mAsg, gNm, gTp, gSeq, mYes, mSl, mPs, mPn, mKn, ok_bind, Oc.bind, Oc.opt, lenD_l, lenD_t, tupD, truD, isi_str_str, isi_str_tup, isi_str_int, isi_str_non, isi_str_lst, isi_tup_tup, isi_tup_lst, isi_tup_str, isi_tup_int, isi_tup_non, isi_lst_lst, isi_lst_tup, isi_int_int, isi_int_str, isi_int_non, isi_bool_int, isi_int_tup, isi_bool_tup, isi_bool_str, isi_bool_non, isi_lst_str, isi_lst_int, isi_lst_non, isD, isntD, isNoneD, addD_i, subD_i, seqD, appendD, List.replicate, List.append_nil, List.cons_append, List.nil_append, List.getElem?_cons_zero, List.getElem?_cons_succ, List.set_cons_zero, List.set_cons_succ, List.length_cons, List.length_nil, List.nodup_nil, List.nodup_cons, List.not_mem_nil, not_false_eq_true, and_self, Option.map, if_true, if_false, Bool.false_eq_true, Bool.not_true, Bool.not_false, Bool.and_true, Bool.true_and, Bool.false_and, Bool.and_false, finR, Sl.fin, wipeR, restR, List.getD_cons_zero, List.getD_cons_succ, decide_true, decide_false, Nat.reduceAdd, Nat.reduceLT, x1, x2, b1]
      | true =>
        rw [q1] at b1
        simp only [mSeq, mSet, mSetO, mSet2, mRet, mRetN, mDrop, mIfS, mIf, mB, mTru, mAnd, mOr, mNot, mAndV, mOrV, mNotV, mChain, mRaise, mNx, m1, m2, mN, mNL, mVar, mC, mNil, mCons, mLst, mTup, mDsp, mCall, mANil, mAv, mAr, mAb, hasR, hasB, toSl, VL.bs, back, mMut, heldR, setR, peekR, mLenP, mLenO, mRd, mItA, mIt, mAsg, gNm, gTp, gSeq, mYes, mSl, mPs, mPn, mKn, ok_bind, Oc.bind, Oc.opt, lenD_l, lenD_t, tupD, truD, isi_str_str, isi_str_tup, isi_str_int, isi_str_non, isi_str_lst, isi_tup_tup, isi_tup_lst, isi_tup_str, isi_tup_int, isi_tup_non, isi_lst_lst, isi_lst_tup, isi_int_int, isi_int_str, isi_int_non, isi_bool_int, isi_int_tup, isi_bool_tup, isi_bool_str, isi_bool_non, isi_lst_str, isi_lst_int, isi_lst_non, isD, isntD, isNoneD, addD_i, subD_i, seqD, appendD, List.replicate, List.append_nil, List.cons_append, List.nil_append, List.getElem?_cons_zero, List.getElem?_cons_succ, List.set_cons_zero, List.set_cons_succ, List.length_cons, List.length_nil, List.nodup_nil, List.nodup_cons, List.not_mem_nil, not_false_eq_true, and_self, Option.map, if_true, if_false, Bool.false_eq_true, Bool.not_true, Bool.not_false, Bool.and_true, Bool.true_and, Bool.false_and, Bool.and_false, finR, Sl.fin, wipeR, restR, List.getD_cons_zero, List.getD_cons_succ, decide_true, decide_false, Nat.reduceAdd, Nat.reduceLT, x1, x2, b1, b2], fun _ => rfl, rfl, rfl⟩) (by omega)
  unfold M_members mFn
  simp only [mSeq, mSet, mSetO, mSet2, mRet, mRetN, mDrop, mIfS, mIf, mB, mTru, mAnd, mOr, mNot, mAndV, mOrV, mNotV, mChain, mRaise, mNx, m1, m2, mN, mNL, mVar, mC, mNil, mCons, mLst, mTup, mDsp, mCall, mANil, mAv, mAr, mAb, hasR, hasB, toSl, VL.bs, back, mMut, heldR, setR, peekR, mLenP, mLenO, mRd, mItA, mIt, mAsg, gNm, gTp, gSeq, mYes, mSl, mPs, mPn, mKn, ok_bind, Oc.bind, Oc.opt, lenD_l, lenD_t, tupD, truD, isi_str_str, isi_str_tup, isi_str_int, isi_str_non, isi_str_lst, isi_tup_tup, isi_tup_lst, isi_tup_str, isi_tup_int, isi_tup_non, isi_lst_lst, isi_lst_tup, isi_int_int, isi_int_str, isi_int_non, isi_bool_int, isi_int_tup, isi_bool_tup, isi_bool_str, isi_bool_non, isi_lst_str, isi_lst_int, isi_lst_non, isD, isntD, isNoneD, addD_i, subD_i, seqD, appendD, List.replicate, List.append_nil, List.cons_append, List.nil_append, List.getElem?_cons_zero, List.getElem?_cons_succ, List.set_cons_zero, List.set_cons_succ, List.length_cons, List.length_nil, List.nodup_nil, List.nodup_cons, List.not_mem_nil, not_false_eq_true, and_self, Option.map, if_true, if_false, Bool.false_eq_true, Bool.not_true, Bool.not_false, Bool.and_true, Bool.true_and, Bool.false_and, Bool.and_false, finR, Sl.fin, wipeR, restR, List.getD_cons_zero, List.getD_cons_succ, decide_true, decide_false, Nat.reduceAdd, Nat.reduceLT, f1]
  rfl
end VL

set_option Elab.async false
set_option linter.all false
set_option maxRecDepth 100000
set_option maxHeartbeats 4000000
/-! VM10: fractions; the values behind a place. -/
namespace VL
open PySem L2
theorem gcd_fmod (a : Int) {b : Int} (h : 0 < b) : Int.gcd b (a.fmod b) = Int.gcd a b := by
  rw [Int.fmod_eq_emod_of_nonneg a (Int.le_of_lt h), Int.gcd_comm, Int.emod_def, Int.mul_comm b (a / b), Int.gcd_sub_mul_right_left]
theorem div_loop : ∀ (n : Nat) (a b : Int), 0 ≤ b → b < n → ∃ g : Int, g.natAbs = Int.gcd a b ∧ whileS (mTru (mVar 1)) (mSet2 0 1 (mVar 1) (m2 modD (mVar 0) (mVar 1))) n [.val (.int a), .val (.int b)] = .ok .nx [.val (.int g), .val (.int 0)]
  | 0, a, b, h1, h2 => by omega
  | n + 1, a, b, h1, h2 => by
    by_cases c : b = 0
    · subst c
      refine ⟨a, by simp, ?_⟩
      show (mTru (mVar 1) [.val (.int a), .val (.int 0)]).bind _ = _
      rfl
    · have hb : 0 < b := by omega
      obtain ⟨r1, r2⟩ := fmod_lt (a := a) hb
      obtain ⟨g, hg, e⟩ := div_loop n b (a.fmod b) r1 (by omega)
      refine ⟨g, by rw [hg, gcd_fmod a hb], ?_⟩
      have e1 : mTru (mVar 1) [.val (.int a), .val (.int b)] = .ok true [.val (.int a), .val (.int b)] := by
        have : (b != 0) = true := by simpa using c
        simp only [mSeq, mSet, mSetO, mSet2, mRet, mRetN, mDrop, mIfS, mIf, mB, mTru, mAnd, mOr, mNot, mAndV, mOrV, mNotV, mChain, mRaise, mNx, m1, m2, mN, mNL, mVar, mC, mNil, mCons, mLst, mTup, mDsp, mCall, mANil, mAv, mAr, mAb, hasR, hasB, toSl, VL.bs, back, mMut, heldR, setR, peekR, mLenP, mLenO, mRd, mItA, mIt, mAsg, gNm, gTp, gSeq, mYes, mSl, mPs, mPn, mKn, ok_bind, Oc.bind, Oc.opt, lenD_l, lenD_t, tupD, truD, isi_str_str, isi_str_tup, isi_str_int, isi_str_non, isi_str_lst, isi_tup_tup, isi_tup_lst, isi_tup_str, isi_tup_int, isi_tup_non, isi_lst_lst, isi_lst_tup, isi_int_int, isi_int_str, isi_int_non, isi_bool_int, isi_int_tup, isi_bool_tup, isi_bool_str, isi_bool_non, isi_lst_str, isi_lst_int, isi_lst_non, isD, isntD, isNoneD, addD_i, subD_i, seqD, appendD, List.replicate, List.append_nil, List.cons_append, List.nil_append, List.getElem?_cons_zero, List.getElem?_cons_succ, List.set_cons_zero, List.set_cons_succ, List.length_cons, List.length_nil, List.nodup_nil, List.nodup_cons, List.not_mem_nil, not_false_eq_true, and_self, Option.map, if_true, if_false, Bool.false_eq_true, Bool.not_true, Bool.not_false, Bool.and_true, Bool.true_and, Bool.false_and, Bool.and_false, finR, Sl.fin, wipeR, restR, List.getD_cons_zero, List.getD_cons_succ, decide_true, decide_false, Nat.reduceAdd, Nat.reduceLT, this]
      have e2 : mSet2 0 1 (mVar 1) (m2 modD (mVar 0) (mVar 1)) [.val (.int a), .val (.int b)] = .ok .nx [.val (.int b), .val (.int (a.fmod b))] := by
        have e := modD_i (i := a) (j := b) (by omega)
        simp only [mSeq, mSet, mSetO, mSet2, mRet, mRetN, mDrop, mIfS, mIf, mB, mTru, mAnd, mOr, mNot, mAndV, mOrV, mNotV, mChain, mRaise, mNx, m1, m2, mN, mNL, mVar, mC, mNil, mCons, mLst, mTup, mDsp, mCall, mANil, mAv, mAr, mAb, hasR, hasB, toSl, VL.bs, back, mMut, heldR, setR, peekR, mLenP, mLenO, mRd, mItA, mIt, mAsg, gNm, gTp, gSeq, mYes, mSl, mPs, mPn, mKn, ok_bind, Oc.bind, Oc.opt, lenD_l, lenD_t, tupD, truD, isi_str_str, isi_str_tup, isi_str_int, isi_str_non, isi_str_lst, isi_tup_tup, isi_tup_lst, isi_tup_str, isi_tup_int, isi_tup_non, isi_lst_lst, isi_lst_tup, isi_int_int, isi_int_str, isi_int_non, isi_bool_int, isi_int_tup, isi_bool_tup, isi_bool_str, isi_bool_non, isi_lst_str, isi_lst_int, isi_lst_non, isD, isntD, isNoneD, addD_i, subD_i, seqD, appendD, List.replicate, List.append_nil, List.cons_append, List.nil_append, List.getElem?_cons_zero, List.getElem?_cons_succ, List.set_cons_zero, List.set_cons_succ, List.length_cons, List.length_nil, List.nodup_nil, List.nodup_cons, List.not_mem_nil, not_false_eq_true, and_self, Option.map, if_true, if_false, Bool.false_eq_true, Bool.not_true, Bool.not_false, Bool.and_true, Bool.true_and, Bool.false_and, Bool.and_false, finR, Sl.fin, wipeR, restR, List.getD_cons_zero, List.getD_cons_succ, decide_true, decide_false, Nat.reduceAdd, Nat.reduceLT, e]
      show (mTru (mVar 1) [.val (.int a), .val (.int b)]).bind (fun b ρ1 => if b = true then (mSet2 0 1 (mVar 1) (m2 modD (mVar 0) (mVar 1)) ρ1).bind fun fl ρ2 => match fl with
          | .nx => whileS (mTru (mVar 1)) (mSet2 0 1 (mVar 1) (m2 modD (mVar 0) (mVar 1))) n ρ2
          | .ct => whileS (mTru (mVar 1)) (mSet2 0 1 (mVar 1) (m2 modD (mVar 0) (mVar 1))) n ρ2
          | .bk => .ok .nx ρ2
          | .rt d => .ok (.rt d) ρ2
        else .ok .nx ρ1) = _
      rw [e1, ok_bind]
      simp only [if_true]
      rw [e2, ok_bind]
      exact e
theorem divisor_ok (a : Int) {b : Int} (h : 0 ≤ b) : M_divisor [.val (.int a), .val (.int b)] = .ok (.int (Int.gcd a b : Nat)) [.un, .un] := by
  obtain ⟨g, hg, e⟩ := div_loop (b.toNat + 1) a b h (by omega)
  have e1 : mWhile (mTru (mVar 1)) (mSet2 0 1 (mVar 1) (m2 modD (mVar 0) (mVar 1))) [.val (.int a), .val (.int b)] = .ok .nx [.val (.int g), .val (.int 0)] := by
    rw [mWhile_of (n := b.toNat + 1) (by rw [e]; nofun), e]
  have e2 : absD [.int g] = some (.int (Int.gcd a b : Nat)) := by
    rw [← hg]
    show some (PyData.int (if g < 0 then -g else g)) = _
    congr 2
    split <;> omega
  unfold M_divisor mFn
  simp only [mSeq, mSet, mSetO, mSet2, mRet, mRetN, mDrop, mIfS, mIf, mB, mTru, mAnd, mOr, mNot, mAndV, mOrV, mNotV, mChain, mRaise, mNx, m1, m2, mN, mNL, mVar, mC, mNil, mCons, mLst, mTup, mDsp, mCall, mANil, mAv, mAr, mAb, hasR, hasB, toSl, VL.bs, back, mMut, heldR, setR, peekR, mLenP, mLenO, mRd, mItA, mIt, mAsg, gNm, gTp, gSeq, mYes, mSl, mPs, mPn, mKn, ok_bind, Oc.bind, Oc.opt, lenD_l, lenD_t, tupD, truD, isi_str_str, isi_str_tup, isi_str_int, isi_str_non, isi_str_lst, isi_tup_tup, isi_tup_lst, isi_tup_str, isi_tup_int, isi_tup_non, isi_lst_lst, isi_lst_tup, isi_int_int, isi_int_str, isi_int_non, isi_bool_int, isi_int_tup, isi_bool_tup, isi_bool_str, isi_bool_non, isi_lst_str, isi_lst_int, isi_lst_non, isD, isntD, isNoneD, addD_i, subD_i, seqD, appendD, List.replicate, List.append_nil, List.cons_append, List.nil_append, List.getElem?_cons_zero, List.getElem?_cons_succ, List.set_cons_zero, List.set_cons_succ, List.length_cons, List.length_nil, List.nodup_nil, List.nodup_cons, List.not_mem_nil, not_false_eq_true, and_self, Option.map, if_true, if_false, Bool.false_eq_true, Bool.not_true, Bool.not_false, Bool.and_true, Bool.true_and, Bool.false_and, Bool.and_false, finR, Sl.fin, wipeR, restR, List.getD_cons_zero, List.getD_cons_succ, decide_true, decide_false, Nat.reduceAdd, Nat.reduceLT, e1, e2]
  rfl
/-- a fraction told least -/
def frac (t u : Int) : PyData := if u = 0 then .none else if u < 0 then .tuple [.int ((0 - t) / (Int.gcd (0 - t) (0 - u) : Nat)), .int ((0 - u) / (Int.gcd (0 - t) (0 - u) : Nat))] else .tuple [.int (t / (Int.gcd t u : Nat)), .int (u / (Int.gcd t u : Nat))]
theorem ltD_t {i j : Int} (h : i < j) : ltD (.int i) (.int j) = some (.bool true) := by show some (PyData.bool (decide (i < j))) = _; rw [decide_eq_true h]
theorem ltD_f {i j : Int} (h : ¬ i < j) : ltD (.int i) (.int j) = some (.bool false) := by show some (PyData.bool (decide (i < j))) = _; rw [decide_eq_false h]
theorem gcd_room {t u : Int} (h : 0 < u) (h2 : u < 9223372036854775808) : 0 < ((Int.gcd t u : Nat) : Int) ∧ ((Int.gcd t u : Nat) : Int).natAbs < 2 ^ 64 := by
  have a := Int.gcd_le_right t h
  have b := Int.gcd_pos_of_ne_zero_right t (show u ≠ 0 by omega)
  constructor <;> omega
theorem least_ok (t : Int) {u : Int} (h1 : -9223372036854775808 < u) (h2 : u < 9223372036854775808) : M_least [.val (.int t), .val (.int u)] = .ok (frac t u) [.un, .un] := by
  have f2 : fits 2 = true := rfl
  unfold frac
  by_cases c : u = 0
  · rw [if_pos c]
    have e1 : eqD (.int u) (.int 0) = some (.bool true) := by rw [eqD_i, decide_eq_true c]
    unfold M_least mFn
    simp only [mSeq, mSet, mSetO, mSet2, mRet, mRetN, mDrop, mIfS, mIf, mB, mTru, mAnd, mOr, mNot, mAndV, mOrV, mNotV, mChain, mRaise, mNx, m1, m2, mN, mNL, mVar, mC, mNil, mCons, mLst, mTup, mDsp, mCall, mANil, mAv, mAr, mAb, hasR, hasB, toSl, VL.bs, back, mMut, heldR, setR, peekR, mLenP, mLenO, mRd, mItA, mIt, mAsg, gNm, gTp, gSeq, mYes, mSl, mPs, mPn, mKn, ok_bind, Oc.bind, Oc.opt, lenD_l, lenD_t, tupD, truD, isi_str_str, isi_str_tup, isi_str_int, isi_str_non, isi_str_lst, isi_tup_tup, isi_tup_lst, isi_tup_str, isi_tup_int, isi_tup_non, isi_lst_lst, isi_lst_tup, isi_int_int, isi_int_str, isi_int_non, isi_bool_int, isi_int_tup, isi_bool_tup, isi_bool_str, isi_bool_non, isi_lst_str, isi_lst_int, isi_lst_non, isD, isntD, isNoneD, addD_i, subD_i, seqD, appendD, List.replicate, List.append_nil, List.cons_append, List.nil_append, List.getElem?_cons_zero, List.getElem?_cons_succ, List.set_cons_zero, List.set_cons_succ, List.length_cons, List.length_nil, List.nodup_nil, List.nodup_cons, List.not_mem_nil, not_false_eq_true, and_self, Option.map, if_true, if_false, Bool.false_eq_true, Bool.not_true, Bool.not_false, Bool.and_true, Bool.true_and, Bool.false_and, Bool.and_false, finR, Sl.fin, wipeR, restR, List.getD_cons_zero, List.getD_cons_succ, decide_true, decide_false, Nat.reduceAdd, Nat.reduceLT, e1]
    rfl
  · rw [if_neg c]
    have e1 : eqD (.int u) (.int 0) = some (.bool false) := by rw [eqD_i, decide_eq_false c]
    by_cases c2 : u < 0
    · rw [if_pos c2]
      have e2 := ltD_t c2
      have e3 := divisor_ok (0 - t) (b := 0 - u) (by omega)
      obtain ⟨g1, g2⟩ := gcd_room (t := 0 - t) (u := 0 - u) (by omega) (by omega)
      have e4 := divD_i (i := 0 - t) g1 g2
      have e5 := divD_i (i := 0 - u) g1 g2
      unfold M_least mFn
      simp only [mSeq, mSet, mSetO, mSet2, mRet, mRetN, mDrop, mIfS, mIf, mB, mTru, mAnd, mOr, mNot, mAndV, mOrV, mNotV, mChain, mRaise, mNx, m1, m2, mN, mNL, mVar, mC, mNil, mCons, mLst, mTup, mDsp, mCall, mANil, mAv, mAr, mAb, hasR, hasB, toSl, VL.bs, back, mMut, heldR, setR, peekR, mLenP, mLenO, mRd, mItA, mIt, mAsg, gNm, gTp, gSeq, mYes, mSl, mPs, mPn, mKn, ok_bind, Oc.bind, Oc.opt, lenD_l, lenD_t, tupD, truD, isi_str_str, isi_str_tup, isi_str_int, isi_str_non, isi_str_lst, isi_tup_tup, isi_tup_lst, isi_tup_str, isi_tup_int, isi_tup_non, isi_lst_lst, isi_lst_tup, isi_int_int, isi_int_str, isi_int_non, isi_bool_int, isi_int_tup, isi_bool_tup, isi_bool_str, isi_bool_non, isi_lst_str, isi_lst_int, isi_lst_non, isD, isntD, isNoneD, addD_i, subD_i, seqD, appendD, List.replicate, List.append_nil, List.cons_append, List.nil_append, List.getElem?_cons_zero, List.getElem?_cons_succ, List.set_cons_zero, List.set_cons_succ, List.length_cons, List.length_nil, List.nodup_nil, List.nodup_cons, List.not_mem_nil, not_false_eq_true, and_self, Option.map, if_true, if_false, Bool.false_eq_true, Bool.not_true, Bool.not_false, Bool.and_true, Bool.true_and, Bool.false_and, Bool.and_false, finR, Sl.fin, wipeR, restR, List.getD_cons_zero, List.getD_cons_succ, decide_true, decide_false, Nat.reduceAdd, Nat.reduceLT, e1, e2, e3, e4, e5, f2]
      rfl
    · rw [if_neg c2]
      have e2 := ltD_f c2
      have e3 := divisor_ok t (b := u) (by omega)
      obtain ⟨g1, g2⟩ := gcd_room (t := t) (u := u) (by omega) (by omega)
      have e4 := divD_i (i := t) g1 g2
      have e5 := divD_i (i := u) g1 g2
      unfold M_least mFn
      simp only [mSeq, mSet, mSetO, mSet2, mRet, mRetN, mDrop, mIfS, mIf, mB, mTru, mAnd, mOr, mNot, mAndV, mOrV, mNotV, mChain, mRaise, mNx, m1, m2, mN, mNL, mVar, mC, mNil, mCons, mLst, mTup, mDsp, mCall, mANil, mAv, mAr, mAb, hasR, hasB, toSl, VL.bs, back, mMut, heldR, setR, peekR, mLenP, mLenO, mRd, mItA, mIt, mAsg, gNm, gTp, gSeq, mYes, mSl, mPs, mPn, mKn, ok_bind, Oc.bind, Oc.opt, lenD_l, lenD_t, tupD, truD, isi_str_str, isi_str_tup, isi_str_int, isi_str_non, isi_str_lst, isi_tup_tup, isi_tup_lst, isi_tup_str, isi_tup_int, isi_tup_non, isi_lst_lst, isi_lst_tup, isi_int_int, isi_int_str, isi_int_non, isi_bool_int, isi_int_tup, isi_bool_tup, isi_bool_str, isi_bool_non, isi_lst_str, isi_lst_int, isi_lst_non, isD, isntD, isNoneD, addD_i, subD_i, seqD, appendD, List.replicate, List.append_nil, List.cons_append, List.nil_append, List.getElem?_cons_zero, List.getElem?_cons_succ, List.set_cons_zero, List.set_cons_succ, List.length_cons, List.length_nil, List.nodup_nil, List.nodup_cons, List.not_mem_nil, not_false_eq_true, and_self, Option.map, if_true, if_false, Bool.false_eq_true, Bool.not_true, Bool.not_false, Bool.and_true, Bool.true_and, Bool.false_and, Bool.and_false, finR, Sl.fin, wipeR, restR, List.getD_cons_zero, List.getD_cons_succ, decide_true, decide_false, Nat.reduceAdd, Nat.reduceLT, e1, e2, e3, e4, e5, f2]
      rfl
/-! ### values -/
/-- the values of a column in rows, without gaps -/
noncomputable def vlL (rs : List (List PyData)) (i : Nat) (ks : List Nat) : List PyData := (ks.map fun k => (rs.getD k []).getD i .none).filter fun d => !isNoneD d
theorem values_ok {cs : List Col} {rs : List (List PyData)} (h : TabOk cs rs) {i : Nat} {c : Col} (hi : cs[i]? = some c) {ks : List Nat} (hk : ∀ k ∈ ks, k < rs.length) (hl : ks.length ≤ 1000) :
    M_values_of [.val (tabD cs rs), .val (.str c.n), .val (.list (ks.map fun k => .int ((k : Nat) : Int)))] = .ok (.list (vlL rs i ks)) [.un, .un, .un] := by
  let T := tabD cs rs
  let N := PyData.list (ks.map fun k => .int ((k : Nat) : Int))
  have x0 : ixD (tabD cs rs) (.int 0) = some (colsD cs) := rfl
  have x1 : ixD (tabD cs rs) (.int 1) = some (rowsD rs) := rfl
  have e0 := place_ok h.cols hi
  have f1 := mLc_map (fs := mIt (mVar 2)) (g := gNm 5) (f := m2 ixD (m2 ixD (m2 ixD (mVar 0) (mC (.int 1))) (mVar 5)) (mVar 3)) (vs := [5])
    (ρ := [.val (tabD cs rs), .val (.str c.n), .val (.list (ks.map fun k => .int ((k : Nat) : Int))), .val (.int (i : Int)), .un, .un, .un]) (ρ1 := [.val (tabD cs rs), .val (.str c.n), .val (.list (ks.map fun k => .int ((k : Nat) : Int))), .val (.int (i : Int)), .un, .un, .un]) ks (fun k => .int ((k : Nat) : Int)) (fun k => (rs.getD k []).getD i .none) rfl rfl
    (fun k hk' => ⟨[.val (tabD cs rs), .val (.str c.n), .val (.list (ks.map fun k => .int ((k : Nat) : Int))), .val (.int (i : Int)), .un, .val (.int (k : Int)), .un], rfl, by
      have lt := hk k hk'
      have hrk : rs[k]? = some rs[k] := List.getElem?_eq_getElem lt
      have y1 : ixD (rowsD rs) (.int (k : Int)) = some (.tuple rs[k]) := ix_list hrk
      obtain ⟨d, hd, _, y2⟩ := row_at (h.rows _ (List.getElem_mem lt)) hi
      have y3 : (rs.getD k []).getD i .none = d := by
        rw [List.getD_eq_getElem?_getD (l := rs), hrk]
        show rs[k].getD i .none = d
        rw [List.getD_eq_getElem?_getD, hd]
        rfl
      rw [y3]
      simp only [mSeq, mSet, mSetO, mSet2, mRet, mRetN, mDrop, mIfS, mIf, mB, mTru, mAnd, mOr, mNot, mAndV, mOrV, mNotV, mChain, mRaise, mNx, m1, m2, mN, mNL, mVar, mC, mNil, mCons, mLst, mTup, mDsp, mCall, mANil, mAv, mAr, mAb, hasR, hasB, toSl, VL.bs, back, mMut, heldR, setR, peekR, mLenP, mLenO, mRd, mItA, mIt, mAsg, gNm, gTp, gSeq, mYes, mSl, mPs, mPn, mKn, ok_bind, Oc.bind, Oc.opt, lenD_l, lenD_t, tupD, truD, isi_str_str, isi_str_tup, isi_str_int, isi_str_non, isi_str_lst, isi_tup_tup, isi_tup_lst, isi_tup_str, isi_tup_int, isi_tup_non, isi_lst_lst, isi_lst_tup, isi_int_int, isi_int_str, isi_int_non, isi_bool_int, isi_int_tup, isi_bool_tup, isi_bool_str, isi_bool_non, isi_lst_str, isi_lst_int, isi_lst_non, isD, isntD, isNoneD, addD_i, subD_i, seqD, appendD, List.replicate, List.append_nil, List.cons_append, List.nil_append, List.getElem?_cons_zero, List.getElem?_cons_succ, List.set_cons_zero, List.set_cons_succ, List.length_cons, List.length_nil, List.nodup_nil, List.nodup_cons, List.not_mem_nil, not_false_eq_true, and_self, Option.map, if_true, if_false, Bool.false_eq_true, Bool.not_true, Bool.not_false, Bool.and_true, Bool.true_and, Bool.false_and, Bool.and_false, finR, Sl.fin, wipeR, restR, List.getD_cons_zero, List.getD_cons_succ, decide_true, decide_false, Nat.reduceAdd, Nat.reduceLT, x1, y1, y2], rfl, rfl⟩) (by omega)
  obtain ⟨vs, hvs⟩ : ∃ vs, vs = ks.map fun k => (rs.getD k []).getD i .none := ⟨_, rfl⟩
  rw [← hvs] at f1
  have hvl : vs.length ≤ 1000 := by rw [hvs, List.length_map]; exact hl
  have f2 := mLc_pure (fs := mIt (mVar 4)) (g := gNm 6) (t := mB (m2 isntD (mVar 6) (mC .none))) (f := mVar 6) (vs := [6])
    (ρ := [.val (tabD cs rs), .val (.str c.n), .val (.list (ks.map fun k => .int ((k : Nat) : Int))), .val (.int (i : Int)), .val (.list vs), .un, .un]) (ρ1 := [.val (tabD cs rs), .val (.str c.n), .val (.list (ks.map fun k => .int ((k : Nat) : Int))), .val (.int (i : Int)), .val (.list vs), .un, .un]) vs id (fun d => !isNoneD d) id (by rw [List.map_id]; rfl) rfl
    (fun d _ => ⟨[.val (tabD cs rs), .val (.str c.n), .val (.list (ks.map fun k => .int ((k : Nat) : Int))), .val (.int (i : Int)), .val (.list vs), .un, .val d], rfl, rfl, fun _ => rfl, rfl, rfl⟩) (by omega)
  rw [List.map_id] at f2
  have hf : vlL rs i ks = vs.filter fun d => !isNoneD d := by rw [hvs]; rfl
  rw [hf]
  unfold M_values_of mFn
  simp only [mSeq, mSet, mSetO, mSet2, mRet, mRetN, mDrop, mIfS, mIf, mB, mTru, mAnd, mOr, mNot, mAndV, mOrV, mNotV, mChain, mRaise, mNx, m1, m2, mN, mNL, mVar, mC, mNil, mCons, mLst, mTup, mDsp, mCall, mANil, mAv, mAr, mAb, hasR, hasB, toSl, VL.bs, back, mMut, heldR, setR, peekR, mLenP, mLenO, mRd, mItA, mIt, mAsg, gNm, gTp, gSeq, mYes, mSl, mPs, mPn, mKn, ok_bind, Oc.bind, Oc.opt, lenD_l, lenD_t, tupD, truD, isi_str_str, isi_str_tup, isi_str_int, isi_str_non, isi_str_lst, isi_tup_tup, isi_tup_lst, isi_tup_str, isi_tup_int, isi_tup_non, isi_lst_lst, isi_lst_tup, isi_int_int, isi_int_str, isi_int_non, isi_bool_int, isi_int_tup, isi_bool_tup, isi_bool_str, isi_bool_non, isi_lst_str, isi_lst_int, isi_lst_non, isD, isntD, isNoneD, addD_i, subD_i, seqD, appendD, List.replicate, List.append_nil, List.cons_append, List.nil_append, List.getElem?_cons_zero, List.getElem?_cons_succ, List.set_cons_zero, List.set_cons_succ, List.length_cons, List.length_nil, List.nodup_nil, List.nodup_cons, List.not_mem_nil, not_false_eq_true, and_self, Option.map, if_true, if_false, Bool.false_eq_true, Bool.not_true, Bool.not_false, Bool.and_true, Bool.true_and, Bool.false_and, Bool.and_false, finR, Sl.fin, wipeR, restR, List.getD_cons_zero, List.getD_cons_succ, decide_true, decide_false, Nat.reduceAdd, Nat.reduceLT, x0, e0, f1, f2]
  rfl
end VL

set_option Elab.async false
set_option linter.all false
set_option maxRecDepth 100000
set_option maxHeartbeats 4000000
/-! VM11: the sums at a place. -/
namespace VL
open PySem L2
theorem mbN_lt {cs : List Col} {rs : List (List PyData)} {p : Pn} {r c : List PyData} {k : Nat} (h : k ∈ mbN cs rs p r c) : k < rs.length := ctN_lt (List.mem_filter.mp h).1
theorem mbN_len {cs : List Col} {rs : List (List PyData)} {p : Pn} {r c : List PyData} : (mbN cs rs p r c).length ≤ rs.length := Nat.le_trans (List.length_filter_le _ _) (ctN_len cs rs p rs.length)
theorem vlL_mem {cs : List Col} {rs : List (List PyData)} (h : TabOk cs rs) {i : Nat} {c : Col} (hi : cs[i]? = some c) {ks : List Nat} (hk : ∀ k ∈ ks, k < rs.length) : ∀ d ∈ vlL rs i ks, ValOk c.num d ∧ d ≠ .none := fun d hd => by
  obtain ⟨h1, h2⟩ := List.mem_filter.mp hd
  obtain ⟨k, hk', rfl⟩ := List.mem_map.mp h1
  have lt := hk k hk'
  have hrk : rs[k]? = some rs[k] := List.getElem?_eq_getElem lt
  obtain ⟨d, hd', hv, _⟩ := row_at (h.rows _ (List.getElem_mem lt)) hi
  have y3 : (rs.getD k []).getD i .none = d := by
    rw [List.getD_eq_getElem?_getD (l := rs), hrk]
    show rs[k].getD i .none = d
    rw [List.getD_eq_getElem?_getD, hd']
    rfl
  rw [y3] at h2 ⊢
  exact ⟨hv, fun z => by subst z; simp [isNoneD] at h2⟩
theorem vlL_len {rs : List (List PyData)} {i : Nat} {ks : List Nat} : (vlL rs i ks).length ≤ ks.length := by
  have := List.length_filter_le (fun d => !isNoneD d) (ks.map fun k => (rs.getD k []).getD i .none)
  rwa [List.length_map] at this
/-- the numbers among data -/
def numsD (ds : List PyData) : List Int := ds.filterMap fun
  | .int i => some i
  | _ => none
theorem nums_of : ∀ {ds : List PyData}, (∀ d ∈ ds, ∃ i : Int, d = .int i ∧ -1000000 ≤ i ∧ i ≤ 1000000) → intsD ds = some (numsD ds) ∧ (numsD ds).length = ds.length ∧ -(1000000 * (ds.length : Int)) ≤ (numsD ds).sum ∧ (numsD ds).sum ≤ 1000000 * (ds.length : Int)
  | [], _ => by simp [intsD, numsD]
  | d :: ds, h => by
    obtain ⟨i, rfl, h1, h2⟩ := h d List.mem_cons_self
    obtain ⟨a, b, c1, c2⟩ := nums_of (ds := ds) fun x hx => h x (List.mem_cons_of_mem _ hx)
    have e : numsD (.int i :: ds) = i :: numsD ds := rfl
    rw [e]
    refine ⟨?_, by simp [b], ?_, ?_⟩
    · show (intsD ds).map (i :: ·) = _
      rw [a]
      rfl
    · simp only [List.sum_cons, List.length_cons]; omega
    · simp only [List.sum_cons, List.length_cons]; omega
theorem vl_nums {cs : List Col} {rs : List (List PyData)} (h : TabOk cs rs) {i : Nat} {c : Col} (hi : cs[i]? = some c) (hn : c.num = true) {ks : List Nat} (hk : ∀ k ∈ ks, k < rs.length) : ∀ d ∈ vlL rs i ks, ∃ j : Int, d = .int j ∧ -1000000 ≤ j ∧ j ≤ 1000000 := fun d hd => by
  obtain ⟨hv, h0⟩ := vlL_mem h hi hk d hd
  rcases hv with rfl | ⟨_, j, rfl, h1, h2⟩ | ⟨z, _⟩
  · exact absurd rfl h0
  · exact ⟨j, rfl, h1, h2⟩
  · rw [hn] at z; cases z
theorem leaves_vals : ∀ {ds : List PyData}, (∀ d ∈ ds, leafB d = true) → ∃ ls, leavesD ds = some ls ∧ ls.length = ds.length
  | [], _ => ⟨[], rfl, rfl⟩
  | d :: ds, h => by
    obtain ⟨ls, e, hl⟩ := leaves_vals (ds := ds) fun x hx => h x (List.mem_cons_of_mem _ hx)
    have h1 := h d List.mem_cons_self
    have : ∃ l, leafD d = some l := by cases d <;> simp [leafB] at h1 <;> exact ⟨_, rfl⟩
    obtain ⟨l, hd⟩ := this
    refine ⟨l :: ls, ?_, by simp [hl]⟩
    unfold leavesD
    rw [hd, e]
    rfl
theorem ValOk.leafB {num : Bool} {d : PyData} (h : ValOk num d) : VL.leafB d = true := by
  rcases h with rfl | ⟨_, i, rfl, _⟩ | ⟨_, z, rfl, _⟩ <;> rfl
noncomputable def os (cs : List Col) (rs : List (List PyData)) (p : Pn) (s : Sm) (r c : List PyData) : PyData := outD (M_one_sum [.val (tabD cs rs), .val (.list (ctL cs rs p)), .val (smD s), .val (.tuple r), .val (.tuple c)])
/-- what a sum may be: a number, or a fraction, or None -/
def SumOk (s : Sm) (d : PyData) : Prop := match s with
  | .count => ∃ i : Int, d = .int i ∧ -100000000 ≤ i ∧ i ≤ 100000000
  | .filled _ => ∃ i : Int, d = .int i ∧ -100000000 ≤ i ∧ i ≤ 100000000
  | .unlike _ => ∃ i : Int, d = .int i ∧ -100000000 ≤ i ∧ i ≤ 100000000
  | .op .sum _ => ∃ i : Int, d = .int i ∧ -100000000 ≤ i ∧ i ≤ 100000000
  | .op .least _ => d = .none ∨ ∃ i : Int, d = .int i ∧ -100000000 ≤ i ∧ i ≤ 100000000
  | .op .greatest _ => d = .none ∨ ∃ i : Int, d = .int i ∧ -100000000 ≤ i ∧ i ≤ 100000000
  | .op _ _ => ∃ t u : Int, d = frac t u ∧ -100000000 ≤ t ∧ t ≤ 100000000 ∧ -100000000 ≤ u ∧ u ≤ 100000000
theorem count_ok {cs : List Col} {rs : List (List PyData)} {p : Pn} (h : TabOk cs rs) (hp : PnOk cs p) {r c : List PyData} (hr : Leaves r) (hc : Leaves c) : M_one_sum [.val (tabD cs rs), .val (.list (ctL cs rs p)), .val (smD .count), .val (.tuple r), .val (.tuple c)] = .ok (.int ((mbN cs rs p r c).length : Nat)) [.un, .un, .un, .un, .un] := by
  have e1 := members_ok h hp hr hc
  have x0 : ixD (.tuple [.str "count"]) (.int 0) = some (.str "count") := rfl
  have l1 : lenD [.list ((mbN cs rs p r c).map fun k => .int ((k : Nat) : Int))] = some (.int ((mbN cs rs p r c).length : Nat)) := by rw [lenD_l, List.length_map]
  unfold M_one_sum mFn smD
  simp only [mSeq, mSet, mSetO, mSet2, mRet, mRetN, mDrop, mIfS, mIf, mB, mTru, mAnd, mOr, mNot, mAndV, mOrV, mNotV, mChain, mRaise, mNx, m1, m2, mN, mNL, mVar, mC, mNil, mCons, mLst, mTup, mDsp, mCall, mANil, mAv, mAr, mAb, hasR, hasB, toSl, VL.bs, back, mMut, heldR, setR, peekR, mLenP, mLenO, mRd, mItA, mIt, mAsg, gNm, gTp, gSeq, mYes, mSl, mPs, mPn, mKn, ok_bind, Oc.bind, Oc.opt, lenD_l, lenD_t, tupD, truD, isi_str_str, isi_str_tup, isi_str_int, isi_str_non, isi_str_lst, isi_tup_tup, isi_tup_lst, isi_tup_str, isi_tup_int, isi_tup_non, isi_lst_lst, isi_lst_tup, isi_int_int, isi_int_str, isi_int_non, isi_bool_int, isi_int_tup, isi_bool_tup, isi_bool_str, isi_bool_non, isi_lst_str, isi_lst_int, isi_lst_non, isD, isntD, isNoneD, addD_i, subD_i, seqD, appendD, List.replicate, List.append_nil, List.cons_append, List.nil_append, List.getElem?_cons_zero, List.getElem?_cons_succ, List.set_cons_zero, List.set_cons_succ, List.length_cons, List.length_nil, List.nodup_nil, List.nodup_cons, List.not_mem_nil, not_false_eq_true, and_self, Option.map, if_true, if_false, Bool.false_eq_true, Bool.not_true, Bool.not_false, Bool.and_true, Bool.true_and, Bool.false_and, Bool.and_false, finR, Sl.fin, wipeR, restR, List.getD_cons_zero, List.getD_cons_succ, decide_true, decide_false, Nat.reduceAdd, Nat.reduceLT, e1, x0, eqD_s, l1]
  rfl
theorem filled_ok {cs : List Col} {rs : List (List PyData)} {p : Pn} (h : TabOk cs rs) (hp : PnOk cs p) {r c : List PyData} (hr : Leaves r) (hc : Leaves c) {i : Nat} {co : Col} (hi : cs[i]? = some co) : M_one_sum [.val (tabD cs rs), .val (.list (ctL cs rs p)), .val (smD (.filled co.n)), .val (.tuple r), .val (.tuple c)] = .ok (.int ((vlL rs i (mbN cs rs p r c)).length : Nat)) [.un, .un, .un, .un, .un] := by
  have e1 := members_ok h hp hr hc
  have hf := h.few
  have e2 := values_ok h hi (ks := mbN cs rs p r c) (fun k hk => mbN_lt hk) (Nat.le_trans mbN_len (by omega))
  have x0 : ixD (.tuple [.str "filled", .str co.n]) (.int 0) = some (.str "filled") := rfl
  have x1 : ixD (.tuple [.str "filled", .str co.n]) (.int 1) = some (.str co.n) := rfl
  have q1 : decide (Str.ofString "filled" = Str.ofString "count") = false := by decide +kernel
  unfold M_one_sum mFn smD
  simp only [mSeq, mSet, mSetO, mSet2, mRet, mRetN, mDrop, mIfS, mIf, mB, mTru, mAnd, mOr, mNot, mAndV, mOrV, mNotV, mChain, mRaise, mNx, m1, m2, mN, mNL, mVar, mC, mNil, mCons, mLst, mTup, mDsp, mCall, mANil, mAv, mAr, mAb, hasR, hasB, toSl, VL.bs, back, mMut, heldR, setR, peekR, mLenP, mLenO, mRd, mItA, mIt, mAsg, gNm, gTp, gSeq, mYes, mSl, mPs, mPn, mKn, ok_bind, Oc.bind, Oc.opt, lenD_l, lenD_t, tupD, truD, isi_str_str, isi_str_tup, isi_str_int, isi_str_non, isi_str_lst, isi_tup_tup, isi_tup_lst, isi_tup_str, isi_tup_int, isi_tup_non, isi_lst_lst, isi_lst_tup, isi_int_int, isi_int_str, isi_int_non, isi_bool_int, isi_int_tup, isi_bool_tup, isi_bool_str, isi_bool_non, isi_lst_str, isi_lst_int, isi_lst_non, isD, isntD, isNoneD, addD_i, subD_i, seqD, appendD, List.replicate, List.append_nil, List.cons_append, List.nil_append, List.getElem?_cons_zero, List.getElem?_cons_succ, List.set_cons_zero, List.set_cons_succ, List.length_cons, List.length_nil, List.nodup_nil, List.nodup_cons, List.not_mem_nil, not_false_eq_true, and_self, Option.map, if_true, if_false, Bool.false_eq_true, Bool.not_true, Bool.not_false, Bool.and_true, Bool.true_and, Bool.false_and, Bool.and_false, finR, Sl.fin, wipeR, restR, List.getD_cons_zero, List.getD_cons_succ, decide_true, decide_false, Nat.reduceAdd, Nat.reduceLT, e1, e2, x0, x1, eqD_s, q1]
  rfl
/-- how many unlike ones -/
def lfs (ds : List PyData) : List Leaf := (leavesD ds).getD []
def unlN (ds : List PyData) : Nat := (metK (lfs ds)).length
theorem unlike_ok {cs : List Col} {rs : List (List PyData)} {p : Pn} (h : TabOk cs rs) (hp : PnOk cs p) {r c : List PyData} (hr : Leaves r) (hc : Leaves c) {i : Nat} {co : Col} (hi : cs[i]? = some co) : ∃ k : Nat, k = unlN (vlL rs i (mbN cs rs p r c)) ∧ k ≤ 24 ∧ M_one_sum [.val (tabD cs rs), .val (.list (ctL cs rs p)), .val (smD (.unlike co.n)), .val (.tuple r), .val (.tuple c)] = .ok (.int (k : Int)) [.un, .un, .un, .un, .un] := by
  have e1 := members_ok h hp hr hc
  have hf := h.few
  have hl := vlL_len (rs := rs) (i := i) (ks := mbN cs rs p r c)
  have hm := mbN_len (cs := cs) (rs := rs) (p := p) (r := r) (c := c)
  have e2 := values_ok h hi (ks := mbN cs rs p r c) (fun k hk => mbN_lt hk) (Nat.le_trans mbN_len (by omega))
  obtain ⟨ls, e3, hls⟩ := leaves_vals (ds := vlL rs i (mbN cs rs p r c)) fun d hd => (vlL_mem h hi (fun k hk => mbN_lt hk) d hd).1.leafB
  have hk := metK_len ls
  have e4 : lenSetD (.list (vlL rs i (mbN cs rs p r c))) = some (.int ((metK ls).length : Nat)) := by
    show (match leavesD (vlL rs i (mbN cs rs p r c)) with | none => none | some ls => _) = _
    rw [e3]
    show (if decide ((vlL rs i (mbN cs rs p r c)).length ≤ 4000) = true then _ else _) = _
    rw [if_pos (decide_eq_true (by omega))]
  have x0 : ixD (.tuple [.str "unlike", .str co.n]) (.int 0) = some (.str "unlike") := rfl
  have x1 : ixD (.tuple [.str "unlike", .str co.n]) (.int 1) = some (.str co.n) := rfl
  have q1 : decide (Str.ofString "unlike" = Str.ofString "count") = false := by decide +kernel
  have q2 : decide (Str.ofString "unlike" = Str.ofString "filled") = false := by decide +kernel
  refine ⟨(metK ls).length, by unfold unlN lfs; rw [e3]; rfl, by omega, ?_⟩
  unfold M_one_sum mFn smD
  simp only [mSeq, mSet, mSetO, mSet2, mRet, mRetN, mDrop, mIfS, mIf, mB, mTru, mAnd, mOr, mNot, mAndV, mOrV, mNotV, mChain, mRaise, mNx, m1, m2, mN, mNL, mVar, mC, mNil, mCons, mLst, mTup, mDsp, mCall, mANil, mAv, mAr, mAb, hasR, hasB, toSl, VL.bs, back, mMut, heldR, setR, peekR, mLenP, mLenO, mRd, mItA, mIt, mAsg, gNm, gTp, gSeq, mYes, mSl, mPs, mPn, mKn, ok_bind, Oc.bind, Oc.opt, lenD_l, lenD_t, tupD, truD, isi_str_str, isi_str_tup, isi_str_int, isi_str_non, isi_str_lst, isi_tup_tup, isi_tup_lst, isi_tup_str, isi_tup_int, isi_tup_non, isi_lst_lst, isi_lst_tup, isi_int_int, isi_int_str, isi_int_non, isi_bool_int, isi_int_tup, isi_bool_tup, isi_bool_str, isi_bool_non, isi_lst_str, isi_lst_int, isi_lst_non, isD, isntD, isNoneD, addD_i, subD_i, seqD, appendD, List.replicate, List.append_nil, List.cons_append, List.nil_append, List.getElem?_cons_zero, List.getElem?_cons_succ, List.set_cons_zero, List.set_cons_succ, List.length_cons, List.length_nil, List.nodup_nil, List.nodup_cons, List.not_mem_nil, not_false_eq_true, and_self, Option.map, if_true, if_false, Bool.false_eq_true, Bool.not_true, Bool.not_false, Bool.and_true, Bool.true_and, Bool.false_and, Bool.and_false, finR, Sl.fin, wipeR, restR, List.getD_cons_zero, List.getD_cons_succ, decide_true, decide_false, Nat.reduceAdd, Nat.reduceLT, e1, e2, x0, x1, eqD_s, q1, q2, e4]
  rfl
def Op.kind : Op → Nat
  | .sum => 0 | .mean => 1 | .least => 2 | .greatest => 2
  | _ => 3
theorem op_d (o : Op) : decide (opW o = Str.ofString "filled") = false := by cases o <;> decide +kernel
theorem op_e (o : Op) : decide (opW o = Str.ofString "unlike") = false := by cases o <;> decide +kernel
theorem look_all (d1 d2 d3 : PyData) : look3 (opW .all) "of all" "of row" "of column" d1 d2 d3 = some d1 := by
  unfold look3
  rw [if_neg (by decide +kernel), if_neg (by decide +kernel), if_pos (by decide +kernel)]
theorem look_row (d1 d2 d3 : PyData) : look3 (opW .row) "of all" "of row" "of column" d1 d2 d3 = some d2 := by
  unfold look3
  rw [if_neg (by decide +kernel), if_pos (by decide +kernel)]
theorem look_column (d1 d2 d3 : PyData) : look3 (opW .column) "of all" "of row" "of column" d1 d2 d3 = some d3 := by
  unfold look3
  rw [if_pos (by decide +kernel)]
def leastV : List Int → PyData
  | [] => .none
  | n :: ns => .int (minI n ns)
def greatV : List Int → PyData
  | [] => .none
  | n :: ns => .int (maxI n ns)
/-- what a sum of numbers is -/
noncomputable def opV (rs : List (List PyData)) (i : Nat) (M : List PyData → List PyData → List Nat) (o : Op) (r c : List PyData) : PyData := match o with
  | .sum => .int (numsD (vlL rs i (M r c))).sum
  | .mean => frac (numsD (vlL rs i (M r c))).sum ((vlL rs i (M r c)).length : Nat)
  | .least => leastV (numsD (vlL rs i (M r c)))
  | .greatest => greatV (numsD (vlL rs i (M r c)))
  | .all => frac (numsD (vlL rs i (M r c))).sum (numsD (vlL rs i (M [] []))).sum
  | .row => frac (numsD (vlL rs i (M r c))).sum (numsD (vlL rs i (M r []))).sum
  | .column => frac (numsD (vlL rs i (M r c))).sum (numsD (vlL rs i (M [] c))).sum
theorem sum_op_ok {cs : List Col} {rs : List (List PyData)} {p : Pn} (h : TabOk cs rs) (hp : PnOk cs p) {r c : List PyData} (hr : Leaves r) (hc : Leaves c) {i : Nat} {co : Col} (hi : cs[i]? = some co) (hn : co.num = true) (o : Op) : ∃ d, d = opV rs i (mbN cs rs p) o r c ∧ SumOk (.op o co.n) d ∧ M_one_sum [.val (tabD cs rs), .val (.list (ctL cs rs p)), .val (smD (.op o co.n)), .val (.tuple r), .val (.tuple c)] = .ok d [.un, .un, .un, .un, .un] := by
  have hf := h.few
  have e1 := fun (r c : List PyData) (hr : Leaves r) (hc : Leaves c) => members_ok h hp hr hc
  have hl := fun r c => vlL_len (rs := rs) (i := i) (ks := mbN cs rs p r c)
  have hm := fun r c => mbN_len (cs := cs) (rs := rs) (p := p) (r := r) (c := c)
  have e2 := fun r c => values_ok h hi (ks := mbN cs rs p r c) (fun k hk => mbN_lt hk) (Nat.le_trans mbN_len (by omega))
  have e3 := fun r c => nums_of (vl_nums h hi hn (ks := mbN cs rs p r c) (fun k hk => mbN_lt hk))
  have x0 : ∀ w, ixD (.tuple [.str w, .str co.n]) (.int 0) = some (.str w) := fun _ => rfl
  have x1 : ∀ w, ixD (.tuple [.str w, .str co.n]) (.int 1) = some (.str co.n) := fun _ => rfl
  have l0 : Leaves [] := fun _ h => absurd h List.not_mem_nil
  have E1 := e1 r c hr hc
  have E2 := e2 r c
  obtain ⟨E3, E4, E5, E6⟩ := e3 r c
  have H1 := hl r c
  have H2 := hm r c
  have sE : sumD [.list (vlL rs i (mbN cs rs p r c))] = some (.int (numsD (vlL rs i (mbN cs rs p r c))).sum) := by
    show (intsD _).map _ = _
    rw [E3]
    rfl
  have q1 := op_c o
  have q2 := op_d o
  have q3 := op_e o
  have f0 : fits 0 = true := rfl
  have f2 : fits 2 = true := rfl
  cases o with
  | sum =>
    refine ⟨.int (numsD (vlL rs i (mbN cs rs p r c))).sum, rfl, ⟨_, rfl, by omega, by omega⟩, ?_⟩
    have q4 : decide (opW .sum = Str.ofString "sum") = true := by decide +kernel
    unfold M_one_sum mFn smD
    simp only [mSeq, mSet, mSetO, mSet2, mRet, mRetN, mDrop, mIfS, mIf, mB, mTru, mAnd, mOr, mNot, mAndV, mOrV, mNotV, mChain, mRaise, mNx, m1, m2, mN, mNL, mVar, mC, mNil, mCons, mLst, mTup, mDsp, mCall, mANil, mAv, mAr, mAb, hasR, hasB, toSl, VL.bs, back, mMut, heldR, setR, peekR, mLenP, mLenO, mRd, mItA, mIt, mAsg, gNm, gTp, gSeq, mYes, mSl, mPs, mPn, mKn, ok_bind, Oc.bind, Oc.opt, lenD_l, lenD_t, tupD, truD, isi_str_str, isi_str_tup, isi_str_int, isi_str_non, isi_str_lst, isi_tup_tup, isi_tup_lst, isi_tup_str, isi_tup_int, isi_tup_non, isi_lst_lst, isi_lst_tup, isi_int_int, isi_int_str, isi_int_non, isi_bool_int, isi_int_tup, isi_bool_tup, isi_bool_str, isi_bool_non, isi_lst_str, isi_lst_int, isi_lst_non, isD, isntD, isNoneD, addD_i, subD_i, seqD, appendD, List.replicate, List.append_nil, List.cons_append, List.nil_append, List.getElem?_cons_zero, List.getElem?_cons_succ, List.set_cons_zero, List.set_cons_succ, List.length_cons, List.length_nil, List.nodup_nil, List.nodup_cons, List.not_mem_nil, not_false_eq_true, and_self, Option.map, if_true, if_false, Bool.false_eq_true, Bool.not_true, Bool.not_false, Bool.and_true, Bool.true_and, Bool.false_and, Bool.and_false, finR, Sl.fin, wipeR, restR, List.getD_cons_zero, List.getD_cons_succ, decide_true, decide_false, Nat.reduceAdd, Nat.reduceLT, E1, E2, x0, x1, eqD_s, q1, q2, q3, q4, sE]
    rfl
  | mean =>
    refine ⟨frac (numsD (vlL rs i (mbN cs rs p r c))).sum ((vlL rs i (mbN cs rs p r c)).length : Nat), rfl, ⟨_, _, rfl, by omega, by omega, by omega, by omega⟩, ?_⟩
    have q4 : decide (opW .mean = Str.ofString "sum") = false := by decide +kernel
    have q5 : decide (opW .mean = Str.ofString "mean") = true := by decide +kernel
    have e5 := least_ok (numsD (vlL rs i (mbN cs rs p r c))).sum (u := ((vlL rs i (mbN cs rs p r c)).length : Nat)) (by omega) (by omega)
    unfold M_one_sum mFn smD
    simp only [mSeq, mSet, mSetO, mSet2, mRet, mRetN, mDrop, mIfS, mIf, mB, mTru, mAnd, mOr, mNot, mAndV, mOrV, mNotV, mChain, mRaise, mNx, m1, m2, mN, mNL, mVar, mC, mNil, mCons, mLst, mTup, mDsp, mCall, mANil, mAv, mAr, mAb, hasR, hasB, toSl, VL.bs, back, mMut, heldR, setR, peekR, mLenP, mLenO, mRd, mItA, mIt, mAsg, gNm, gTp, gSeq, mYes, mSl, mPs, mPn, mKn, ok_bind, Oc.bind, Oc.opt, lenD_l, lenD_t, tupD, truD, isi_str_str, isi_str_tup, isi_str_int, isi_str_non, isi_str_lst, isi_tup_tup, isi_tup_lst, isi_tup_str, isi_tup_int, isi_tup_non, isi_lst_lst, isi_lst_tup, isi_int_int, isi_int_str, isi_int_non, isi_bool_int, isi_int_tup, isi_bool_tup, isi_bool_str, isi_bool_non, isi_lst_str, isi_lst_int, isi_lst_non, isD, isntD, isNoneD, addD_i, subD_i, seqD, appendD, List.replicate, List.append_nil, List.cons_append, List.nil_append, List.getElem?_cons_zero, List.getElem?_cons_succ, List.set_cons_zero, List.set_cons_succ, List.length_cons, List.length_nil, List.nodup_nil, List.nodup_cons, List.not_mem_nil, not_false_eq_true, and_self, Option.map, if_true, if_false, Bool.false_eq_true, Bool.not_true, Bool.not_false, Bool.and_true, Bool.true_and, Bool.false_and, Bool.and_false, finR, Sl.fin, wipeR, restR, List.getD_cons_zero, List.getD_cons_succ, decide_true, decide_false, Nat.reduceAdd, Nat.reduceLT, E1, E2, x0, x1, eqD_s, q1, q2, q3, q4, q5, sE, e5]
    rfl
  | least =>
    have q4 : decide (opW .least = Str.ofString "sum") = false := by decide +kernel
    have q5 : decide (opW .least = Str.ofString "mean") = false := by decide +kernel
    have q6 : inD id (.str (opW .least)) (.tuple [.str "least", .str "greatest"]) = some (.bool true) := by kernel_rfl
    have q7 : decide (opW .least = Str.ofString "least") = true := by decide +kernel
    cases hv : numsD (vlL rs i (mbN cs rs p r c)) with
    | nil =>
      have hz : vlL rs i (mbN cs rs p r c) = [] := List.length_eq_zero_iff.mp (by rw [← E4, hv]; rfl)
      refine ⟨.none, by unfold opV; rw [hv]; rfl, .inl rfl, ?_⟩
      rw [hz] at E2
      unfold M_one_sum mFn smD
      simp only [mSeq, mSet, mSetO, mSet2, mRet, mRetN, mDrop, mIfS, mIf, mB, mTru, mAnd, mOr, mNot, mAndV, mOrV, mNotV, mChain, mRaise, mNx, m1, m2, mN, mNL, mVar, mC, mNil, mCons, mLst, mTup, mDsp, mCall, mANil, mAv, mAr, mAb, hasR, hasB, toSl, VL.bs, back, mMut, heldR, setR, peekR, mLenP, mLenO, mRd, mItA, mIt, mAsg, gNm, gTp, gSeq, mYes, mSl, mPs, mPn, mKn, ok_bind, Oc.bind, Oc.opt, lenD_l, lenD_t, tupD, truD, isi_str_str, isi_str_tup, isi_str_int, isi_str_non, isi_str_lst, isi_tup_tup, isi_tup_lst, isi_tup_str, isi_tup_int, isi_tup_non, isi_lst_lst, isi_lst_tup, isi_int_int, isi_int_str, isi_int_non, isi_bool_int, isi_int_tup, isi_bool_tup, isi_bool_str, isi_bool_non, isi_lst_str, isi_lst_int, isi_lst_non, isD, isntD, isNoneD, addD_i, subD_i, seqD, appendD, List.replicate, List.append_nil, List.cons_append, List.nil_append, List.getElem?_cons_zero, List.getElem?_cons_succ, List.set_cons_zero, List.set_cons_succ, List.length_cons, List.length_nil, List.nodup_nil, List.nodup_cons, List.not_mem_nil, not_false_eq_true, and_self, Option.map, if_true, if_false, Bool.false_eq_true, Bool.not_true, Bool.not_false, Bool.and_true, Bool.true_and, Bool.false_and, Bool.and_false, finR, Sl.fin, wipeR, restR, List.getD_cons_zero, List.getD_cons_succ, decide_true, decide_false, Nat.reduceAdd, Nat.reduceLT, E1, E2, x0, x1, eqD_s, q1, q2, q3, q4, q5, q6, f2, List.isEmpty_nil]
      rfl
    | cons n ms =>
      have hne : (vlL rs i (mbN cs rs p r c)).isEmpty = false := by
        cases hq : vlL rs i (mbN cs rs p r c) with
        | nil => rw [hq] at hv; cases hv
        | cons _ _ => rfl
      have mE : minD [.list (vlL rs i (mbN cs rs p r c))] = some (.int (minI n ms)) := by
        show (match intsD (vlL rs i (mbN cs rs p r c)) with | some (n :: ns) => some (PyData.int (minI n ns)) | _ => none) = _
        rw [E3, hv]
      have hb : minI n ms ∈ numsD (vlL rs i (mbN cs rs p r c)) := by rw [hv]; exact (minI_spec ms n).1
      obtain ⟨d, hd, he⟩ := List.mem_filterMap.mp hb
      obtain ⟨j, rfl, hj1, hj2⟩ := vl_nums h hi hn (ks := mbN cs rs p r c) (fun k hk => mbN_lt hk) d hd
      have he' : j = minI n ms := by simpa using he
      refine ⟨.int (minI n ms), by unfold opV; rw [hv]; rfl, .inr ⟨_, rfl, by omega, by omega⟩, ?_⟩
      unfold M_one_sum mFn smD
      simp only [mSeq, mSet, mSetO, mSet2, mRet, mRetN, mDrop, mIfS, mIf, mB, mTru, mAnd, mOr, mNot, mAndV, mOrV, mNotV, mChain, mRaise, mNx, m1, m2, mN, mNL, mVar, mC, mNil, mCons, mLst, mTup, mDsp, mCall, mANil, mAv, mAr, mAb, hasR, hasB, toSl, VL.bs, back, mMut, heldR, setR, peekR, mLenP, mLenO, mRd, mItA, mIt, mAsg, gNm, gTp, gSeq, mYes, mSl, mPs, mPn, mKn, ok_bind, Oc.bind, Oc.opt, lenD_l, lenD_t, tupD, truD, isi_str_str, isi_str_tup, isi_str_int, isi_str_non, isi_str_lst, isi_tup_tup, isi_tup_lst, isi_tup_str, isi_tup_int, isi_tup_non, isi_lst_lst, isi_lst_tup, isi_int_int, isi_int_str, isi_int_non, isi_bool_int, isi_int_tup, isi_bool_tup, isi_bool_str, isi_bool_non, isi_lst_str, isi_lst_int, isi_lst_non, isD, isntD, isNoneD, addD_i, subD_i, seqD, appendD, List.replicate, List.append_nil, List.cons_append, List.nil_append, List.getElem?_cons_zero, List.getElem?_cons_succ, List.set_cons_zero, List.set_cons_succ, List.length_cons, List.length_nil, List.nodup_nil, List.nodup_cons, List.not_mem_nil, not_false_eq_true, and_self, Option.map, if_true, if_false, Bool.false_eq_true, Bool.not_true, Bool.not_false, Bool.and_true, Bool.true_and, Bool.false_and, Bool.and_false, finR, Sl.fin, wipeR, restR, List.getD_cons_zero, List.getD_cons_succ, decide_true, decide_false, Nat.reduceAdd, Nat.reduceLT, E1, E2, x0, x1, eqD_s, q1, q2, q3, q4, q5, q6, q7, f2, hne, mE]
      rfl
  | greatest =>
    have q4 : decide (opW .greatest = Str.ofString "sum") = false := by decide +kernel
    have q5 : decide (opW .greatest = Str.ofString "mean") = false := by decide +kernel
    have q6 : inD id (.str (opW .greatest)) (.tuple [.str "least", .str "greatest"]) = some (.bool true) := by kernel_rfl
    have q7 : decide (opW .greatest = Str.ofString "least") = false := by decide +kernel
    cases hv : numsD (vlL rs i (mbN cs rs p r c)) with
    | nil =>
      have hz : vlL rs i (mbN cs rs p r c) = [] := List.length_eq_zero_iff.mp (by rw [← E4, hv]; rfl)
      refine ⟨.none, by unfold opV; rw [hv]; rfl, .inl rfl, ?_⟩
      rw [hz] at E2
      unfold M_one_sum mFn smD
      simp only [mSeq, mSet, mSetO, mSet2, mRet, mRetN, mDrop, mIfS, mIf, mB, mTru, mAnd, mOr, mNot, mAndV, mOrV, mNotV, mChain, mRaise, mNx, m1, m2, mN, mNL, mVar, mC, mNil, mCons, mLst, mTup, mDsp, mCall, mANil, mAv, mAr, mAb, hasR, hasB, toSl, VL.bs, back, mMut, heldR, setR, peekR, mLenP, mLenO, mRd, mItA, mIt, mAsg, gNm, gTp, gSeq, mYes, mSl, mPs, mPn, mKn, ok_bind, Oc.bind, Oc.opt, lenD_l, lenD_t, tupD, truD, isi_str_str, isi_str_tup, isi_str_int, isi_str_non, isi_str_lst, isi_tup_tup, isi_tup_lst, isi_tup_str, isi_tup_int, isi_tup_non, isi_lst_lst, isi_lst_tup, isi_int_int, isi_int_str, isi_int_non, isi_bool_int, isi_int_tup, isi_bool_tup, isi_bool_str, isi_bool_non, isi_lst_str, isi_lst_int, isi_lst_non, isD, isntD, isNoneD, addD_i, subD_i, seqD, appendD, List.replicate, List.append_nil, List.cons_append, List.nil_append, List.getElem?_cons_zero, List.getElem?_cons_succ, List.set_cons_zero, List.set_cons_succ, List.length_cons, List.length_nil, List.nodup_nil, List.nodup_cons, List.not_mem_nil, not_false_eq_true, and_self, Option.map, if_true, if_false, Bool.false_eq_true, Bool.not_true, Bool.not_false, Bool.and_true, Bool.true_and, Bool.false_and, Bool.and_false, finR, Sl.fin, wipeR, restR, List.getD_cons_zero, List.getD_cons_succ, decide_true, decide_false, Nat.reduceAdd, Nat.reduceLT, E1, E2, x0, x1, eqD_s, q1, q2, q3, q4, q5, q6, f2, List.isEmpty_nil]
      rfl
    | cons n ms =>
      have hne : (vlL rs i (mbN cs rs p r c)).isEmpty = false := by
        cases hq : vlL rs i (mbN cs rs p r c) with
        | nil => rw [hq] at hv; cases hv
        | cons _ _ => rfl
      have mE : maxD [.list (vlL rs i (mbN cs rs p r c))] = some (.int (maxI n ms)) := by
        show (match intsD (vlL rs i (mbN cs rs p r c)) with | some (n :: ns) => some (PyData.int (maxI n ns)) | _ => none) = _
        rw [E3, hv]
      have hb : maxI n ms ∈ numsD (vlL rs i (mbN cs rs p r c)) := by rw [hv]; exact (maxI_spec ms n).1
      obtain ⟨d, hd, he⟩ := List.mem_filterMap.mp hb
      obtain ⟨j, rfl, hj1, hj2⟩ := vl_nums h hi hn (ks := mbN cs rs p r c) (fun k hk => mbN_lt hk) d hd
      have he' : j = maxI n ms := by simpa using he
      refine ⟨.int (maxI n ms), by unfold opV; rw [hv]; rfl, .inr ⟨_, rfl, by omega, by omega⟩, ?_⟩
      unfold M_one_sum mFn smD
      simp only [mSeq, mSet, mSetO, mSet2, mRet, mRetN, mDrop, mIfS, mIf, mB, mTru, mAnd, mOr, mNot, mAndV, mOrV, mNotV, mChain, mRaise, mNx, m1, m2, mN, mNL, mVar, mC, mNil, mCons, mLst, mTup, mDsp, mCall, mANil, mAv, mAr, mAb, hasR, hasB, toSl, VL.bs, back, mMut, heldR, setR, peekR, mLenP, mLenO, mRd, mItA, mIt, mAsg, gNm, gTp, gSeq, mYes, mSl, mPs, mPn, mKn, ok_bind, Oc.bind, Oc.opt, lenD_l, lenD_t, tupD, truD, isi_str_str, isi_str_tup, isi_str_int, isi_str_non, isi_str_lst, isi_tup_tup, isi_tup_lst, isi_tup_str, isi_tup_int, isi_tup_non, isi_lst_lst, isi_lst_tup, isi_int_int, isi_int_str, isi_int_non, isi_bool_int, isi_int_tup, isi_bool_tup, isi_bool_str, isi_bool_non, isi_lst_str, isi_lst_int, isi_lst_non, isD, isntD, isNoneD, addD_i, subD_i, seqD, appendD, List.replicate, List.append_nil, List.cons_append, List.nil_append, List.getElem?_cons_zero, List.getElem?_cons_succ, List.set_cons_zero, List.set_cons_succ, List.length_cons, List.length_nil, List.nodup_nil, List.nodup_cons, List.not_mem_nil, not_false_eq_true, and_self, Option.map, if_true, if_false, Bool.false_eq_true, Bool.not_true, Bool.not_false, Bool.and_true, Bool.true_and, Bool.false_and, Bool.and_false, finR, Sl.fin, wipeR, restR, List.getD_cons_zero, List.getD_cons_succ, decide_true, decide_false, Nat.reduceAdd, Nat.reduceLT, E1, E2, x0, x1, eqD_s, q1, q2, q3, q4, q5, q6, q7, f2, hne, mE]
      rfl
  | all =>
    have q4 : decide (opW .all = Str.ofString "sum") = false := by decide +kernel
    have q5 : decide (opW .all = Str.ofString "mean") = false := by decide +kernel
    have q6 : inD id (.str (opW .all)) (.tuple [.str "least", .str "greatest"]) = some (.bool false) := by kernel_rfl
    have F1 := e1 [] [] l0 l0
    have F2 := e2 [] []
    obtain ⟨F3, F4, F5, F6⟩ := e3 [] []
    have G1 := hl [] []
    have G2 := hm [] []
    have sF : sumD [.list (vlL rs i (mbN cs rs p [] []))] = some (.int (numsD (vlL rs i (mbN cs rs p [] []))).sum) := by
      show (intsD _).map _ = _
      rw [F3]
      rfl
    have e5 := least_ok (numsD (vlL rs i (mbN cs rs p r c))).sum (u := (numsD (vlL rs i (mbN cs rs p [] []))).sum) (by omega) (by omega)
    have lk := look_all (.tuple [.tuple [], .tuple []]) (.tuple [.tuple r, .tuple []]) (.tuple [.tuple [], .tuple c])
    have y0 : ixD (.tuple [.tuple [], .tuple []]) (.int 0) = some (.tuple []) := rfl
    have y1 : ixD (.tuple [.tuple [], .tuple []]) (.int 1) = some (.tuple []) := rfl
    refine ⟨frac (numsD (vlL rs i (mbN cs rs p r c))).sum (numsD (vlL rs i (mbN cs rs p [] []))).sum, rfl, ⟨_, _, rfl, by omega, by omega, by omega, by omega⟩, ?_⟩
    unfold M_one_sum mFn smD
    simp only [mSeq, mSet, mSetO, mSet2, mRet, mRetN, mDrop, mIfS, mIf, mB, mTru, mAnd, mOr, mNot, mAndV, mOrV, mNotV, mChain, mRaise, mNx, m1, m2, mN, mNL, mVar, mC, mNil, mCons, mLst, mTup, mDsp, mCall, mANil, mAv, mAr, mAb, hasR, hasB, toSl, VL.bs, back, mMut, heldR, setR, peekR, mLenP, mLenO, mRd, mItA, mIt, mAsg, gNm, gTp, gSeq, mYes, mSl, mPs, mPn, mKn, ok_bind, Oc.bind, Oc.opt, lenD_l, lenD_t, tupD, truD, isi_str_str, isi_str_tup, isi_str_int, isi_str_non, isi_str_lst, isi_tup_tup, isi_tup_lst, isi_tup_str, isi_tup_int, isi_tup_non, isi_lst_lst, isi_lst_tup, isi_int_int, isi_int_str, isi_int_non, isi_bool_int, isi_int_tup, isi_bool_tup, isi_bool_str, isi_bool_non, isi_lst_str, isi_lst_int, isi_lst_non, isD, isntD, isNoneD, addD_i, subD_i, seqD, appendD, List.replicate, List.append_nil, List.cons_append, List.nil_append, List.getElem?_cons_zero, List.getElem?_cons_succ, List.set_cons_zero, List.set_cons_succ, List.length_cons, List.length_nil, List.nodup_nil, List.nodup_cons, List.not_mem_nil, not_false_eq_true, and_self, Option.map, if_true, if_false, Bool.false_eq_true, Bool.not_true, Bool.not_false, Bool.and_true, Bool.true_and, Bool.false_and, Bool.and_false, finR, Sl.fin, wipeR, restR, List.getD_cons_zero, List.getD_cons_succ, decide_true, decide_false, Nat.reduceAdd, Nat.reduceLT, mPick3, Oc.noex, E1, E2, x0, x1, eqD_s, q1, q2, q3, q4, q5, q6, f0, f2, lk, sE, y0, y1, F1, F2, sF, e5]
    rfl
  | row =>
    have q4 : decide (opW .row = Str.ofString "sum") = false := by decide +kernel
    have q5 : decide (opW .row = Str.ofString "mean") = false := by decide +kernel
    have q6 : inD id (.str (opW .row)) (.tuple [.str "least", .str "greatest"]) = some (.bool false) := by kernel_rfl
    have F1 := e1 r [] hr l0
    have F2 := e2 r []
    obtain ⟨F3, F4, F5, F6⟩ := e3 r []
    have G1 := hl r []
    have G2 := hm r []
    have sF : sumD [.list (vlL rs i (mbN cs rs p r []))] = some (.int (numsD (vlL rs i (mbN cs rs p r []))).sum) := by
      show (intsD _).map _ = _
      rw [F3]
      rfl
    have e5 := least_ok (numsD (vlL rs i (mbN cs rs p r c))).sum (u := (numsD (vlL rs i (mbN cs rs p r []))).sum) (by omega) (by omega)
    have lk := look_row (.tuple [.tuple [], .tuple []]) (.tuple [.tuple r, .tuple []]) (.tuple [.tuple [], .tuple c])
    have y0 : ixD (.tuple [.tuple r, .tuple []]) (.int 0) = some (.tuple r) := rfl
    have y1 : ixD (.tuple [.tuple r, .tuple []]) (.int 1) = some (.tuple []) := rfl
    refine ⟨frac (numsD (vlL rs i (mbN cs rs p r c))).sum (numsD (vlL rs i (mbN cs rs p r []))).sum, rfl, ⟨_, _, rfl, by omega, by omega, by omega, by omega⟩, ?_⟩
    unfold M_one_sum mFn smD
    simp only [mSeq, mSet, mSetO, mSet2, mRet, mRetN, mDrop, mIfS, mIf, mB, mTru, mAnd, mOr, mNot, mAndV, mOrV, mNotV, mChain, mRaise, mNx, m1, m2, mN, mNL, mVar, mC, mNil, mCons, mLst, mTup, mDsp, mCall, mANil, mAv, mAr, mAb, hasR, hasB, toSl, VL.bs, back, mMut, heldR, setR, peekR, mLenP, mLenO, mRd, mItA, mIt, mAsg, gNm, gTp, gSeq, mYes, mSl, mPs, mPn, mKn, ok_bind, Oc.bind, Oc.opt, lenD_l, lenD_t, tupD, truD, isi_str_str, isi_str_tup, isi_str_int, isi_str_non, isi_str_lst, isi_tup_tup, isi_tup_lst, isi_tup_str, isi_tup_int, isi_tup_non, isi_lst_lst, isi_lst_tup, isi_int_int, isi_int_str, isi_int_non, isi_bool_int, isi_int_tup, isi_bool_tup, isi_bool_str, isi_bool_non, isi_lst_str, isi_lst_int, isi_lst_non, isD, isntD, isNoneD, addD_i, subD_i, seqD, appendD, List.replicate, List.append_nil, List.cons_append, List.nil_append, List.getElem?_cons_zero, List.getElem?_cons_succ, List.set_cons_zero, List.set_cons_succ, List.length_cons, List.length_nil, List.nodup_nil, List.nodup_cons, List.not_mem_nil, not_false_eq_true, and_self, Option.map, if_true, if_false, Bool.false_eq_true, Bool.not_true, Bool.not_false, Bool.and_true, Bool.true_and, Bool.false_and, Bool.and_false, finR, Sl.fin, wipeR, restR, List.getD_cons_zero, List.getD_cons_succ, decide_true, decide_false, Nat.reduceAdd, Nat.reduceLT, mPick3, Oc.noex, E1, E2, x0, x1, eqD_s, q1, q2, q3, q4, q5, q6, f0, f2, lk, sE, y0, y1, F1, F2, sF, e5]
    rfl
  | column =>
    have q4 : decide (opW .column = Str.ofString "sum") = false := by decide +kernel
    have q5 : decide (opW .column = Str.ofString "mean") = false := by decide +kernel
    have q6 : inD id (.str (opW .column)) (.tuple [.str "least", .str "greatest"]) = some (.bool false) := by kernel_rfl
    have F1 := e1 [] c l0 hc
    have F2 := e2 [] c
    obtain ⟨F3, F4, F5, F6⟩ := e3 [] c
    have G1 := hl [] c
    have G2 := hm [] c
    have sF : sumD [.list (vlL rs i (mbN cs rs p [] c))] = some (.int (numsD (vlL rs i (mbN cs rs p [] c))).sum) := by
      show (intsD _).map _ = _
      rw [F3]
      rfl
    have e5 := least_ok (numsD (vlL rs i (mbN cs rs p r c))).sum (u := (numsD (vlL rs i (mbN cs rs p [] c))).sum) (by omega) (by omega)
    have lk := look_column (.tuple [.tuple [], .tuple []]) (.tuple [.tuple r, .tuple []]) (.tuple [.tuple [], .tuple c])
    have y0 : ixD (.tuple [.tuple [], .tuple c]) (.int 0) = some (.tuple []) := rfl
    have y1 : ixD (.tuple [.tuple [], .tuple c]) (.int 1) = some (.tuple c) := rfl
    refine ⟨frac (numsD (vlL rs i (mbN cs rs p r c))).sum (numsD (vlL rs i (mbN cs rs p [] c))).sum, rfl, ⟨_, _, rfl, by omega, by omega, by omega, by omega⟩, ?_⟩
    unfold M_one_sum mFn smD
    simp only [mSeq, mSet, mSetO, mSet2, mRet, mRetN, mDrop, mIfS, mIf, mB, mTru, mAnd, mOr, mNot, mAndV, mOrV, mNotV, mChain, mRaise, mNx, m1, m2, mN, mNL, mVar, mC, mNil, mCons, mLst, mTup, mDsp, mCall, mANil, mAv, mAr, mAb, hasR, hasB, toSl, VL.bs, back, mMut, heldR, setR, peekR, mLenP, mLenO, mRd, mItA, mIt, mAsg, gNm, gTp, gSeq, mYes, mSl, mPs, mPn, mKn, ok_bind, Oc.bind, Oc.opt, lenD_l, lenD_t, tupD, truD, isi_str_str, isi_str_tup, isi_str_int, isi_str_non, isi_str_lst, isi_tup_tup, isi_tup_lst, isi_tup_str, isi_tup_int, isi_tup_non, isi_lst_lst, isi_lst_tup, isi_int_int, isi_int_str, isi_int_non, isi_bool_int, isi_int_tup, isi_bool_tup, isi_bool_str, isi_bool_non, isi_lst_str, isi_lst_int, isi_lst_non, isD, isntD, isNoneD, addD_i, subD_i, seqD, appendD, List.replicate, List.append_nil, List.cons_append, List.nil_append, List.getElem?_cons_zero, List.getElem?_cons_succ, List.set_cons_zero, List.set_cons_succ, List.length_cons, List.length_nil, List.nodup_nil, List.nodup_cons, List.not_mem_nil, not_false_eq_true, and_self, Option.map, if_true, if_false, Bool.false_eq_true, Bool.not_true, Bool.not_false, Bool.and_true, Bool.true_and, Bool.false_and, Bool.and_false, finR, Sl.fin, wipeR, restR, List.getD_cons_zero, List.getD_cons_succ, decide_true, decide_false, Nat.reduceAdd, Nat.reduceLT, mPick3, Oc.noex, E1, E2, x0, x1, eqD_s, q1, q2, q3, q4, q5, q6, f0, f2, lk, sE, y0, y1, F1, F2, sF, e5]
    rfl
end VL

set_option Elab.async false
set_option linter.all false
set_option maxRecDepth 100000
set_option maxHeartbeats 4000000
/-! VM12: cells. -/
namespace VL
open PySem L2
noncomputable def vAt (cs : List Col) (rs : List (List PyData)) (p : Pn) (z : Str) (r c : List PyData) : List PyData := vlL rs (plc cs z) (mbN cs rs p r c)
/-- what a sum at a place is -/
noncomputable def sV (cs : List Col) (rs : List (List PyData)) (p : Pn) (s : Sm) (r c : List PyData) : PyData := match s with
  | .count => .int ((mbN cs rs p r c).length : Nat)
  | .filled z => .int ((vAt cs rs p z r c).length : Nat)
  | .unlike z => .int (unlN (vAt cs rs p z r c) : Nat)
  | .op o z => opV rs (plc cs z) (mbN cs rs p) o r c
theorem one_sum_ex {cs : List Col} {rs : List (List PyData)} {p : Pn} (h : TabOk cs rs) (hp : PnOk cs p) {r c : List PyData} (hr : Leaves r) (hc : Leaves c) {s : Sm} (hs : SmOk cs s) : ∃ d, d = sV cs rs p s r c ∧ SumOk s d ∧ M_one_sum [.val (tabD cs rs), .val (.list (ctL cs rs p)), .val (smD s), .val (.tuple r), .val (.tuple c)] = .ok d [.un, .un, .un, .un, .un] := by
  have hf := h.few
  have hm := mbN_len (cs := cs) (rs := rs) (p := p) (r := r) (c := c)
  cases s with
  | count => exact ⟨_, rfl, ⟨_, rfl, by omega, by omega⟩, count_ok h hp hr hc⟩
  | filled z =>
    obtain ⟨num, i, co, hi, rfl, _⟩ := hs
    have hl := vlL_len (rs := rs) (i := i) (ks := mbN cs rs p r c)
    exact ⟨_, by simp only [sV, vAt, plc_is h.cols hi], ⟨_, rfl, by omega, by omega⟩, filled_ok h hp hr hc hi⟩
  | unlike z =>
    obtain ⟨num, i, co, hi, rfl, _⟩ := hs
    obtain ⟨k, e0, hk, e⟩ := unlike_ok h hp hr hc hi
    exact ⟨_, by simp only [sV, vAt, plc_is h.cols hi, ← e0], ⟨_, rfl, by omega, by omega⟩, e⟩
  | op o z =>
    obtain ⟨i, co, hi, rfl, hn⟩ := hs
    obtain ⟨d, e0, h1, e⟩ := sum_op_ok h hp hr hc hi hn o
    exact ⟨d, by simp only [sV, plc_is h.cols hi]; exact e0, h1, e⟩
theorem one_sum_ok {cs : List Col} {rs : List (List PyData)} {p : Pn} (h : TabOk cs rs) (hp : PnOk cs p) {r c : List PyData} (hr : Leaves r) (hc : Leaves c) {s : Sm} (hs : SmOk cs s) : M_one_sum [.val (tabD cs rs), .val (.list (ctL cs rs p)), .val (smD s), .val (.tuple r), .val (.tuple c)] = .ok (os cs rs p s r c) [.un, .un, .un, .un, .un] ∧ SumOk s (os cs rs p s r c) := by
  obtain ⟨d, _, h1, e⟩ := one_sum_ex h hp hr hc hs
  have : os cs rs p s r c = d := by unfold os; rw [e]; rfl
  rw [this]
  exact ⟨e, h1⟩
theorem os_is {cs : List Col} {rs : List (List PyData)} {p : Pn} (h : TabOk cs rs) (hp : PnOk cs p) {r c : List PyData} (hr : Leaves r) (hc : Leaves c) {s : Sm} (hs : SmOk cs s) : os cs rs p s r c = sV cs rs p s r c := by
  obtain ⟨d, e0, h1, e⟩ := one_sum_ex h hp hr hc hs
  unfold os
  rw [e]
  exact e0
noncomputable def cellV (cs : List Col) (rs : List (List PyData)) (p : Pn) (r c : List PyData) : PyData := .tuple (p.sm.map fun s => os cs rs p s r c)
theorem cell_of_ok {cs : List Col} {rs : List (List PyData)} {p : Pn} (h : TabOk cs rs) (hp : PnOk cs p) {r c : List PyData} (hr : Leaves r) (hc : Leaves c) : M_cell_of [.val (tabD cs rs), .val (pnD p), .val (.list (ctL cs rs p)), .val (.tuple r), .val (.tuple c)] = .ok (cellV cs rs p r c) [.un, .un, .un, .un, .un] := by
  have x2 : ixD (pnD p) (.int 2) = some (.tuple (p.sm.map smD)) := rfl
  have f1 := mLc_map (fs := mIt (m2 ixD (mVar 1) (mC (.int 2)))) (g := gNm 5) (f := mCall M_one_sum (mAv (mVar 0) (mAv (mVar 2) (mAv (mVar 5) (mAv (mVar 3) (mAv (mVar 4) mANil)))))) (vs := [5])
    (ρ := [.val (tabD cs rs), .val (pnD p), .val (.list (ctL cs rs p)), .val (.tuple r), .val (.tuple c), .un]) (ρ1 := [.val (tabD cs rs), .val (pnD p), .val (.list (ctL cs rs p)), .val (.tuple r), .val (.tuple c), .un]) p.sm smD (fun s => os cs rs p s r c) (by simp only [mSeq, mSet, mSetO, mSet2, mRet, mRetN, mDrop, mIfS, mIf, mB, mTru, mAnd, mOr, mNot, mAndV, mOrV, mNotV, mChain, mRaise, mNx, m1, m2, mN, mNL, mVar, mC, mNil, mCons, mLst, mTup, mDsp, mCall, mANil, mAv, mAr, mAb, hasR, hasB, toSl, VL.bs, back, mMut, heldR, setR, peekR, mLenP, mLenO, mRd, mItA, mIt, mAsg, gNm, gTp, gSeq, mYes, mSl, mPs, mPn, mKn, ok_bind, Oc.bind, Oc.opt, lenD_l, lenD_t, tupD, truD, isi_str_str, isi_str_tup, isi_str_int, isi_str_non, isi_str_lst, isi_tup_tup, isi_tup_lst, isi_tup_str, isi_tup_int, isi_tup_non, isi_lst_lst, isi_lst_tup, isi_int_int, isi_int_str, isi_int_non, isi_bool_int, isi_int_tup, isi_bool_tup, isi_bool_str, isi_bool_non, isi_lst_str, isi_lst_int, isi_lst_non, isD, isntD, isNoneD, addD_i, subD_i, seqD, appendD, List.replicate, List.append_nil, List.cons_append, List.nil_append, List.getElem?_cons_zero, List.getElem?_cons_succ, List.set_cons_zero, List.set_cons_succ, List.length_cons, List.length_nil, List.nodup_nil, List.nodup_cons, List.not_mem_nil, not_false_eq_true, and_self, Option.map, if_true, if_false, Bool.false_eq_true, Bool.not_true, Bool.not_false, Bool.and_true, Bool.true_and, Bool.false_and, Bool.and_false, finR, Sl.fin, wipeR, restR, List.getD_cons_zero, List.getD_cons_succ, decide_true, decide_false, Nat.reduceAdd, Nat.reduceLT, x2]) rfl
    (fun s hs => ⟨[.val (tabD cs rs), .val (pnD p), .val (.list (ctL cs rs p)), .val (.tuple r), .val (.tuple c), .val (smD s)], rfl, by
      have e := (one_sum_ok h hp hr hc (hp.sm s hs)).1
      simp only [mSeq, mSet, mSetO, mSet2, mRet, mRetN, mDrop, mIfS, mIf, mB, mTru, mAnd, mOr, mNot, mAndV, mOrV, mNotV, mChain, mRaise, mNx, m1, m2, mN, mNL, mVar, mC, mNil, mCons, mLst, mTup, mDsp, mCall, mANil, mAv, mAr, mAb, hasR, hasB, toSl, VL.bs, back, mMut, heldR, setR, peekR, mLenP, mLenO, mRd, mItA, mIt, mAsg, gNm, gTp, gSeq, mYes, mSl, mPs, mPn, mKn, ok_bind, Oc.bind, Oc.opt, lenD_l, lenD_t, tupD, truD, isi_str_str, isi_str_tup, isi_str_int, isi_str_non, isi_str_lst, isi_tup_tup, isi_tup_lst, isi_tup_str, isi_tup_int, isi_tup_non, isi_lst_lst, isi_lst_tup, isi_int_int, isi_int_str, isi_int_non, isi_bool_int, isi_int_tup, isi_bool_tup, isi_bool_str, isi_bool_non, isi_lst_str, isi_lst_int, isi_lst_non, isD, isntD, isNoneD, addD_i, subD_i, seqD, appendD, List.replicate, List.append_nil, List.cons_append, List.nil_append, List.getElem?_cons_zero, List.getElem?_cons_succ, List.set_cons_zero, List.set_cons_succ, List.length_cons, List.length_nil, List.nodup_nil, List.nodup_cons, List.not_mem_nil, not_false_eq_true, and_self, Option.map, if_true, if_false, Bool.false_eq_true, Bool.not_true, Bool.not_false, Bool.and_true, Bool.true_and, Bool.false_and, Bool.and_false, finR, Sl.fin, wipeR, restR, List.getD_cons_zero, List.getD_cons_succ, decide_true, decide_false, Nat.reduceAdd, Nat.reduceLT, e], rfl, rfl⟩) (by have := hp.s4; omega)
  unfold M_cell_of mFn
  simp only [mSeq, mSet, mSetO, mSet2, mRet, mRetN, mDrop, mIfS, mIf, mB, mTru, mAnd, mOr, mNot, mAndV, mOrV, mNotV, mChain, mRaise, mNx, m1, m2, mN, mNL, mVar, mC, mNil, mCons, mLst, mTup, mDsp, mCall, mANil, mAv, mAr, mAb, hasR, hasB, toSl, VL.bs, back, mMut, heldR, setR, peekR, mLenP, mLenO, mRd, mItA, mIt, mAsg, gNm, gTp, gSeq, mYes, mSl, mPs, mPn, mKn, ok_bind, Oc.bind, Oc.opt, lenD_l, lenD_t, tupD, truD, isi_str_str, isi_str_tup, isi_str_int, isi_str_non, isi_str_lst, isi_tup_tup, isi_tup_lst, isi_tup_str, isi_tup_int, isi_tup_non, isi_lst_lst, isi_lst_tup, isi_int_int, isi_int_str, isi_int_non, isi_bool_int, isi_int_tup, isi_bool_tup, isi_bool_str, isi_bool_non, isi_lst_str, isi_lst_int, isi_lst_non, isD, isntD, isNoneD, addD_i, subD_i, seqD, appendD, List.replicate, List.append_nil, List.cons_append, List.nil_append, List.getElem?_cons_zero, List.getElem?_cons_succ, List.set_cons_zero, List.set_cons_succ, List.length_cons, List.length_nil, List.nodup_nil, List.nodup_cons, List.not_mem_nil, not_false_eq_true, and_self, Option.map, if_true, if_false, Bool.false_eq_true, Bool.not_true, Bool.not_false, Bool.and_true, Bool.true_and, Bool.false_and, Bool.and_false, finR, Sl.fin, wipeR, restR, List.getD_cons_zero, List.getD_cons_succ, decide_true, decide_false, Nat.reduceAdd, Nat.reduceLT, f1]
  rfl
theorem in_paths {qs : List (List PyData)} {q : List PyData} {f : Bool → Bool} (h : ∀ q ∈ qs, Leaves q) (hq : q ∈ qs) : inD f (.tuple q) (.list (qs.map .tuple)) = some (.bool (f true)) := by
  show inSeq f _ _ = _
  rw [inSeq_g (gd_leaves (h q hq) 49) (by intro e he; obtain ⟨k, hk, rfl⟩ := List.mem_map.mp he; exact gd_leaves (h k hk) 49), decide_eq_true (List.mem_map_of_mem hq)]
theorem look_place_ok {cs : List Col} {rs : List (List PyData)} {p : Pn} {R C : List (List PyData)} (S : SidesOk cs rs p R C) {r c : List PyData} (hr : r ∈ R) (hc : c ∈ C) : M_look_place [.val (tabD cs rs), .val (pnD p), .val (.tuple r), .val (.tuple c)] = .ok .none [.un, .un, .un, .un] := by
  have e0 := S.eq
  have g1 : gTp [gNm 4, gNm 5] (.tuple [.list (R.map .tuple), .list (C.map .tuple)]) [.val (tabD cs rs), .val (pnD p), .val (.tuple r), .val (.tuple c), .un, .un] = some [.val (tabD cs rs), .val (pnD p), .val (.tuple r), .val (.tuple c), .val (.list (R.map .tuple)), .val (.list (C.map .tuple))] := rfl
  have e1 := in_paths (f := not) (fun q hq => (S.rl q hq).1) hr
  have e2 := in_paths (f := not) (fun q hq => (S.cl q hq).1) hc
  unfold M_look_place mFn
  simp only [mSeq, mSet, mSetO, mSet2, mRet, mRetN, mDrop, mIfS, mIf, mB, mTru, mAnd, mOr, mNot, mAndV, mOrV, mNotV, mChain, mRaise, mNx, m1, m2, mN, mNL, mVar, mC, mNil, mCons, mLst, mTup, mDsp, mCall, mANil, mAv, mAr, mAb, hasR, hasB, toSl, VL.bs, back, mMut, heldR, setR, peekR, mLenP, mLenO, mRd, mItA, mIt, mAsg, gNm, mYes, mSl, mPs, mPn, mKn, ok_bind, Oc.bind, Oc.opt, lenD_l, lenD_t, tupD, truD, isi_str_str, isi_str_tup, isi_str_int, isi_str_non, isi_str_lst, isi_tup_tup, isi_tup_lst, isi_tup_str, isi_tup_int, isi_tup_non, isi_lst_lst, isi_lst_tup, isi_int_int, isi_int_str, isi_int_non, isi_bool_int, isi_int_tup, isi_bool_tup, isi_bool_str, isi_bool_non, isi_lst_str, isi_lst_int, isi_lst_non, isD, isntD, isNoneD, addD_i, subD_i, seqD, appendD, List.replicate, List.append_nil, List.cons_append, List.nil_append, List.getElem?_cons_zero, List.getElem?_cons_succ, List.set_cons_zero, List.set_cons_succ, List.length_cons, List.length_nil, List.nodup_nil, List.nodup_cons, List.not_mem_nil, not_false_eq_true, and_self, Option.map, if_true, if_false, Bool.false_eq_true, Bool.not_true, Bool.not_false, Bool.and_true, Bool.true_and, Bool.false_and, Bool.and_false, finR, Sl.fin, wipeR, restR, List.getD_cons_zero, List.getD_cons_succ, decide_true, decide_false, Nat.reduceAdd, Nat.reduceLT, e0, g1, e1, e2]
  rfl
theorem cell_ok' {cs : List Col} {rs : List (List PyData)} {p : Pn} {R C : List (List PyData)} (h : TabOk cs rs) (hp : PnOk cs p) (S : SidesOk cs rs p R C) {r c : List PyData} (hr : r ∈ R) (hc : c ∈ C) : M_cell [.val (tabD cs rs), .val (pnD p), .val (.tuple r), .val (.tuple c)] = .ok (cellV cs rs p r c) [.un, .un, .un, .un] := by
  have e0 := look_all_ok h hp
  have e1 := look_place_ok S hr hc
  have e2 := counted_ok h hp
  have e3 := cell_of_ok h hp (S.rl r hr).1 (S.cl c hc).1
  unfold M_cell mFn
  simp only [mSeq, mSet, mSetO, mSet2, mRet, mRetN, mDrop, mIfS, mIf, mB, mTru, mAnd, mOr, mNot, mAndV, mOrV, mNotV, mChain, mRaise, mNx, m1, m2, mN, mNL, mVar, mC, mNil, mCons, mLst, mTup, mDsp, mCall, mANil, mAv, mAr, mAb, hasR, hasB, toSl, VL.bs, back, mMut, heldR, setR, peekR, mLenP, mLenO, mRd, mItA, mIt, mAsg, gNm, gTp, gSeq, mYes, mSl, mPs, mPn, mKn, ok_bind, Oc.bind, Oc.opt, lenD_l, lenD_t, tupD, truD, isi_str_str, isi_str_tup, isi_str_int, isi_str_non, isi_str_lst, isi_tup_tup, isi_tup_lst, isi_tup_str, isi_tup_int, isi_tup_non, isi_lst_lst, isi_lst_tup, isi_int_int, isi_int_str, isi_int_non, isi_bool_int, isi_int_tup, isi_bool_tup, isi_bool_str, isi_bool_non, isi_lst_str, isi_lst_int, isi_lst_non, isD, isntD, isNoneD, addD_i, subD_i, seqD, appendD, List.replicate, List.append_nil, List.cons_append, List.nil_append, List.getElem?_cons_zero, List.getElem?_cons_succ, List.set_cons_zero, List.set_cons_succ, List.length_cons, List.length_nil, List.nodup_nil, List.nodup_cons, List.not_mem_nil, not_false_eq_true, and_self, Option.map, if_true, if_false, Bool.false_eq_true, Bool.not_true, Bool.not_false, Bool.and_true, Bool.true_and, Bool.false_and, Bool.and_false, finR, Sl.fin, wipeR, restR, List.getD_cons_zero, List.getD_cons_succ, decide_true, decide_false, Nat.reduceAdd, Nat.reduceLT, e0, e1, e2, e3]
  rfl
end VL

set_option Elab.async false
set_option linter.all false
set_option maxRecDepth 100000
set_option maxHeartbeats 4000000
/-! VMU: steps of a law. -/
namespace VL
open PySem L2
theorem neD_self {d : PyData} (h : Gd d) : neD d d = some (.bool false) := by rw [neD_g h h]; simp
theorem eqD_self {d : PyData} (h : Gd d) : eqD d d = some (.bool true) := by rw [eqD_g h h]; simp
theorem seq_to {m n : MS} {ρ ρ1 : R} {X : Oc Fl} (h : m ρ = .ok .nx ρ1) (h2 : n ρ1 = X) : mSeq m n ρ = X := by
  unfold mSeq
  rw [h]
  exact h2
theorem fn_to {n k : Nat} {m : MS} {as as' : List Sl} {ρ : R} {d : PyData} (h1 : as.length = n) (h2 : noOwnB as = true) (h3 : m (as ++ List.replicate k .un) = .ok (.rt d) ρ) (h4 : finR n ρ = as') : mFn n k m as = .ok d as' := by
  unfold mFn
  rw [if_pos ⟨h1, h2⟩, h3]
  subst h4
  rfl
end VL

set_option Elab.async false
set_option linter.all false
set_option maxRecDepth 100000
set_option maxHeartbeats 4000000
/-! VM18: opened, sheets, strained; paths sorted by the laws. -/
namespace VL
open PySem L2
theorem opened_ok {cs : List Col} {rs : List (List PyData)} {p : Pn} {R C : List (List PyData)} (h : TabOk cs rs) (hp : PnOk cs p) (S : SidesOk cs rs p R C) {r c : List PyData} (hr : r ∈ R) (hc : c ∈ C) : M_opened [.val (tabD cs rs), .val (pnD p), .val (.tuple r), .val (.tuple c)] = .ok (.list ((mbN cs rs p r c).map fun k => .int ((k : Nat) : Int))) [.un, .un, .un, .un] := by
  have e1 := look_all_ok h hp
  have e2 := look_place_ok S hr hc
  have e3 := counted_ok h hp
  have e4 := members_ok h hp (S.rl r hr).1 (S.cl c hc).1
  unfold M_opened mFn
  simp only [mSeq, mSet, mSetO, mSet2, mRet, mRetN, mDrop, mIfS, mIf, mB, mTru, mAnd, mOr, mNot, mAndV, mOrV, mNotV, mChain, mRaise, mNx, m1, m2, mN, mNL, mVar, mC, mNil, mCons, mLst, mTup, mDsp, mCall, mANil, mAv, mAr, mAb, hasR, hasB, toSl, VL.bs, back, mMut, heldR, setR, peekR, mLenP, mLenO, mRd, mItA, mIt, mAsg, gNm, gTp, gSeq, mYes, mSl, mPs, mPn, mKn, ok_bind, Oc.bind, Oc.opt, lenD_l, lenD_t, tupD, truD, isi_str_str, isi_str_tup, isi_str_int, isi_str_non, isi_str_lst, isi_tup_tup, isi_tup_lst, isi_tup_str, isi_tup_int, isi_tup_non, isi_lst_lst, isi_lst_tup, isi_int_int, isi_int_str, isi_int_non, isi_bool_int, isi_int_tup, isi_bool_tup, isi_bool_str, isi_bool_non, isi_lst_str, isi_lst_int, isi_lst_non, isD, isntD, isNoneD, addD_i, subD_i, seqD, appendD, List.replicate, List.append_nil, List.cons_append, List.nil_append, List.getElem?_cons_zero, List.getElem?_cons_succ, List.set_cons_zero, List.set_cons_succ, List.length_cons, List.length_nil, List.nodup_nil, List.nodup_cons, List.not_mem_nil, not_false_eq_true, and_self, Option.map, if_true, if_false, Bool.false_eq_true, Bool.not_true, Bool.not_false, Bool.and_true, Bool.true_and, Bool.false_and, Bool.and_false, finR, Sl.fin, wipeR, restR, List.getD_cons_zero, List.getD_cons_succ, decide_true, decide_false, Nat.reduceAdd, Nat.reduceLT, e1, e2, e3, e4]
  rfl
noncomputable def cellsD (cs : List Col) (rs : List (List PyData)) (p : Pn) (R C : List (List PyData)) : PyData := .list (R.map fun r => .list (C.map fun c => cellV cs rs p r c))
noncomputable def sheetD (cs : List Col) (rs : List (List PyData)) (p : Pn) (R C : List (List PyData)) : PyData := .tuple [.list (R.map .tuple), .list (C.map .tuple), cellsD cs rs p R C]
theorem sheet_of_ok {cs : List Col} {rs : List (List PyData)} {p : Pn} {R C : List (List PyData)} (h : TabOk cs rs) (hp : PnOk cs p) (S : SidesOk cs rs p R C) : M_sheet_of [.val (tabD cs rs), .val (pnD p)] = .ok (sheetD cs rs p R C) [.un, .un] := by
  have e1 := S.eq
  have e2 := counted_ok h hp
  let St : Sl → Sl → Sl → VL.R := fun s5 s6 s7 => [.val (tabD cs rs), .val (pnD p), .val (.list (R.map .tuple)), .val (.list (C.map .tuple)), .val (.list (ctL cs rs p)), s5, s6, s7]
  have hk := S.rk
  have hk' := S.ck
  have c0 : ∀ r ∈ R, M_sheet_of_c0 (St .un (.val (.tuple r)) .un) = .ok (C.map fun c => cellV cs rs p r c) (St .un (.val (.tuple r)) .un) := fun r hr =>
    mLc_map (ρ := St .un (.val (.tuple r)) .un) (ρ1 := St .un (.val (.tuple r)) .un) C PyData.tuple (fun c => cellV cs rs p r c) rfl rfl
      (fun c hc => ⟨St .un (.val (.tuple r)) (.val (.tuple c)), rfl, by
        have e := cell_of_ok h hp (S.rl r hr).1 (S.cl c hc).1
        simp only [St]
        simp only [mSeq, mSet, mSetO, mSet2, mRet, mRetN, mDrop, mIfS, mIf, mB, mTru, mAnd, mOr, mNot, mAndV, mOrV, mNotV, mChain, mRaise, mNx, m1, m2, mN, mNL, mVar, mC, mNil, mCons, mLst, mTup, mDsp, mCall, mANil, mAv, mAr, mAb, hasR, hasB, toSl, VL.bs, back, mMut, heldR, setR, peekR, mLenP, mLenO, mRd, mItA, mIt, mAsg, gNm, gTp, gSeq, mYes, mSl, mPs, mPn, mKn, ok_bind, Oc.bind, Oc.opt, lenD_l, lenD_t, tupD, truD, isi_str_str, isi_str_tup, isi_str_int, isi_str_non, isi_str_lst, isi_tup_tup, isi_tup_lst, isi_tup_str, isi_tup_int, isi_tup_non, isi_lst_lst, isi_lst_tup, isi_int_int, isi_int_str, isi_int_non, isi_bool_int, isi_int_tup, isi_bool_tup, isi_bool_str, isi_bool_non, isi_lst_str, isi_lst_int, isi_lst_non, isD, isntD, isNoneD, addD_i, subD_i, seqD, appendD, List.replicate, List.append_nil, List.cons_append, List.nil_append, List.getElem?_cons_zero, List.getElem?_cons_succ, List.set_cons_zero, List.set_cons_succ, List.length_cons, List.length_nil, List.nodup_nil, List.nodup_cons, List.not_mem_nil, not_false_eq_true, and_self, Option.map, if_true, if_false, Bool.false_eq_true, Bool.not_true, Bool.not_false, Bool.and_true, Bool.true_and, Bool.false_and, Bool.and_false, finR, Sl.fin, wipeR, restR, List.getD_cons_zero, List.getD_cons_succ, decide_true, decide_false, Nat.reduceAdd, Nat.reduceLT, e], rfl, rfl⟩) (by omega)
  have c1 : M_sheet_of_c1 (St .un .un .un) = .ok (R.map fun r => .list (C.map fun c => cellV cs rs p r c)) (St .un .un .un) :=
    mLc_map (ρ := St .un .un .un) (ρ1 := St .un .un .un) R PyData.tuple (fun r => .list (C.map fun c => cellV cs rs p r c)) rfl rfl
      (fun r hr => ⟨St .un (.val (.tuple r)) .un, rfl, by
        have e := c0 r hr
        simp only [mLst, e, ok_bind], rfl, rfl⟩) (by omega)
  have g : ∀ X Y : PyData, gTp [gNm 2, gNm 3] (.tuple [X, Y]) [.val (tabD cs rs), .val (pnD p), .un, .un, .un, .un, .un, .un] = some [.val (tabD cs rs), .val (pnD p), .val X, .val Y, .un, .un, .un, .un] := fun _ _ => rfl
  have f3 : fits 3 = true := rfl
  simp only [St] at c1
  unfold M_sheet_of mFn
  simp only [mSeq, mSet, mSetO, mSet2, mRet, mRetN, mDrop, mIfS, mIf, mB, mTru, mAnd, mOr, mNot, mAndV, mOrV, mNotV, mChain, mRaise, mNx, m1, m2, mN, mNL, mVar, mC, mNil, mCons, mLst, mTup, mDsp, mCall, mANil, mAv, mAr, mAb, hasR, hasB, toSl, VL.bs, back, mMut, heldR, setR, peekR, mLenP, mLenO, mRd, mItA, mIt, mAsg, gNm, mYes, mSl, mPs, mPn, mKn, ok_bind, Oc.bind, Oc.opt, lenD_l, lenD_t, tupD, truD, isi_str_str, isi_str_tup, isi_str_int, isi_str_non, isi_str_lst, isi_tup_tup, isi_tup_lst, isi_tup_str, isi_tup_int, isi_tup_non, isi_lst_lst, isi_lst_tup, isi_int_int, isi_int_str, isi_int_non, isi_bool_int, isi_int_tup, isi_bool_tup, isi_bool_str, isi_bool_non, isi_lst_str, isi_lst_int, isi_lst_non, isD, isntD, isNoneD, addD_i, subD_i, seqD, appendD, List.replicate, List.append_nil, List.cons_append, List.nil_append, List.getElem?_cons_zero, List.getElem?_cons_succ, List.set_cons_zero, List.set_cons_succ, List.length_cons, List.length_nil, List.nodup_nil, List.nodup_cons, List.not_mem_nil, not_false_eq_true, and_self, Option.map, if_true, if_false, Bool.false_eq_true, Bool.not_true, Bool.not_false, Bool.and_true, Bool.true_and, Bool.false_and, Bool.and_false, finR, Sl.fin, wipeR, restR, List.getD_cons_zero, List.getD_cons_succ, decide_true, decide_false, Nat.reduceAdd, Nat.reduceLT, e1, g, e2, c1, f3]
  rfl
theorem sheet_ok {cs : List Col} {rs : List (List PyData)} {p : Pn} {R C : List (List PyData)} (h : TabOk cs rs) (hp : PnOk cs p) (S : SidesOk cs rs p R C) : M_sheet [.val (tabD cs rs), .val (pnD p)] = .ok (sheetD cs rs p R C) [.un, .un] := by
  have e1 := look_all_ok h hp
  have e2 := sheet_of_ok h hp S
  unfold M_sheet mFn
  simp only [mSeq, mSet, mSetO, mSet2, mRet, mRetN, mDrop, mIfS, mIf, mB, mTru, mAnd, mOr, mNot, mAndV, mOrV, mNotV, mChain, mRaise, mNx, m1, m2, mN, mNL, mVar, mC, mNil, mCons, mLst, mTup, mDsp, mCall, mANil, mAv, mAr, mAb, hasR, hasB, toSl, VL.bs, back, mMut, heldR, setR, peekR, mLenP, mLenO, mRd, mItA, mIt, mAsg, gNm, gTp, gSeq, mYes, mSl, mPs, mPn, mKn, ok_bind, Oc.bind, Oc.opt, lenD_l, lenD_t, tupD, truD, isi_str_str, isi_str_tup, isi_str_int, isi_str_non, isi_str_lst, isi_tup_tup, isi_tup_lst, isi_tup_str, isi_tup_int, isi_tup_non, isi_lst_lst, isi_lst_tup, isi_int_int, isi_int_str, isi_int_non, isi_bool_int, isi_int_tup, isi_bool_tup, isi_bool_str, isi_bool_non, isi_lst_str, isi_lst_int, isi_lst_non, isD, isntD, isNoneD, addD_i, subD_i, seqD, appendD, List.replicate, List.append_nil, List.cons_append, List.nil_append, List.getElem?_cons_zero, List.getElem?_cons_succ, List.set_cons_zero, List.set_cons_succ, List.length_cons, List.length_nil, List.nodup_nil, List.nodup_cons, List.not_mem_nil, not_false_eq_true, and_self, Option.map, if_true, if_false, Bool.false_eq_true, Bool.not_true, Bool.not_false, Bool.and_true, Bool.true_and, Bool.false_and, Bool.and_false, finR, Sl.fin, wipeR, restR, List.getD_cons_zero, List.getD_cons_succ, decide_true, decide_false, Nat.reduceAdd, Nat.reduceLT, e1, e2]
  rfl
theorem strained_ok {cs : List Col} {rs : List (List PyData)} {fs : List Sf} (h : TabOk cs rs) (hf : ∀ s ∈ fs, SfOk cs s) (hl : fs.length ≤ 3) : M_strained [.val (tabD cs rs), .val (.tuple (fs.map sfD))] = .ok (tabD cs (rs.filter (cv cs fs ·))) [.un, .un] := by
  have e1 := look_table_ok h
  have e2 := are_all_ok (cs := cs) (n := 2) (m := M_is_sift) fs 3 (by omega) (by decide) rfl (fun s hs => is_sift_ok h.cols (hf s hs))
  have x0 : ixD (tabD cs rs) (.int 0) = some (colsD cs) := rfl
  have x1 : ixD (tabD cs rs) (.int 1) = some (rowsD rs) := rfl
  have f2 : fits 2 = true := rfl
  let St : Sl → VL.R := fun s2 => [.val (tabD cs rs), .val (.tuple (fs.map sfD)), s2]
  have hfew := h.few
  have c0 : M_strained_c0 (St .un) = .ok ((rs.filter (cv cs fs ·)).map .tuple) (St .un) :=
    mLc_pure (ρ := St .un) (ρ1 := St .un) rs PyData.tuple (cv cs fs) PyData.tuple rfl rfl
      (fun r hr => ⟨St (.val (.tuple r)), rfl, by
        have e := counts_is h.cols (h.rows r hr) hf
        simp only [St]
        simp only [mSeq, mSet, mSetO, mSet2, mRet, mRetN, mDrop, mIfS, mIf, mB, mTru, mAnd, mOr, mNot, mAndV, mOrV, mNotV, mChain, mRaise, mNx, m1, m2, mN, mNL, mVar, mC, mNil, mCons, mLst, mTup, mDsp, mCall, mANil, mAv, mAr, mAb, hasR, hasB, toSl, VL.bs, back, mMut, heldR, setR, peekR, mLenP, mLenO, mRd, mItA, mIt, mAsg, gNm, gTp, gSeq, mYes, mSl, mPs, mPn, mKn, ok_bind, Oc.bind, Oc.opt, lenD_l, lenD_t, tupD, truD, isi_str_str, isi_str_tup, isi_str_int, isi_str_non, isi_str_lst, isi_tup_tup, isi_tup_lst, isi_tup_str, isi_tup_int, isi_tup_non, isi_lst_lst, isi_lst_tup, isi_int_int, isi_int_str, isi_int_non, isi_bool_int, isi_int_tup, isi_bool_tup, isi_bool_str, isi_bool_non, isi_lst_str, isi_lst_int, isi_lst_non, isD, isntD, isNoneD, addD_i, subD_i, seqD, appendD, List.replicate, List.append_nil, List.cons_append, List.nil_append, List.getElem?_cons_zero, List.getElem?_cons_succ, List.set_cons_zero, List.set_cons_succ, List.length_cons, List.length_nil, List.nodup_nil, List.nodup_cons, List.not_mem_nil, not_false_eq_true, and_self, Option.map, if_true, if_false, Bool.false_eq_true, Bool.not_true, Bool.not_false, Bool.and_true, Bool.true_and, Bool.false_and, Bool.and_false, finR, Sl.fin, wipeR, restR, List.getD_cons_zero, List.getD_cons_succ, decide_true, decide_false, Nat.reduceAdd, Nat.reduceLT, x0, e], fun _ => rfl, rfl, rfl⟩) (by omega)
  simp only [St] at c0
  unfold M_strained mFn
  simp only [mSeq, mSet, mSetO, mSet2, mRet, mRetN, mDrop, mIfS, mIf, mB, mTru, mAnd, mOr, mNot, mAndV, mOrV, mNotV, mChain, mRaise, mNx, m1, m2, mN, mNL, mVar, mC, mNil, mCons, mLst, mTup, mDsp, mCall, mANil, mAv, mAr, mAb, hasR, hasB, toSl, VL.bs, back, mMut, heldR, setR, peekR, mLenP, mLenO, mRd, mItA, mIt, mAsg, gNm, gTp, gSeq, mYes, mSl, mPs, mPn, mKn, ok_bind, Oc.bind, Oc.opt, lenD_l, lenD_t, tupD, truD, isi_str_str, isi_str_tup, isi_str_int, isi_str_non, isi_str_lst, isi_tup_tup, isi_tup_lst, isi_tup_str, isi_tup_int, isi_tup_non, isi_lst_lst, isi_lst_tup, isi_int_int, isi_int_str, isi_int_non, isi_bool_int, isi_int_tup, isi_bool_tup, isi_bool_str, isi_bool_non, isi_lst_str, isi_lst_int, isi_lst_non, isD, isntD, isNoneD, addD_i, subD_i, seqD, appendD, List.replicate, List.append_nil, List.cons_append, List.nil_append, List.getElem?_cons_zero, List.getElem?_cons_succ, List.set_cons_zero, List.set_cons_succ, List.length_cons, List.length_nil, List.nodup_nil, List.nodup_cons, List.not_mem_nil, not_false_eq_true, and_self, Option.map, if_true, if_false, Bool.false_eq_true, Bool.not_true, Bool.not_false, Bool.and_true, Bool.true_and, Bool.false_and, Bool.and_false, finR, Sl.fin, wipeR, restR, List.getD_cons_zero, List.getD_cons_succ, decide_true, decide_false, Nat.reduceAdd, Nat.reduceLT, e1, mAf, e2, x0, c0, f2]
  rfl
theorem strained_tab {cs : List Col} {rs : List (List PyData)} (h : TabOk cs rs) (f : List PyData → Bool) : TabOk cs (rs.filter f) :=
  ⟨h.cols, Nat.le_trans (List.length_filter_le _ _) h.few, fun r hr => h.rows r (List.mem_filter.mp hr).1⟩
/-! ### sorting paths by their marks -/
theorem sorted_paths (qs : List (List PyData)) (hl : qs.length ≤ 10000) (qN : qs.Nodup) : ∃ L, sortD [.list ((List.range qs.length).map (srtE qs))] = some (.list L) ∧ (∀ d ∈ L, ∃ i, i < qs.length ∧ d = srtE qs i) ∧ L.length = qs.length ∧ (L.map (unS qs)).Perm qs ∧ (RkInj qs → (L.map (unS qs)).Pairwise fun a b => pLt a b = true) := by
  have hso := sort_ok qs hl
  obtain ⟨L, hL⟩ : ∃ L, L = (List.range qs.length).map (srtE qs) := ⟨_, rfl⟩
  rw [← hL] at hso
  have e2 : sortD [.list L] = some (.list (sortL L)) := by
    show (if sortOk L = true then some (PyData.list (sortL L)) else none) = _
    rw [if_pos hso]
  have hperm : (sortL L).Perm L := List.mergeSort_perm L _
  have hmem : ∀ d ∈ sortL L, ∃ i, i < qs.length ∧ d = srtE qs i := fun d hd => by
    have := hperm.mem_iff.mp hd
    rw [hL] at this
    obtain ⟨i, hi, rfl⟩ := List.mem_map.mp this
    exact ⟨i, List.mem_range.mp hi, rfl⟩
  have hLl : (sortL L).length = qs.length := by rw [hperm.length_eq, hL, List.length_map, List.length_range]
  have hu : ∀ i, i < qs.length → unS qs (srtE qs i) = qs.getD i [] := fun i hi => by
    show qs.getD ((i : Int)).toNat [] = _
    rw [Int.toNat_natCast]
  have hout : ((sortL L).map (unS qs)).Perm qs := by
    refine (hperm.map _).trans ?_
    rw [hL, List.map_map]
    have : (List.range qs.length).map (unS qs ∘ srtE qs) = qs := by
      apply List.ext_getElem?
      intro i
      rw [List.getElem?_map]
      by_cases h : i < qs.length
      · rw [List.getElem?_range h]
        have hqi : qs[i]? = some qs[i] := List.getElem?_eq_getElem h
        show some (unS qs (srtE qs i)) = _
        rw [hu i h, List.getD_eq_getElem?_getD, hqi]
        rfl
      · rw [List.getElem?_eq_none (by rw [List.length_range]; omega), List.getElem?_eq_none (by omega)]
        rfl
    rw [this]
  rw [← hL]
  refine ⟨sortL L, e2, hmem, hLl, hout, fun inj => ?_⟩
  have hnd : (sortL L).Nodup := by
    rw [hperm.nodup_iff, hL]
    refine List.pairwise_map.mpr ((List.nodup_range (n := qs.length)).imp fun {a b} hne e => hne ?_)
    simp only [srtE, PyData.tuple.injEq, List.cons.injEq, PyData.int.injEq, and_true] at e
    omega
  refine List.pairwise_map.mpr (((sortL_pair L).and hnd).imp_of_mem fun {a b} ha hb ⟨h1, h2⟩ => ?_)
  obtain ⟨i, hi, rfl⟩ := hmem a ha
  obtain ⟨j, hj, rfl⟩ := hmem b hb
  rw [hu i hi, hu j hj]
  have hij : i ≠ j := fun e => h2 (by rw [e])
  have gi : qs.getD i [] = qs[i] := by rw [List.getD_eq_getElem?_getD, List.getElem?_eq_getElem hi]; rfl
  have gj : qs.getD j [] = qs[j] := by rw [List.getD_eq_getElem?_getD, List.getElem?_eq_getElem hj]; rfl
  have hne : (qs.getD j []).map rankD ≠ (qs.getD i []).map rankD := fun e => by
    rw [gi, gj] at e
    have := inj _ (List.getElem_mem hj) _ (List.getElem_mem hi) e
    exact hij ((List.getElem_inj qN).mp this).symm
  refine pLt_total hne ?_
  have ea : PyData.eqv (.list ((qs.getD j []).map rankD)) (.list ((qs.getD i []).map rankD)) = false := by
    cases h : PyData.eqv (.list ((qs.getD j []).map rankD)) (.list ((qs.getD i []).map rankD)) with
    | false => rfl
    | true =>
      have g : ∀ q : List PyData, gdn 48 (.list (q.map rankD)) = true := fun q => List.all_eq_true.mpr fun x hx => by
        obtain ⟨y, _, rfl⟩ := List.mem_map.mp hx
        exact gd_rank y 46
      have := (eqv_gdn 48 _ _ (g _) (g _)).mp h
      exact absurd (PyData.list.inj this) hne
  have z : PySem.W.dataLt (srtE qs j) (srtE qs i) = PySem.W.dataLt (.list ((qs.getD j []).map rankD)) (.list ((qs.getD i []).map rankD)) := by
    unfold srtE
    rw [PySem.W.dataLt_pair (x := .list ((qs.getD j []).map rankD)) (x' := .list ((qs.getD i []).map rankD)) (by show PySem.W.alikeAll _ _ = true; exact alike_ranks _ _) rfl, ea]
    rfl
  rw [z] at h1
  exact h1
theorem mark04_ok {ds : List PyData} (h : Leaves ds) (hl : ds.length ≤ 100) : L_mark_k04 [.val (.tuple ds)] = .ok (.list (ds.map rankD)) [.un] := by
  have f3 : fits 3 = true := rfl
  have c0 : L_mark_k04_c0 [.val (.tuple ds), .un] = .ok (ds.map rankD) [.val (.tuple ds), .un] :=
    mLc_map (ρ := [.val (.tuple ds), .un]) (ρ1 := [.val (.tuple ds), .un]) ds id rankD (by rw [List.map_id]; rfl) rfl
      (fun d hd => ⟨[.val (.tuple ds), .val d], rfl, by
        have hb := h d hd
        cases d <;> simp [leafB] at hb <;> (simp only [mSeq, mSet, mSetO, mSet2, mRet, mRetN, mDrop, mIfS, mIf, mB, mTru, mAnd, mOr, mNot, mAndV, mOrV, mNotV, mChain, mRaise, mNx, m1, m2, mN, mNL, mVar, mC, mNil, mCons, mLst, mTup, mDsp, mCall, mANil, mAv, mAr, mAb, hasR, hasB, toSl, VL.bs, back, mMut, heldR, setR, peekR, mLenP, mLenO, mRd, mItA, mIt, mAsg, gNm, gTp, gSeq, mYes, mSl, mPs, mPn, mKn, ok_bind, Oc.bind, Oc.opt, lenD_l, lenD_t, tupD, truD, isi_str_str, isi_str_tup, isi_str_int, isi_str_non, isi_str_lst, isi_tup_tup, isi_tup_lst, isi_tup_str, isi_tup_int, isi_tup_non, isi_lst_lst, isi_lst_tup, isi_int_int, isi_int_str, isi_int_non, isi_bool_int, isi_int_tup, isi_bool_tup, isi_bool_str, isi_bool_non, isi_lst_str, isi_lst_int, isi_lst_non, isD, isntD, isNoneD, addD_i, subD_i, seqD, appendD, List.replicate, List.append_nil, List.cons_append, List.nil_append, List.getElem?_cons_zero, List.getElem?_cons_succ, List.set_cons_zero, List.set_cons_succ, List.length_cons, List.length_nil, List.nodup_nil, List.nodup_cons, List.not_mem_nil, not_false_eq_true, and_self, Option.map, if_true, if_false, Bool.false_eq_true, Bool.not_true, Bool.not_false, Bool.and_true, Bool.true_and, Bool.false_and, Bool.and_false, finR, Sl.fin, wipeR, restR, List.getD_cons_zero, List.getD_cons_succ, decide_true, decide_false, Nat.reduceAdd, Nat.reduceLT, f3]; try rfl), rfl, rfl⟩) (by omega)
  unfold L_mark_k04 mFn
  simp only [mSeq, mSet, mSetO, mSet2, mRet, mRetN, mDrop, mIfS, mIf, mB, mTru, mAnd, mOr, mNot, mAndV, mOrV, mNotV, mChain, mRaise, mNx, m1, m2, mN, mNL, mVar, mC, mNil, mCons, mLst, mTup, mDsp, mCall, mANil, mAv, mAr, mAb, hasR, hasB, toSl, VL.bs, back, mMut, heldR, setR, peekR, mLenP, mLenO, mRd, mItA, mIt, mAsg, gNm, gTp, gSeq, mYes, mSl, mPs, mPn, mKn, ok_bind, Oc.bind, Oc.opt, lenD_l, lenD_t, tupD, truD, isi_str_str, isi_str_tup, isi_str_int, isi_str_non, isi_str_lst, isi_tup_tup, isi_tup_lst, isi_tup_str, isi_tup_int, isi_tup_non, isi_lst_lst, isi_lst_tup, isi_int_int, isi_int_str, isi_int_non, isi_bool_int, isi_int_tup, isi_bool_tup, isi_bool_str, isi_bool_non, isi_lst_str, isi_lst_int, isi_lst_non, isD, isntD, isNoneD, addD_i, subD_i, seqD, appendD, List.replicate, List.append_nil, List.cons_append, List.nil_append, List.getElem?_cons_zero, List.getElem?_cons_succ, List.set_cons_zero, List.set_cons_succ, List.length_cons, List.length_nil, List.nodup_nil, List.nodup_cons, List.not_mem_nil, not_false_eq_true, and_self, Option.map, if_true, if_false, Bool.false_eq_true, Bool.not_true, Bool.not_false, Bool.and_true, Bool.true_and, Bool.false_and, Bool.and_false, finR, Sl.fin, wipeR, restR, List.getD_cons_zero, List.getD_cons_succ, decide_true, decide_false, Nat.reduceAdd, Nat.reduceLT, c0]
  rfl
/-- the first ones of alike ones -/
noncomputable def frst (xs : List (List PyData)) (n : Nat) : List (List PyData) := ((List.range n).filter fun k => !decide (xs.getD k [] ∈ xs.take k)).map fun k => xs.getD k []
theorem frst_ok (xs : List (List PyData)) : ∀ n, n ≤ xs.length → (frst xs n).Nodup ∧ ∀ q, q ∈ frst xs n ↔ q ∈ xs.take n
  | 0, _ => by simp [frst]
  | n + 1, h => by
    obtain ⟨h1, h2⟩ := frst_ok xs n (by omega)
    have hx : xs[n]? = some xs[n] := List.getElem?_eq_getElem (by omega)
    have hg : xs.getD n [] = xs[n] := by rw [List.getD_eq_getElem?_getD, hx]; rfl
    have et : xs.take (n + 1) = xs.take n ++ [xs[n]] := by rw [List.take_add_one, hx]; rfl
    have e : frst xs (n + 1) = frst xs n ++ if xs[n] ∈ xs.take n then [] else [xs[n]] := by
      unfold frst
      rw [List.range_succ, List.filter_append, List.map_append]
      congr 1
      by_cases c : xs[n] ∈ xs.take n
      · rw [if_pos c, List.filter_cons_of_neg (by rw [hg, decide_eq_true c]; nofun)]
        rfl
      · rw [if_neg c, List.filter_cons_of_pos (by rw [hg, decide_eq_false c]; rfl)]
        show [xs.getD n []] = _
        rw [hg]
    rw [e, et]
    by_cases c : xs[n] ∈ xs.take n
    · rw [if_pos c, List.append_nil]
      refine ⟨h1, fun q => ?_⟩
      rw [h2, List.mem_append, List.mem_singleton]
      exact ⟨.inl, fun z => z.elim id fun e => e ▸ c⟩
    · rw [if_neg c]
      refine ⟨mem_snoc_nodup h1 fun z => c ((h2 _).mp z), fun q => ?_⟩
      rw [List.mem_append, List.mem_append, h2]
/-- a path's own beginnings, as the laws meet them -/
def prefs1 (paths : List (List PyData)) : List (List PyData) := [] :: (paths.map fun ds => (List.range ds.length).map fun j => ds.take (1 + j)).flatten
theorem prefs1_snoc (xs : List (List PyData)) (ds : List PyData) : prefs1 (xs ++ [ds]) = prefs1 xs ++ (List.range ds.length).map fun j => ds.take (1 + j) := by
  simp [prefs1]
theorem mem_prefs1 {paths : List (List PyData)} {q : List PyData} : q ∈ prefs1 paths ↔ q = [] ∨ ∃ ds ∈ paths, ∃ j, j ≤ ds.length ∧ q = ds.take j := by
  simp only [prefs1, List.mem_cons, List.mem_flatten, List.mem_map, List.mem_range]
  constructor
  · rintro (h | ⟨l, ⟨ds, hd, rfl⟩, hq⟩)
    · exact .inl h
    · obtain ⟨j, hj, rfl⟩ := List.mem_map.mp hq
      have := List.mem_range.mp hj
      exact .inr ⟨ds, hd, 1 + j, by omega, rfl⟩
  · rintro (h | ⟨ds, hd, j, hj, rfl⟩)
    · exact .inl h
    · cases j with
      | zero => exact .inl rfl
      | succ j => exact .inr ⟨_, ⟨ds, hd, rfl⟩, List.mem_map.mpr ⟨j, List.mem_range.mpr (by omega), by rw [Nat.add_comm]⟩⟩
theorem prefs_is {n : Nat} {paths : List (List PyData)} (h : ∀ ds ∈ paths, ds.length ≤ n) (q : List PyData) : q ∈ prefs1 paths ↔ q ∈ prefs n paths := by
  rw [mem_prefs, mem_prefs1]
  constructor
  · rintro (e | ⟨ds, hd, j, hj, rfl⟩)
    · exact .inl e
    · exact .inr ⟨ds, hd, j, Nat.le_trans hj (h ds hd), rfl⟩
  · rintro (e | ⟨ds, hd, j, hj, rfl⟩)
    · exact .inl e
    · refine .inr ⟨ds, hd, min j ds.length, Nat.min_le_right _ _, ?_⟩
      rw [List.take_eq_take_iff]
      omega
theorem prefs1_len {n : Nat} : ∀ {paths : List (List PyData)}, (∀ ds ∈ paths, ds.length ≤ n) → (prefs1 paths).length ≤ 1 + n * paths.length := by
  intro paths
  induction paths with
  | nil => intro _; simp [prefs1]
  | cons ds paths ih =>
    intro h
    have h1 := ih fun x hx => h x (List.mem_cons_of_mem _ hx)
    have h2 := h ds List.mem_cons_self
    simp only [prefs1, List.map_cons, List.flatten_cons, List.length_cons, List.length_append, List.length_map, List.length_range] at h1 ⊢
    rw [Nat.mul_add]
    omega
theorem range2_n (a b : Nat) (hb : b ≤ 16777216) (ha : a ≤ 16777216) : range2D [.int (a : Int), .int (b : Int)] = some ((List.range (b - a)).map fun i => .int ((a + i : Nat) : Int)) := by
  show (if rng1 (a : Int) && rng1 (b : Int) then some (rngD (a : Int) ((b : Int) - (a : Int)).toNat) else none) = _
  rw [rng1_n a ha, rng1_n b hb]
  have e : ((b : Int) - (a : Int)).toNat = b - a := by omega
  rw [e]
  show some (rngD _ _) = _
  unfold rngD
  congr 1
theorem addD_ls {a b : List PyData} (h : a.length + b.length ≤ 16777216) : addD (.list a) (.list b) = some (.list (a ++ b)) := addD_l h
theorem heads04_ok {paths : List (List PyData)} {n : Nat} (hn : n ≤ 10) (hp : paths.length ≤ 600) (hl : ∀ ds ∈ paths, Leaves ds ∧ ds.length ≤ n) : ∃ out : List (List PyData), out.Nodup ∧ (∀ q, q ∈ out ↔ q ∈ prefs1 paths) ∧ (RkInj (prefs1 paths) → out.Pairwise fun a b => pLt a b = true) ∧
    L_heads_k04 [.val (.list (paths.map .tuple))] = .ok (.list (out.map .tuple)) [.un] := by
  let St : List (List PyData) → Sl → Sl → Sl → Sl → VL.R := fun qs s2 s3 s4 s5 => [.val (.list (paths.map .tuple)), .val (.list (qs.map .tuple)), s2, s3, s4, s5]
  have hlen : ∀ i, (prefs1 (paths.take i)).length ≤ 6001 := fun i => by
    have h1 := prefs1_len (n := n) (paths := paths.take i) fun ds hd => (hl ds (List.mem_of_mem_take hd)).2
    have h2 : (paths.take i).length ≤ 600 := Nat.le_trans (by rw [List.length_take]; exact Nat.min_le_right _ _) hp
    have h3 := Nat.mul_le_mul hn h2
    omega
  obtain ⟨fl, ρ, e1, rfl, s2, rfl⟩ := mFor_inv (fs := mIt (mVar 0)) (g := gNm 2) (m := L_heads_k04_b0) (ρ := St [[]] .un .un .un .un)
    (P := fun fl ρ => fl = .nx ∧ ∃ s2 : Sl, ρ = St (prefs1 paths) s2 .un .un .un)
    (fun i ρ => ∃ s2 : Sl, ρ = St (prefs1 (paths.take i)) s2 .un .un .un) (paths.map .tuple) rfl ⟨.un, rfl⟩
    (by
      rintro i d ρ hd ⟨s2, rfl⟩
      rw [List.getElem?_map] at hd
      obtain ⟨ds, hds, rfl⟩ := Option.map_eq_some_iff.mp hd
      obtain ⟨hL, hN⟩ := hl ds (List.mem_of_getElem? hds)
      have rg := range2_n 1 (ds.length + 1) (by omega) (by decide)
      rw [Nat.add_sub_cancel] at rg
      have c0 : L_heads_k04_c0 (St (prefs1 (paths.take i)) (.val (.tuple ds)) .un .un .un) = .ok (((List.range ds.length).map fun j => ds.take (1 + j)).map .tuple) (St (prefs1 (paths.take i)) (.val (.tuple ds)) .un .un .un) := by
        rw [List.map_map]
        exact mLc_map (ρ := St (prefs1 (paths.take i)) (.val (.tuple ds)) .un .un .un) (ρ1 := St (prefs1 (paths.take i)) (.val (.tuple ds)) .un .un .un) (List.range ds.length) (fun j => .int ((1 + j : Nat) : Int)) (fun j => .tuple (ds.take (1 + j))) (by
            simp only [St]
            have e : ((ds.length + 1 : Nat) : Int) = ((ds.length : Nat) : Int) + 1 := by omega
            rw [e] at rg
            have rg : range2D [.int 1, .int (((ds.length : Nat) : Int) + 1)] = _ := rg
            simp only [mSeq, mSet, mSetO, mSet2, mRet, mRetN, mDrop, mIfS, mIf, mB, mTru, mAnd, mOr, mNot, mAndV, mOrV, mNotV, mChain, mRaise, mNx, m1, m2, mN, mNL, mVar, mC, mNil, mCons, mLst, mTup, mDsp, mCall, mANil, mAv, mAr, mAb, hasR, hasB, toSl, VL.bs, back, mMut, heldR, setR, peekR, mLenP, mLenO, mRd, mItA, mIt, mAsg, gNm, gTp, gSeq, mYes, mSl, mPs, mPn, mKn, ok_bind, Oc.bind, Oc.opt, lenD_l, lenD_t, tupD, truD, isi_str_str, isi_str_tup, isi_str_int, isi_str_non, isi_str_lst, isi_tup_tup, isi_tup_lst, isi_tup_str, isi_tup_int, isi_tup_non, isi_lst_lst, isi_lst_tup, isi_int_int, isi_int_str, isi_int_non, isi_bool_int, isi_int_tup, isi_bool_tup, isi_bool_str, isi_bool_non, isi_lst_str, isi_lst_int, isi_lst_non, isD, isntD, isNoneD, addD_i, subD_i, seqD, appendD, List.replicate, List.append_nil, List.cons_append, List.nil_append, List.getElem?_cons_zero, List.getElem?_cons_succ, List.set_cons_zero, List.set_cons_succ, List.length_cons, List.length_nil, List.nodup_nil, List.nodup_cons, List.not_mem_nil, not_false_eq_true, and_self, Option.map, if_true, if_false, Bool.false_eq_true, Bool.not_true, Bool.not_false, Bool.and_true, Bool.true_and, Bool.false_and, Bool.and_false, finR, Sl.fin, wipeR, restR, List.getD_cons_zero, List.getD_cons_succ, decide_true, decide_false, Nat.reduceAdd, Nat.reduceLT, rg]) rfl
          (fun j hj => ⟨St (prefs1 (paths.take i)) (.val (.tuple ds)) (.val (.int ((1 + j : Nat) : Int))) .un .un, rfl, by
            have e := slT_hi ds (1 + j)
            simp only [St]
            simp only [mSeq, mSet, mSetO, mSet2, mRet, mRetN, mDrop, mIfS, mIf, mB, mTru, mAnd, mOr, mNot, mAndV, mOrV, mNotV, mChain, mRaise, mNx, m1, m2, mN, mNL, mVar, mC, mNil, mCons, mLst, mTup, mDsp, mCall, mANil, mAv, mAr, mAb, hasR, hasB, toSl, VL.bs, back, mMut, heldR, setR, peekR, mLenP, mLenO, mRd, mItA, mIt, mAsg, gNm, gTp, gSeq, mYes, mSl, mPs, mPn, mKn, ok_bind, Oc.bind, Oc.opt, lenD_l, lenD_t, tupD, truD, isi_str_str, isi_str_tup, isi_str_int, isi_str_non, isi_str_lst, isi_tup_tup, isi_tup_lst, isi_tup_str, isi_tup_int, isi_tup_non, isi_lst_lst, isi_lst_tup, isi_int_int, isi_int_str, isi_int_non, isi_bool_int, isi_int_tup, isi_bool_tup, isi_bool_str, isi_bool_non, isi_lst_str, isi_lst_int, isi_lst_non, isD, isntD, isNoneD, addD_i, subD_i, seqD, appendD, List.replicate, List.append_nil, List.cons_append, List.nil_append, List.getElem?_cons_zero, List.getElem?_cons_succ, List.set_cons_zero, List.set_cons_succ, List.length_cons, List.length_nil, List.nodup_nil, List.nodup_cons, List.not_mem_nil, not_false_eq_true, and_self, Option.map, if_true, if_false, Bool.false_eq_true, Bool.not_true, Bool.not_false, Bool.and_true, Bool.true_and, Bool.false_and, Bool.and_false, finR, Sl.fin, wipeR, restR, List.getD_cons_zero, List.getD_cons_succ, decide_true, decide_false, Nat.reduceAdd, Nat.reduceLT, e], rfl, rfl⟩) (by rw [List.length_range]; omega)
      have ea : addD (.list ((prefs1 (paths.take i)).map .tuple)) (.list (((List.range ds.length).map fun j => ds.take (1 + j)).map .tuple)) = some (.list ((prefs1 (paths.take (i + 1))).map .tuple)) := by
        rw [addD_l (by have := hlen i; simp only [List.length_map, List.length_range]; omega), ← List.map_append, ← prefs1_snoc, List.take_add_one, hds]
        rfl
      refine ⟨St (prefs1 (paths.take i)) (.val (.tuple ds)) .un .un .un, rfl, .nx, St (prefs1 (paths.take (i + 1))) (.val (.tuple ds)) .un .un .un, ?_, _, rfl⟩
      simp only [St] at c0
      unfold L_heads_k04_b0
      simp only [St]
      simp only [mSeq, mSet, mSetO, mSet2, mRet, mRetN, mDrop, mIfS, mIf, mB, mTru, mAnd, mOr, mNot, mAndV, mOrV, mNotV, mChain, mRaise, mNx, m1, m2, mN, mNL, mVar, mC, mNil, mCons, mLst, mTup, mDsp, mCall, mANil, mAv, mAr, mAb, hasR, hasB, toSl, VL.bs, back, mMut, heldR, setR, peekR, mLenP, mLenO, mRd, mItA, mIt, mAsg, gNm, gTp, gSeq, mYes, mSl, mPs, mPn, mKn, ok_bind, Oc.bind, Oc.opt, lenD_l, lenD_t, tupD, truD, isi_str_str, isi_str_tup, isi_str_int, isi_str_non, isi_str_lst, isi_tup_tup, isi_tup_lst, isi_tup_str, isi_tup_int, isi_tup_non, isi_lst_lst, isi_lst_tup, isi_int_int, isi_int_str, isi_int_non, isi_bool_int, isi_int_tup, isi_bool_tup, isi_bool_str, isi_bool_non, isi_lst_str, isi_lst_int, isi_lst_non, isD, isntD, isNoneD, addD_i, subD_i, seqD, appendD, List.replicate, List.append_nil, List.cons_append, List.nil_append, List.getElem?_cons_zero, List.getElem?_cons_succ, List.set_cons_zero, List.set_cons_succ, List.length_cons, List.length_nil, List.nodup_nil, List.nodup_cons, List.not_mem_nil, not_false_eq_true, and_self, Option.map, if_true, if_false, Bool.false_eq_true, Bool.not_true, Bool.not_false, Bool.and_true, Bool.true_and, Bool.false_and, Bool.and_false, finR, Sl.fin, wipeR, restR, List.getD_cons_zero, List.getD_cons_succ, decide_true, decide_false, Nat.reduceAdd, Nat.reduceLT, c0, ea])
    (by
      rintro ρ ⟨s2, rfl⟩
      rw [List.length_map, List.take_length]
      exact ⟨rfl, s2, rfl⟩)
  have hlw : (prefs1 paths).length ≤ 6001 := by
    have := hlen paths.length
    rwa [List.take_length] at this
  have hLv : ∀ q ∈ prefs1 paths, Leaves q ∧ q.length ≤ n := fun q hq => by
    rcases mem_prefs1.mp hq with rfl | ⟨ds, hd, j, hj, rfl⟩
    · exact ⟨fun _ h => absurd h List.not_mem_nil, Nat.zero_le _⟩
    · exact ⟨fun d hd' => (hl ds hd).1 d (List.mem_of_mem_take hd'), by rw [List.length_take]; have := (hl ds hd).2; omega⟩
  obtain ⟨fN, fM⟩ := frst_ok (prefs1 paths) (prefs1 paths).length (Nat.le_refl _)
  rw [List.take_length] at fM
  obtain ⟨ps, hps⟩ : ∃ ps, ps = prefs1 paths := ⟨_, rfl⟩
  rw [← hps] at e1 hlw hLv fN fM
  have l1 : lenD [.list (ps.map .tuple)] = some (.int (ps.length : Nat)) := by rw [lenD_l, List.length_map]
  have r1 := range1_n ps.length (by omega)
  have c1 : L_heads_k04_c1 (St ps s2 .un .un .un) = .ok ((frst ps ps.length).map .tuple) (St ps s2 .un .un .un) := by
    unfold frst
    rw [List.map_map]
    exact mLc_pure (ρ := St ps s2 .un .un .un) (ρ1 := St ps s2 .un .un .un) (List.range ps.length) (fun i => .int ((i : Nat) : Int)) (fun k => !decide (ps.getD k [] ∈ ps.take k)) (fun k => .tuple (ps.getD k [])) (by simp only [St]; simp only [mSeq, mSet, mSetO, mSet2, mRet, mRetN, mDrop, mIfS, mIf, mB, mTru, mAnd, mOr, mNot, mAndV, mOrV, mNotV, mChain, mRaise, mNx, m1, m2, mN, mNL, mVar, mC, mNil, mCons, mLst, mTup, mDsp, mCall, mANil, mAv, mAr, mAb, hasR, hasB, toSl, VL.bs, back, mMut, heldR, setR, peekR, mLenP, mLenO, mRd, mItA, mIt, mAsg, gNm, gTp, gSeq, mYes, mSl, mPs, mPn, mKn, ok_bind, Oc.bind, Oc.opt, lenD_l, lenD_t, tupD, truD, isi_str_str, isi_str_tup, isi_str_int, isi_str_non, isi_str_lst, isi_tup_tup, isi_tup_lst, isi_tup_str, isi_tup_int, isi_tup_non, isi_lst_lst, isi_lst_tup, isi_int_int, isi_int_str, isi_int_non, isi_bool_int, isi_int_tup, isi_bool_tup, isi_bool_str, isi_bool_non, isi_lst_str, isi_lst_int, isi_lst_non, isD, isntD, isNoneD, addD_i, subD_i, seqD, appendD, List.replicate, List.append_nil, List.cons_append, List.nil_append, List.getElem?_cons_zero, List.getElem?_cons_succ, List.set_cons_zero, List.set_cons_succ, List.length_cons, List.length_nil, List.nodup_nil, List.nodup_cons, List.not_mem_nil, not_false_eq_true, and_self, Option.map, if_true, if_false, Bool.false_eq_true, Bool.not_true, Bool.not_false, Bool.and_true, Bool.true_and, Bool.false_and, Bool.and_false, finR, Sl.fin, wipeR, restR, List.getD_cons_zero, List.getD_cons_succ, decide_true, decide_false, Nat.reduceAdd, Nat.reduceLT, l1, r1]) rfl
      (fun k hk => by
        have hk := List.mem_range.mp hk
        have hq : ps[k]? = some ps[k] := List.getElem?_eq_getElem hk
        have hg : ps.getD k [] = ps[k] := by rw [List.getD_eq_getElem?_getD, hq]; rfl
        have x1 : ixD (.list (ps.map .tuple)) (.int (k : Int)) = some (.tuple ps[k]) := ix_list hq
        have x2 : slD (.list (ps.map .tuple)) none (some (k : Int)) = some (.list ((ps.take k).map .tuple)) := by rw [slD_hi, List.map_take]
        have x3 : inD not (.tuple ps[k]) (.list ((ps.take k).map .tuple)) = some (.bool (!decide (ps[k] ∈ ps.take k))) := by
          show inSeq not _ _ = _
          rw [inSeq_g (gd_leaves (hLv _ (List.getElem_mem hk)).1 49) (fun e he => by
            obtain ⟨q, hq, rfl⟩ := List.mem_map.mp he
            exact gd_leaves (hLv q (List.mem_of_mem_take hq)).1 49)]
          congr 3
          refine decide_eq_decide.mpr ⟨fun h => ?_, fun h => List.mem_map_of_mem h⟩
          obtain ⟨y, hy, e⟩ := List.mem_map.mp h
          cases e
          exact hy
        refine ⟨St ps s2 (.val (.int (k : Int))) .un .un, rfl, ?_, fun _ => ?_, rfl, rfl⟩
        · rw [hg]
          simp only [St]
          simp only [mSeq, mSet, mSetO, mSet2, mRet, mRetN, mDrop, mIfS, mIf, mB, mTru, mAnd, mOr, mNot, mAndV, mOrV, mNotV, mChain, mRaise, mNx, m1, m2, mN, mNL, mVar, mC, mNil, mCons, mLst, mTup, mDsp, mCall, mANil, mAv, mAr, mAb, hasR, hasB, toSl, VL.bs, back, mMut, heldR, setR, peekR, mLenP, mLenO, mRd, mItA, mIt, mAsg, gNm, gTp, gSeq, mYes, mSl, mPs, mPn, mKn, ok_bind, Oc.bind, Oc.opt, lenD_l, lenD_t, tupD, truD, isi_str_str, isi_str_tup, isi_str_int, isi_str_non, isi_str_lst, isi_tup_tup, isi_tup_lst, isi_tup_str, isi_tup_int, isi_tup_non, isi_lst_lst, isi_lst_tup, isi_int_int, isi_int_str, isi_int_non, isi_bool_int, isi_int_tup, isi_bool_tup, isi_bool_str, isi_bool_non, isi_lst_str, isi_lst_int, isi_lst_non, isD, isntD, isNoneD, addD_i, subD_i, seqD, appendD, List.replicate, List.append_nil, List.cons_append, List.nil_append, List.getElem?_cons_zero, List.getElem?_cons_succ, List.set_cons_zero, List.set_cons_succ, List.length_cons, List.length_nil, List.nodup_nil, List.nodup_cons, List.not_mem_nil, not_false_eq_true, and_self, Option.map, if_true, if_false, Bool.false_eq_true, Bool.not_true, Bool.not_false, Bool.and_true, Bool.true_and, Bool.false_and, Bool.and_false, finR, Sl.fin, wipeR, restR, List.getD_cons_zero, List.getD_cons_succ, decide_true, decide_false, Nat.reduceAdd, Nat.reduceLT, x1, x2, x3]
        · rw [hg]
          simp only [St]
          simp only [mSeq, mSet, mSetO, mSet2, mRet, mRetN, mDrop, mIfS, mIf, mB, mTru, mAnd, mOr, mNot, mAndV, mOrV, mNotV, mChain, mRaise, mNx, m1, m2, mN, mNL, mVar, mC, mNil, mCons, mLst, mTup, mDsp, mCall, mANil, mAv, mAr, mAb, hasR, hasB, toSl, VL.bs, back, mMut, heldR, setR, peekR, mLenP, mLenO, mRd, mItA, mIt, mAsg, gNm, gTp, gSeq, mYes, mSl, mPs, mPn, mKn, ok_bind, Oc.bind, Oc.opt, lenD_l, lenD_t, tupD, truD, isi_str_str, isi_str_tup, isi_str_int, isi_str_non, isi_str_lst, isi_tup_tup, isi_tup_lst, isi_tup_str, isi_tup_int, isi_tup_non, isi_lst_lst, isi_lst_tup, isi_int_int, isi_int_str, isi_int_non, isi_bool_int, isi_int_tup, isi_bool_tup, isi_bool_str, isi_bool_non, isi_lst_str, isi_lst_int, isi_lst_non, isD, isntD, isNoneD, addD_i, subD_i, seqD, appendD, List.replicate, List.append_nil, List.cons_append, List.nil_append, List.getElem?_cons_zero, List.getElem?_cons_succ, List.set_cons_zero, List.set_cons_succ, List.length_cons, List.length_nil, List.nodup_nil, List.nodup_cons, List.not_mem_nil, not_false_eq_true, and_self, Option.map, if_true, if_false, Bool.false_eq_true, Bool.not_true, Bool.not_false, Bool.and_true, Bool.true_and, Bool.false_and, Bool.and_false, finR, Sl.fin, wipeR, restR, List.getD_cons_zero, List.getD_cons_succ, decide_true, decide_false, Nat.reduceAdd, Nat.reduceLT, x1]) (by rw [List.length_range]; omega)
  obtain ⟨qs, hqs⟩ : ∃ qs, qs = frst ps ps.length := ⟨_, rfl⟩
  rw [← hqs] at c1 fN fM
  have hql : qs.length ≤ 6001 := by
    rw [hqs]
    unfold frst
    rw [List.length_map]
    refine Nat.le_trans (List.length_filter_le _ _) ?_
    rw [List.length_range]
    exact hlw
  have qL : ∀ q ∈ qs, Leaves q ∧ q.length ≤ n := fun q hq => hLv q ((fM q).mp hq)
  obtain ⟨L, e2, hmem, hLl, hout, hsrt⟩ := sorted_paths qs (by omega) fN
  have l2 : lenD [.list (qs.map .tuple)] = some (.int (qs.length : Nat)) := by rw [lenD_l, List.length_map]
  have r2 := range1_n qs.length (by omega)
  have f2 : fits 2 = true := rfl
  have c2 : L_heads_k04_c2 (St qs s2 .un .un .un) = .ok ((List.range qs.length).map (srtE qs)) (St qs s2 .un .un .un) :=
    mLc_map (ρ := St qs s2 .un .un .un) (ρ1 := St qs s2 .un .un .un) (List.range qs.length) (fun i => .int ((i : Nat) : Int)) (srtE qs) (by simp only [St]; simp only [mSeq, mSet, mSetO, mSet2, mRet, mRetN, mDrop, mIfS, mIf, mB, mTru, mAnd, mOr, mNot, mAndV, mOrV, mNotV, mChain, mRaise, mNx, m1, m2, mN, mNL, mVar, mC, mNil, mCons, mLst, mTup, mDsp, mCall, mANil, mAv, mAr, mAb, hasR, hasB, toSl, VL.bs, back, mMut, heldR, setR, peekR, mLenP, mLenO, mRd, mItA, mIt, mAsg, gNm, gTp, gSeq, mYes, mSl, mPs, mPn, mKn, ok_bind, Oc.bind, Oc.opt, lenD_l, lenD_t, tupD, truD, isi_str_str, isi_str_tup, isi_str_int, isi_str_non, isi_str_lst, isi_tup_tup, isi_tup_lst, isi_tup_str, isi_tup_int, isi_tup_non, isi_lst_lst, isi_lst_tup, isi_int_int, isi_int_str, isi_int_non, isi_bool_int, isi_int_tup, isi_bool_tup, isi_bool_str, isi_bool_non, isi_lst_str, isi_lst_int, isi_lst_non, isD, isntD, isNoneD, addD_i, subD_i, seqD, appendD, List.replicate, List.append_nil, List.cons_append, List.nil_append, List.getElem?_cons_zero, List.getElem?_cons_succ, List.set_cons_zero, List.set_cons_succ, List.length_cons, List.length_nil, List.nodup_nil, List.nodup_cons, List.not_mem_nil, not_false_eq_true, and_self, Option.map, if_true, if_false, Bool.false_eq_true, Bool.not_true, Bool.not_false, Bool.and_true, Bool.true_and, Bool.false_and, Bool.and_false, finR, Sl.fin, wipeR, restR, List.getD_cons_zero, List.getD_cons_succ, decide_true, decide_false, Nat.reduceAdd, Nat.reduceLT, l2, r2]) rfl
      (fun i hi => ⟨St qs s2 (.val (.int (i : Int))) .un .un, rfl, by
        have hi := List.mem_range.mp hi
        have hqi : qs[i]? = some qs[i] := List.getElem?_eq_getElem hi
        have x1 : ixD (.list (qs.map .tuple)) (.int (i : Int)) = some (.tuple qs[i]) := ix_list hqi
        have hL := qL _ (List.getElem_mem hi)
        have x2 := mark04_ok hL.1 (by omega)
        have x3 : qs.getD i [] = qs[i] := by rw [List.getD_eq_getElem?_getD, hqi]; rfl
        simp only [St]
        simp only [mSeq, mSet, mSetO, mSet2, mRet, mRetN, mDrop, mIfS, mIf, mB, mTru, mAnd, mOr, mNot, mAndV, mOrV, mNotV, mChain, mRaise, mNx, m1, m2, mN, mNL, mVar, mC, mNil, mCons, mLst, mTup, mDsp, mCall, mANil, mAv, mAr, mAb, hasR, hasB, toSl, VL.bs, back, mMut, heldR, setR, peekR, mLenP, mLenO, mRd, mItA, mIt, mAsg, gNm, gTp, gSeq, mYes, mSl, mPs, mPn, mKn, ok_bind, Oc.bind, Oc.opt, lenD_l, lenD_t, tupD, truD, isi_str_str, isi_str_tup, isi_str_int, isi_str_non, isi_str_lst, isi_tup_tup, isi_tup_lst, isi_tup_str, isi_tup_int, isi_tup_non, isi_lst_lst, isi_lst_tup, isi_int_int, isi_int_str, isi_int_non, isi_bool_int, isi_int_tup, isi_bool_tup, isi_bool_str, isi_bool_non, isi_lst_str, isi_lst_int, isi_lst_non, isD, isntD, isNoneD, addD_i, subD_i, seqD, appendD, List.replicate, List.append_nil, List.cons_append, List.nil_append, List.getElem?_cons_zero, List.getElem?_cons_succ, List.set_cons_zero, List.set_cons_succ, List.length_cons, List.length_nil, List.nodup_nil, List.nodup_cons, List.not_mem_nil, not_false_eq_true, and_self, Option.map, if_true, if_false, Bool.false_eq_true, Bool.not_true, Bool.not_false, Bool.and_true, Bool.true_and, Bool.false_and, Bool.and_false, finR, Sl.fin, wipeR, restR, List.getD_cons_zero, List.getD_cons_succ, decide_true, decide_false, Nat.reduceAdd, Nat.reduceLT, x1, x2, f2]
        unfold srtE
        rw [x3], rfl, rfl⟩) (by rw [List.length_range]; omega)
  have c3 : L_heads_k04_c3 (St qs s2 .un (.val (.list L)) .un) = .ok ((L.map (unS qs)).map .tuple) (St qs s2 .un (.val (.list L)) .un) := by
    rw [List.map_map]
    exact mLc_map (ρ := St qs s2 .un (.val (.list L)) .un) (ρ1 := St qs s2 .un (.val (.list L)) .un) L id (fun d => .tuple (unS qs d)) (by rw [List.map_id]; rfl) rfl
      (fun d hd => by
        obtain ⟨i, hi, rfl⟩ := hmem d hd
        have hqi : qs[i]? = some qs[i] := List.getElem?_eq_getElem hi
        have x1 : ixD (.list (qs.map .tuple)) (.int (i : Int)) = some (.tuple qs[i]) := ix_list hqi
        have x3 : unS qs (srtE qs i) = qs[i] := by
          show qs.getD ((i : Int)).toNat [] = _
          rw [Int.toNat_natCast, List.getD_eq_getElem?_getD, hqi]
          rfl
        refine ⟨St qs s2 (.val (.int (i : Int))) (.val (.list L)) (.val (.list ((qs.getD i []).map rankD))), rfl, ?_, rfl, rfl⟩
        rw [x3]
        simp only [St]
        simp only [mSeq, mSet, mSetO, mSet2, mRet, mRetN, mDrop, mIfS, mIf, mB, mTru, mAnd, mOr, mNot, mAndV, mOrV, mNotV, mChain, mRaise, mNx, m1, m2, mN, mNL, mVar, mC, mNil, mCons, mLst, mTup, mDsp, mCall, mANil, mAv, mAr, mAb, hasR, hasB, toSl, VL.bs, back, mMut, heldR, setR, peekR, mLenP, mLenO, mRd, mItA, mIt, mAsg, gNm, gTp, gSeq, mYes, mSl, mPs, mPn, mKn, ok_bind, Oc.bind, Oc.opt, lenD_l, lenD_t, tupD, truD, isi_str_str, isi_str_tup, isi_str_int, isi_str_non, isi_str_lst, isi_tup_tup, isi_tup_lst, isi_tup_str, isi_tup_int, isi_tup_non, isi_lst_lst, isi_lst_tup, isi_int_int, isi_int_str, isi_int_non, isi_bool_int, isi_int_tup, isi_bool_tup, isi_bool_str, isi_bool_non, isi_lst_str, isi_lst_int, isi_lst_non, isD, isntD, isNoneD, addD_i, subD_i, seqD, appendD, List.replicate, List.append_nil, List.cons_append, List.nil_append, List.getElem?_cons_zero, List.getElem?_cons_succ, List.set_cons_zero, List.set_cons_succ, List.length_cons, List.length_nil, List.nodup_nil, List.nodup_cons, List.not_mem_nil, not_false_eq_true, and_self, Option.map, if_true, if_false, Bool.false_eq_true, Bool.not_true, Bool.not_false, Bool.and_true, Bool.true_and, Bool.false_and, Bool.and_false, finR, Sl.fin, wipeR, restR, List.getD_cons_zero, List.getD_cons_succ, decide_true, decide_false, Nat.reduceAdd, Nat.reduceLT, x1]) (by omega)
  refine ⟨L.map (unS qs), hout.nodup_iff.mpr fN, fun q => by rw [hout.mem_iff, fM, hps], fun inj => hsrt fun a ha b hb => inj a (hps ▸ (fM a).mp ha) b (hps ▸ (fM b).mp hb), ?_⟩
  have f1 : fits 1 = true := rfl
  have f0 : fits 0 = true := rfl
  refine fn_to (ρ := St qs s2 .un (.val (.list L)) .un) rfl rfl ?_ rfl
  refine seq_to (ρ1 := St [[]] .un .un .un .un) (by simp only [St]; simp only [mSeq, mSet, mSetO, mSet2, mRet, mRetN, mDrop, mIfS, mIf, mB, mTru, mAnd, mOr, mNot, mAndV, mOrV, mNotV, mChain, mRaise, mNx, m1, m2, mN, mNL, mVar, mC, mNil, mCons, mLst, mTup, mDsp, mCall, mANil, mAv, mAr, mAb, hasR, hasB, toSl, VL.bs, back, mMut, heldR, setR, peekR, mLenP, mLenO, mRd, mItA, mIt, mAsg, gNm, gTp, gSeq, mYes, mSl, mPs, mPn, mKn, ok_bind, Oc.bind, Oc.opt, lenD_l, lenD_t, tupD, truD, isi_str_str, isi_str_tup, isi_str_int, isi_str_non, isi_str_lst, isi_tup_tup, isi_tup_lst, isi_tup_str, isi_tup_int, isi_tup_non, isi_lst_lst, isi_lst_tup, isi_int_int, isi_int_str, isi_int_non, isi_bool_int, isi_int_tup, isi_bool_tup, isi_bool_str, isi_bool_non, isi_lst_str, isi_lst_int, isi_lst_non, isD, isntD, isNoneD, addD_i, subD_i, seqD, appendD, List.replicate, List.append_nil, List.cons_append, List.nil_append, List.getElem?_cons_zero, List.getElem?_cons_succ, List.set_cons_zero, List.set_cons_succ, List.length_cons, List.length_nil, List.nodup_nil, List.nodup_cons, List.not_mem_nil, not_false_eq_true, and_self, Option.map, if_true, if_false, Bool.false_eq_true, Bool.not_true, Bool.not_false, Bool.and_true, Bool.true_and, Bool.false_and, Bool.and_false, finR, Sl.fin, wipeR, restR, List.getD_cons_zero, List.getD_cons_succ, decide_true, decide_false, Nat.reduceAdd, Nat.reduceLT, f1, f0]; rfl) ?_
  refine seq_to e1 ?_
  refine seq_to (ρ1 := St qs s2 .un .un .un) (by simp only [mSet, mLst, c1, ok_bind]; rfl) ?_
  refine seq_to (ρ1 := St qs s2 .un (.val (.list L)) .un) (by simp only [mSet, mN, mCons, mNil, mLst, c2, ok_bind, e2, Oc.opt]; rfl) ?_
  simp only [mRet, mLst, c3, ok_bind]
end VL

set_option Elab.async false
set_option linter.all false
set_option maxRecDepth 100000
set_option maxHeartbeats 4000000
namespace VL
open PySem PySem.Spec PyProof.Rows L2
noncomputable def L_made_b0 : MS :=
 (mSet 2 (mIf (mB (m2 ltD (mN lenD (mCons (mVar 2) mNil)) (m2 ixD (mVar 1) (mC (.int 2))))) (m2 addD (mVar 2) (mVar 3)) (mVar 2)))
noncomputable def L_made_l0 : MS :=
 (mFor (mItS (mVar 0)) (gNm 3) L_made_b0)
noncomputable def L_made : Mir := mFn 2 3
 ((mSeq (mIfS (mOr (mB (m2 isD (mVar 0) (mC .none))) (mTru (m1 (isiD "str") (mVar 1)))) (mRet (mVar 0)) mNx)
 (mSeq (mIfS (mB (m2 eqD (m2 ixD (mVar 1) (mC (.int 0))) (mC (.str "first")))) (mSeq (mSet 2 (mC (.str "")))
 (mSeq L_made_l0
 (mRet (mVar 2)))) mNx)
 (mSeq (mSet 4 (mIf (mB (m2 ltD (mVar 0) (mC (.int 0)))) (m2 subD (mC (.int 0)) (m2 mulD (m2 divD (m2 subD (mC (.int 0)) (mVar 0)) (m2 ixD (mVar 1) (mC (.int 2)))) (m2 ixD (mVar 1) (mC (.int 2))))) (m2 mulD (m2 divD (mVar 0) (m2 ixD (mVar 1) (mC (.int 2)))) (m2 ixD (mVar 1) (mC (.int 2))))))
 (mRet (mIf (mB (m2 gtD (mVar 4) (mVar 0))) (m2 subD (mVar 4) (m2 ixD (mVar 1) (mC (.int 2)))) (mVar 4)))))))
noncomputable def L_rows_of_b0 : MS :=
 (mSeq (mSet 4 (mLst (mDsp (mCons (mC (.int 0)) (mCons (mC (.int 9)) (mCons (mC (.int 10)) (mCons (m2 subD (mC (.int 0)) (mC (.int 1))) (mCons (m2 subD (mC (.int 0)) (mC (.int 10))) (mCons (m2 subD (mC (.int 0)) (mC (.int 11))) (mCons (mC (.int 1000000)) (mCons (m2 subD (mC (.int 0)) (mC (.int 1000000))) mNil)))))))))))
 (mSeq (mSet 5 (mCall L_pick (mAr 0 (mAb 1 (mAv (m2 addD (mVar 4) (mLst (mDsp (mCons (m2 subD (mCall L_draw (mAr 0 (mAb 1 (mAv (mC (.int 99)) mANil)))) (mC (.int 50))) mNil)))) mANil)))))
 (mMut 2 appendD (mTup (mCons (mCall L_value (mAr 0 (mAb 1 (mAv (mC (.str "word")) mANil)))) (mCons (mIf (mB (m2 eqD (mCall L_draw (mAr 0 (mAb 1 (mAv (mC (.int 7)) mANil)))) (mC (.int 0)))) (mC .none) (mVar 5)) mNil))))))
noncomputable def L_rows_of_l0 : MS :=
 (mFor (mItA range1D (mCons (mCall L_pick (mAr 0 (mAb 1 (mAv (mLst (mDsp (mCons (mC (.int 3)) (mCons (mC (.int 9)) (mCons (mC (.int 24)) mNil))))) mANil)))) mNil)) (gNm 3) L_rows_of_b0)
noncomputable def L_rows_of : Mir := mFn 2 4
 ((mSeq (mSetO 2 (mDsp mNil))
 (mSeq L_rows_of_l0
 (mRet (mTup (mCons (mTup (mCons (mTup (mCons (mC (.str "w")) (mCons (mC (.str "word")) mNil))) (mCons (mTup (mCons (mC (.str "n")) (mCons (mC (.str "number")) mNil))) mNil))) (mCons (mRd 2) mNil)))))))
noncomputable def L_law_k04_c0 : ML :=
 (mLc (mIt (m2 ixD (mVar 2) (mC (.int 1)))) (gNm 8) mYes (mCall L_made (mAv (m2 ixD (mVar 8) (mVar 6)) (mAv (mVar 5) mANil))) [8])
noncomputable def L_law_k04_c1 : ML :=
 (mLc (mIt (mVar 7)) (gNm 10) mYes (mTup (mCons (mVar 10) mNil)) [10])
noncomputable def L_law_k04_c2 : ML :=
 (mLc (mItA range1D (mCons (mN lenD (mCons (mVar 7) mNil)) mNil)) (gNm 11) (mB (m2 eqD (m2 ixD (mVar 7) (mVar 11)) (mVar 10))) (mVar 11) [11])
noncomputable def L_law_k04_b0 : MS :=
 (mSeq (mIfS (mB (m2 neD (mCall M_opened (mAv (mVar 2) (mAv (mVar 9) (mAv (mTup (mCons (mVar 10) mNil)) (mAv (mTup mNil) mANil))))) (mLst L_law_k04_c2))) (mRet (mC (.bool false))) mNx)
 (mIfS (mAnd (mB (m2 eqD (mVar 5) (m2 ixD (mVar 4) (mC (.int 0))))) (mAnd (mB (m2 isntD (mVar 10) (mC .none))) (mB (m2 neD (m2 modD (mVar 10) (mVar 3)) (mC (.int 0)))))) (mRet (mC (.bool false))) mNx))
noncomputable def L_law_k04_l0 : MS :=
 (mFor (mIt (mSl (mVar 7) mPn (mPs (mC (.int 4))))) (gNm 10) L_law_k04_b0)
noncomputable def L_law_k04_b1 : MS :=
 (mSeq (mSet 6 (mIf (mB (m2 (inD id) (mVar 5) (mTup (mCons (mC (.str "w")) (mCons (m2 ixD (mVar 4) (mC (.int 1))) mNil))))) (mC (.int 0)) (mC (.int 1))))
 (mSeq (mSet 7 (mLst L_law_k04_c0))
 (mSeq (mSet 9 (mTup (mCons (mTup (mCons (mVar 5) mNil)) (mCons (mTup mNil) (mCons (mTup (mCons (mTup (mCons (mC (.str "count")) mNil)) mNil)) (mCons (mTup mNil) mNil))))))
 (mSeq (mIfS (mB (m2 neD (mCall M_heads (mAv (mVar 2) (mAv (mVar 9) mANil))) (mTup (mCons (mCall L_heads_k04 (mAv (mLst L_law_k04_c1) mANil)) (mCons (mLst (mDsp (mCons (mTup mNil) mNil))) mNil))))) (mRet (mC (.bool false))) mNx)
 L_law_k04_l0))))
noncomputable def L_law_k04_l1 : MS :=
 (mFor (mIt (mVar 4)) (gNm 5) L_law_k04_b1)
noncomputable def L_law_k04_c3 : ML :=
 (mLc (mIt (m2 ixD (mVar 2) (mC (.int 1)))) (gNm 8) mYes (mTup (mCons (mCall L_made (mAv (m2 ixD (mVar 8) (mC (.int 0))) (mAv (m2 ixD (mVar 4) (mC (.int 1))) mANil))) (mCons (mCall L_made (mAv (m2 ixD (mVar 8) (mC (.int 1))) (mAv (m2 ixD (mVar 4) (mC (.int 0))) mANil))) mNil))) [8])
noncomputable def L_law_k04_c4 : ML :=
 (mLc (mIt (m2 ixD (mVar 2) (mC (.int 1)))) (gNm 8) mYes (mTup (mCons (m2 ixD (mVar 8) (mC (.int 0))) mNil)) [8])
noncomputable def L_law_k04 : Mir := mFn 1 14
 ((mSeq (mSetO 1 (mDsp mNil))
 (mSeq (mSet 2 (mCall L_rows_of (mAr 0 (mAb 1 mANil))))
 (mSeq (mSet 3 (mCall L_pick (mAr 0 (mAb 1 (mAv (mLst (mDsp (mCons (mC (.int 1)) (mCons (mC (.int 2)) (mCons (mC (.int 3)) (mCons (mC (.int 7)) (mCons (mC (.int 10)) (mCons (mC (.int 999999)) (mCons (mC (.int 1000000)) mNil))))))))) mANil)))))
 (mSeq (mSet 4 (mLst (mDsp (mCons (mTup (mCons (mC (.str "band")) (mCons (mC (.str "n")) (mCons (mVar 3) mNil)))) (mCons (mTup (mCons (mC (.str "first")) (mCons (mC (.str "w")) (mCons (m2 addD (mC (.int 1)) (mCall L_draw (mAr 0 (mAb 1 (mAv (mC (.int 8)) mANil))))) mNil)))) (mCons (mC (.str "w")) (mCons (mC (.str "n")) mNil)))))))
 (mSeq L_law_k04_l1
 (mSeq (mSet 12 (mTup (mCons (m2 ixD (mVar 4) (mC (.int 1))) (mCons (m2 ixD (mVar 4) (mC (.int 0))) mNil))))
 (mSeq (mSet 13 (mLst L_law_k04_c3))
 (mSeq (mSet 14 (mCall M_heads (mAv (mVar 2) (mAv (mTup (mCons (mTup (mCons (m2 ixD (mVar 4) (mC (.int 2))) mNil)) (mCons (mVar 12) (mCons (mTup (mCons (mTup (mCons (mC (.str "count")) mNil)) mNil)) (mCons (mTup mNil) mNil))))) mANil))))
 (mRet (m2 eqD (mVar 14) (mTup (mCons (mCall L_heads_k04 (mAv (mLst L_law_k04_c4) mANil)) (mCons (mCall L_heads_k04 (mAv (mVar 13) mANil)) mNil))))))))))))))
end VL

set_option Elab.async false
set_option linter.all false
set_option maxRecDepth 100000
set_option maxHeartbeats 4000000
/-! Math_k04: keys. -/
namespace VL
open PySem L2
/-! ### tables of two columns -/
def cs04 : List Col := [⟨Str.ofString "w", false⟩, ⟨Str.ofString "n", true⟩]
theorem cs04_ok : ColsOk cs04 := ⟨by decide, by decide, by decide +kernel, by decide +kernel⟩
theorem cs04_D : colsD cs04 = .tuple [.tuple [.str "w", .str "word"], .tuple [.str "n", .str "number"]] := rfl
theorem row04 {a b : PyData} (h1 : ValOk false a) (h2 : ValOk true b) : RowOk cs04 [a, b] := ⟨rfl, fun i c d hc hd => by
  match i, hc, hd with
  | 0, hc, hd => cases hc; cases hd; exact h1
  | 1, hc, hd => cases hc; cases hd; exact h2⟩
theorem row04_of {r : List PyData} (h : RowOk cs04 r) : ∃ a b, r = [a, b] ∧ ValOk false a ∧ ValOk true b := by
  have hl := h.len
  match r, hl, h with
  | [a, b], _, h => exact ⟨a, b, rfl, h.val 0 _ a rfl rfl, h.val 1 _ b rfl rfl⟩
def num0 : List PyData := [.int 0, .int 9, .int 10, .int (-1), .int (-10), .int (-11), .int 1000000, .int (-1000000)]
theorem rows_of_ok (ns : List Int) (k : Nat) (hk : k + 1000 ≤ 1000000) : ∃ rs k', TabOk cs04 rs ∧ k ≤ k' ∧ k' ≤ k + 1000 ∧ L_rows_of [.scr ns, .bor (town k)] = .ok (tabD cs04 rs) [.un, .bor (town k')] := by
  obtain ⟨j, d, hj, e1⟩ := pick_ok ns k [.int 3, .int 9, .int 24] (by omega) (by simp)
  obtain ⟨m, hm, rfl⟩ : ∃ m : Nat, m ≤ 24 ∧ d = .int (m : Int) := by
    have := List.mem_of_getElem? hj
    simp only [List.mem_cons, List.not_mem_nil, or_false] at this
    rcases this with rfl | rfl | rfl
    · exact ⟨3, by decide, rfl⟩
    · exact ⟨9, by decide, rfl⟩
    · exact ⟨24, by decide, rfl⟩
  have rg := range1_n m (by omega)
  let St : Nat → List (List PyData) → Sl → Sl → Sl → VL.R := fun k rs s3 s4 s5 => [.scr ns, .bor (town k), .own (rs.map .tuple), s3, s4, s5]
  have f0 : fits 0 = true := rfl
  have f1 : fits 1 = true := rfl
  have f2 : fits 2 = true := rfl
  have f3 : fits 3 = true := rfl
  have f8 : fits 8 = true := rfl
  obtain ⟨fl, ρ, e2, rfl, rs, k', s3, s4, s5, hr, hl, g1, g2, rfl⟩ := mFor_inv (fs := mItA range1D (mCons (mCall L_pick (mAr 0 (mAb 1 (mAv (mLst (mDsp (mCons (mC (.int 3)) (mCons (mC (.int 9)) (mCons (mC (.int 24)) mNil))))) mANil)))) mNil)) (g := gNm 3) (m := L_rows_of_b0)
    (ρ := St k [] .un .un .un)
    (P := fun fl ρ => fl = .nx ∧ ∃ (rs : List (List PyData)) (k' : Nat) (s3 s4 s5 : Sl), (∀ r ∈ rs, RowOk cs04 r) ∧ rs.length ≤ m ∧ k ≤ k' ∧ k' ≤ k + 1 + 30 * m ∧ ρ = St k' rs s3 s4 s5)
    (fun i ρ => ∃ (rs : List (List PyData)) (k' : Nat) (s3 s4 s5 : Sl), (∀ r ∈ rs, RowOk cs04 r) ∧ rs.length ≤ i ∧ k ≤ k' ∧ k' ≤ k + 1 + 30 * i ∧ ρ = St k' rs s3 s4 s5)
    ((List.range m).map fun i => .int ((i : Nat) : Int)) (ρ0 := St (k + 1) [] .un .un .un) (by simp only [St]; simp only [mSeq, mSet, mSetO, mSet2, mRet, mRetN, mDrop, mIfS, mIf, mB, mTru, mAnd, mOr, mNot, mAndV, mOrV, mNotV, mChain, mRaise, mNx, m1, m2, mN, mNL, mVar, mC, mNil, mCons, mLst, mTup, mDsp, mCall, mANil, mAv, mAr, mAb, hasR, hasB, toSl, VL.bs, back, mMut, heldR, setR, peekR, mLenP, mLenO, mRd, mItA, mIt, mAsg, gNm, gTp, gSeq, mYes, mSl, mPs, mPn, mKn, ok_bind, Oc.bind, Oc.opt, lenD_l, lenD_t, tupD, truD, isi_str_str, isi_str_tup, isi_str_int, isi_str_non, isi_str_lst, isi_tup_tup, isi_tup_lst, isi_tup_str, isi_tup_int, isi_tup_non, isi_lst_lst, isi_lst_tup, isi_int_int, isi_int_str, isi_int_non, isi_bool_int, isi_int_tup, isi_bool_tup, isi_bool_str, isi_bool_non, isi_lst_str, isi_lst_int, isi_lst_non, isD, isntD, isNoneD, addD_i, subD_i, seqD, appendD, List.replicate, List.append_nil, List.cons_append, List.nil_append, List.getElem?_cons_zero, List.getElem?_cons_succ, List.set_cons_zero, List.set_cons_succ, List.length_cons, List.length_nil, List.nodup_nil, List.nodup_cons, List.not_mem_nil, not_false_eq_true, and_self, Option.map, if_true, if_false, Bool.false_eq_true, Bool.not_true, Bool.not_false, Bool.and_true, Bool.true_and, Bool.false_and, Bool.and_false, finR, Sl.fin, wipeR, restR, List.getD_cons_zero, List.getD_cons_succ, decide_true, decide_false, Nat.reduceAdd, Nat.reduceLT, f3, e1, rg]) ⟨[], k + 1, .un, .un, .un, by simp, by simp, by omega, by omega, rfl⟩
    (by
      rintro i d ρ hd ⟨rs, k', s3, s4, s5, hr, hl, g1, g2, rfl⟩
      have hi : i < m := by
        have := (List.getElem?_eq_some_iff.mp hd).1
        simpa using this
      obtain ⟨q, hq, e3⟩ := draw_ex ns k' 99 (by omega) (by decide)
      obtain ⟨j2, d2, hj2, e4⟩ := pick_ok ns (k' + 1) (num0 ++ [.int ((q : Int) - 50)]) (by omega) (by simp)
      have hv : ValOk true d2 := by
        have := List.mem_of_getElem? hj2
        simp only [num0, List.cons_append, List.nil_append, List.mem_cons, List.not_mem_nil, or_false] at this
        rcases this with rfl | rfl | rfl | rfl | rfl | rfl | rfl | rfl | rfl <;> exact .inr (.inl ⟨rfl, _, rfl, by omega, by omega⟩)
      obtain ⟨v, k2, hv1, g3, g4, e5⟩ := value_ok ns (k' + 1 + 1) false (by omega)
      obtain ⟨u, hu, e6⟩ := draw_ex ns k2 7 (by omega) (by decide)
      have ea : addD (.list num0) (.list [.int ((q : Int) - 50)]) = some (.list (num0 ++ [.int ((q : Int) - 50)])) := addD_l (by simp [num0])
      have e5 : L_value [.scr ns, .bor (town (k' + 1 + 1)), .val (.str "word")] = .ok v [.un, .bor (town k2), .un] := e5
      obtain ⟨w, hw, hwe⟩ : ∃ w, ValOk true w ∧ w = (if (u : Int) = 0 then .none else d2) := by
        refine ⟨_, ?_, rfl⟩
        split
        · exact .inl rfl
        · exact hv
      have fa : fits ((rs.map PyData.tuple).length + 1) = true := decide_eq_true (by rw [List.length_map]; omega)
      have et : (rs.map PyData.tuple) ++ [.tuple [v, w]] = (rs ++ [[v, w]]).map .tuple := by rw [List.map_append]; rfl
      refine ⟨St k' rs (.val d) s4 s5, rfl, .nx, St (k2 + 1) (rs ++ [[v, w]]) (.val d) (.val (.list num0)) (.val d2), ?_, rs ++ [[v, w]], k2 + 1, _, _, _, ?_, by simp; omega, by omega, by omega, rfl⟩
      · unfold L_rows_of_b0
        refine seq_to (ρ1 := St k' rs (.val d) (.val (.list num0)) s5) (by simp only [St, num0]; simp only [mSeq, mSet, mSetO, mSet2, mRet, mRetN, mDrop, mIfS, mIf, mB, mTru, mAnd, mOr, mNot, mAndV, mOrV, mNotV, mChain, mRaise, mNx, m1, m2, mN, mNL, mVar, mC, mNil, mCons, mLst, mTup, mDsp, mCall, mANil, mAv, mAr, mAb, hasR, hasB, toSl, VL.bs, back, mMut, heldR, setR, peekR, mLenP, mLenO, mRd, mItA, mIt, mAsg, gNm, gTp, gSeq, mYes, mSl, mPs, mPn, mKn, ok_bind, Oc.bind, Oc.opt, lenD_l, lenD_t, tupD, truD, isi_str_str, isi_str_tup, isi_str_int, isi_str_non, isi_str_lst, isi_tup_tup, isi_tup_lst, isi_tup_str, isi_tup_int, isi_tup_non, isi_lst_lst, isi_lst_tup, isi_int_int, isi_int_str, isi_int_non, isi_bool_int, isi_int_tup, isi_bool_tup, isi_bool_str, isi_bool_non, isi_lst_str, isi_lst_int, isi_lst_non, isD, isntD, isNoneD, addD_i, subD_i, seqD, appendD, List.replicate, List.append_nil, List.cons_append, List.nil_append, List.getElem?_cons_zero, List.getElem?_cons_succ, List.set_cons_zero, List.set_cons_succ, List.length_cons, List.length_nil, List.nodup_nil, List.nodup_cons, List.not_mem_nil, not_false_eq_true, and_self, Option.map, if_true, if_false, Bool.false_eq_true, Bool.not_true, Bool.not_false, Bool.and_true, Bool.true_and, Bool.false_and, Bool.and_false, finR, Sl.fin, wipeR, restR, List.getD_cons_zero, List.getD_cons_succ, decide_true, decide_false, Nat.reduceAdd, Nat.reduceLT, f8, Int.zero_sub]) ?_
        refine seq_to (ρ1 := St (k' + 1 + 1) rs (.val d) (.val (.list num0)) (.val d2)) (by simp only [St]; simp only [mSeq, mSet, mSetO, mSet2, mRet, mRetN, mDrop, mIfS, mIf, mB, mTru, mAnd, mOr, mNot, mAndV, mOrV, mNotV, mChain, mRaise, mNx, m1, m2, mN, mNL, mVar, mC, mNil, mCons, mLst, mTup, mDsp, mCall, mANil, mAv, mAr, mAb, hasR, hasB, toSl, VL.bs, back, mMut, heldR, setR, peekR, mLenP, mLenO, mRd, mItA, mIt, mAsg, gNm, gTp, gSeq, mYes, mSl, mPs, mPn, mKn, ok_bind, Oc.bind, Oc.opt, lenD_l, lenD_t, tupD, truD, isi_str_str, isi_str_tup, isi_str_int, isi_str_non, isi_str_lst, isi_tup_tup, isi_tup_lst, isi_tup_str, isi_tup_int, isi_tup_non, isi_lst_lst, isi_lst_tup, isi_int_int, isi_int_str, isi_int_non, isi_bool_int, isi_int_tup, isi_bool_tup, isi_bool_str, isi_bool_non, isi_lst_str, isi_lst_int, isi_lst_non, isD, isntD, isNoneD, addD_i, subD_i, seqD, appendD, List.replicate, List.append_nil, List.cons_append, List.nil_append, List.getElem?_cons_zero, List.getElem?_cons_succ, List.set_cons_zero, List.set_cons_succ, List.length_cons, List.length_nil, List.nodup_nil, List.nodup_cons, List.not_mem_nil, not_false_eq_true, and_self, Option.map, if_true, if_false, Bool.false_eq_true, Bool.not_true, Bool.not_false, Bool.and_true, Bool.true_and, Bool.false_and, Bool.and_false, finR, Sl.fin, wipeR, restR, List.getD_cons_zero, List.getD_cons_succ, decide_true, decide_false, Nat.reduceAdd, Nat.reduceLT, f1, e3, ea, e4]) ?_
        by_cases c : (u : Int) = 0
        · rw [if_pos c] at hwe
          subst hwe
          have c1 : eqD (.int (u : Int)) (.int 0) = some (.bool true) := by rw [eqD_i, decide_eq_true c]
          simp only [St]
          simp only [mSeq, mSet, mSetO, mSet2, mRet, mRetN, mDrop, mIfS, mIf, mB, mTru, mAnd, mOr, mNot, mAndV, mOrV, mNotV, mChain, mRaise, mNx, m1, m2, mN, mNL, mVar, mC, mNil, mCons, mLst, mTup, mDsp, mCall, mANil, mAv, mAr, mAb, hasR, hasB, toSl, VL.bs, back, mMut, heldR, setR, peekR, mLenP, mLenO, mRd, mItA, mIt, mAsg, gNm, gTp, gSeq, mYes, mSl, mPs, mPn, mKn, ok_bind, Oc.bind, Oc.opt, lenD_l, lenD_t, tupD, truD, isi_str_str, isi_str_tup, isi_str_int, isi_str_non, isi_str_lst, isi_tup_tup, isi_tup_lst, isi_tup_str, isi_tup_int, isi_tup_non, isi_lst_lst, isi_lst_tup, isi_int_int, isi_int_str, isi_int_non, isi_bool_int, isi_int_tup, isi_bool_tup, isi_bool_str, isi_bool_non, isi_lst_str, isi_lst_int, isi_lst_non, isD, isntD, isNoneD, addD_i, subD_i, seqD, appendD, List.replicate, List.append_nil, List.cons_append, List.nil_append, List.getElem?_cons_zero, List.getElem?_cons_succ, List.set_cons_zero, List.set_cons_succ, List.length_cons, List.length_nil, List.nodup_nil, List.nodup_cons, List.not_mem_nil, not_false_eq_true, and_self, Option.map, if_true, if_false, Bool.false_eq_true, Bool.not_true, Bool.not_false, Bool.and_true, Bool.true_and, Bool.false_and, Bool.and_false, finR, Sl.fin, wipeR, restR, List.getD_cons_zero, List.getD_cons_succ, decide_true, decide_false, Nat.reduceAdd, Nat.reduceLT, e5, e6, c1, f2, fa, et]
        · rw [if_neg c] at hwe
          subst hwe
          have c1 : eqD (.int (u : Int)) (.int 0) = some (.bool false) := by rw [eqD_i, decide_eq_false c]
          simp only [St]
          simp only [mSeq, mSet, mSetO, mSet2, mRet, mRetN, mDrop, mIfS, mIf, mB, mTru, mAnd, mOr, mNot, mAndV, mOrV, mNotV, mChain, mRaise, mNx, m1, m2, mN, mNL, mVar, mC, mNil, mCons, mLst, mTup, mDsp, mCall, mANil, mAv, mAr, mAb, hasR, hasB, toSl, VL.bs, back, mMut, heldR, setR, peekR, mLenP, mLenO, mRd, mItA, mIt, mAsg, gNm, gTp, gSeq, mYes, mSl, mPs, mPn, mKn, ok_bind, Oc.bind, Oc.opt, lenD_l, lenD_t, tupD, truD, isi_str_str, isi_str_tup, isi_str_int, isi_str_non, isi_str_lst, isi_tup_tup, isi_tup_lst, isi_tup_str, isi_tup_int, isi_tup_non, isi_lst_lst, isi_lst_tup, isi_int_int, isi_int_str, isi_int_non, isi_bool_int, isi_int_tup, isi_bool_tup, isi_bool_str, isi_bool_non, isi_lst_str, isi_lst_int, isi_lst_non, isD, isntD, isNoneD, addD_i, subD_i, seqD, appendD, List.replicate, List.append_nil, List.cons_append, List.nil_append, List.getElem?_cons_zero, List.getElem?_cons_succ, List.set_cons_zero, List.set_cons_succ, List.length_cons, List.length_nil, List.nodup_nil, List.nodup_cons, List.not_mem_nil, not_false_eq_true, and_self, Option.map, if_true, if_false, Bool.false_eq_true, Bool.not_true, Bool.not_false, Bool.and_true, Bool.true_and, Bool.false_and, Bool.and_false, finR, Sl.fin, wipeR, restR, List.getD_cons_zero, List.getD_cons_succ, decide_true, decide_false, Nat.reduceAdd, Nat.reduceLT, e5, e6, c1, f2, fa, et]
      · intro r hr'
        rcases List.mem_append.mp hr' with hr' | hr'
        · exact hr r hr'
        · rw [List.mem_singleton.mp hr']; exact row04 hv1 hw)
    (by
      rintro ρ ⟨rs, k', s3, s4, s5, hr, hl, g1, g2, rfl⟩
      rw [List.length_map, List.length_range] at hl g2
      exact ⟨rfl, rs, k', s3, s4, s5, hr, hl, g1, g2, rfl⟩)
  refine ⟨rs, k', ⟨cs04_ok, by omega, hr⟩, by omega, by omega, ?_⟩
  refine fn_to (ρ := [.scr ns, .bor (town k'), .val (rowsD rs), s3, s4, s5]) rfl rfl ?_ rfl
  refine seq_to (ρ1 := St k [] .un .un .un) (by simp only [St]; simp only [mSeq, mSet, mSetO, mSet2, mRet, mRetN, mDrop, mIfS, mIf, mB, mTru, mAnd, mOr, mNot, mAndV, mOrV, mNotV, mChain, mRaise, mNx, m1, m2, mN, mNL, mVar, mC, mNil, mCons, mLst, mTup, mDsp, mCall, mANil, mAv, mAr, mAb, hasR, hasB, toSl, VL.bs, back, mMut, heldR, setR, peekR, mLenP, mLenO, mRd, mItA, mIt, mAsg, gNm, gTp, gSeq, mYes, mSl, mPs, mPn, mKn, ok_bind, Oc.bind, Oc.opt, lenD_l, lenD_t, tupD, truD, isi_str_str, isi_str_tup, isi_str_int, isi_str_non, isi_str_lst, isi_tup_tup, isi_tup_lst, isi_tup_str, isi_tup_int, isi_tup_non, isi_lst_lst, isi_lst_tup, isi_int_int, isi_int_str, isi_int_non, isi_bool_int, isi_int_tup, isi_bool_tup, isi_bool_str, isi_bool_non, isi_lst_str, isi_lst_int, isi_lst_non, isD, isntD, isNoneD, addD_i, subD_i, seqD, appendD, List.replicate, List.append_nil, List.cons_append, List.nil_append, List.getElem?_cons_zero, List.getElem?_cons_succ, List.set_cons_zero, List.set_cons_succ, List.length_cons, List.length_nil, List.nodup_nil, List.nodup_cons, List.not_mem_nil, not_false_eq_true, and_self, Option.map, if_true, if_false, Bool.false_eq_true, Bool.not_true, Bool.not_false, Bool.and_true, Bool.true_and, Bool.false_and, Bool.and_false, finR, Sl.fin, wipeR, restR, List.getD_cons_zero, List.getD_cons_succ, decide_true, decide_false, Nat.reduceAdd, Nat.reduceLT, f0]; rfl) ?_
  refine seq_to e2 ?_
  simp only [St]
  simp only [mSeq, mSet, mSetO, mSet2, mRet, mRetN, mDrop, mIfS, mIf, mB, mTru, mAnd, mOr, mNot, mAndV, mOrV, mNotV, mChain, mRaise, mNx, m1, m2, mN, mNL, mVar, mC, mNil, mCons, mLst, mTup, mDsp, mCall, mANil, mAv, mAr, mAb, hasR, hasB, toSl, VL.bs, back, mMut, heldR, setR, peekR, mLenP, mLenO, mRd, mItA, mIt, mAsg, gNm, gTp, gSeq, mYes, mSl, mPs, mPn, mKn, ok_bind, Oc.bind, Oc.opt, lenD_l, lenD_t, tupD, truD, isi_str_str, isi_str_tup, isi_str_int, isi_str_non, isi_str_lst, isi_tup_tup, isi_tup_lst, isi_tup_str, isi_tup_int, isi_tup_non, isi_lst_lst, isi_lst_tup, isi_int_int, isi_int_str, isi_int_non, isi_bool_int, isi_int_tup, isi_bool_tup, isi_bool_str, isi_bool_non, isi_lst_str, isi_lst_int, isi_lst_non, isD, isntD, isNoneD, addD_i, subD_i, seqD, appendD, List.replicate, List.append_nil, List.cons_append, List.nil_append, List.getElem?_cons_zero, List.getElem?_cons_succ, List.set_cons_zero, List.set_cons_succ, List.length_cons, List.length_nil, List.nodup_nil, List.nodup_cons, List.not_mem_nil, not_false_eq_true, and_self, Option.map, if_true, if_false, Bool.false_eq_true, Bool.not_true, Bool.not_false, Bool.and_true, Bool.true_and, Bool.false_and, Bool.and_false, finR, Sl.fin, wipeR, restR, List.getD_cons_zero, List.getD_cons_succ, decide_true, decide_false, Nat.reduceAdd, Nat.reduceLT, f2]
  rfl
/-! ### what a key makes of a value -/
theorem fdiv_up {v w : Int} (hw : 0 < w) : (if 0 - (0 - v) / w * w > v then 0 - (0 - v) / w * w - w else 0 - (0 - v) / w * w) = v / w * w := by
  have e1 := Int.mul_ediv_add_emod v w
  have e2 := Int.mul_ediv_add_emod (0 - v) w
  have r1 := Int.emod_nonneg v (show w ≠ 0 by omega)
  have r2 := Int.emod_lt_of_pos v hw
  have r3 := Int.emod_nonneg (0 - v) (show w ≠ 0 by omega)
  have r4 := Int.emod_lt_of_pos (0 - v) hw
  rw [Int.mul_comm] at e1 e2
  have hd : w ∣ (v % w + (0 - v) % w) := by
    refine ⟨0 - v / w - (0 - v) / w, ?_⟩
    have a1 : w * (0 - v / w - (0 - v) / w) = 0 - v / w * w - (0 - v) / w * w := by rw [Int.mul_sub, Int.mul_sub, Int.mul_comm w (v / w), Int.mul_comm w ((0 - v) / w)]; omega
    omega
  obtain ⟨c, hc⟩ := hd
  have c0 : 0 ≤ c := by
    by_cases h : 0 ≤ c
    · exact h
    · have := Int.mul_le_mul_of_nonneg_left (show c ≤ -1 by omega) (show 0 ≤ w by omega)
      omega
  have c1 : c ≤ 1 := by
    by_cases h : c ≤ 1
    · exact h
    · have := Int.mul_le_mul_of_nonneg_left (show 2 ≤ c by omega) (show 0 ≤ w by omega)
      omega
  have c2 : c = 0 ∨ c = 1 := by omega
  rcases c2 with rfl | rfl
  · rw [Int.mul_zero] at hc
    split <;> omega
  · rw [Int.mul_one] at hc
    split <;> omega
theorem take_word (cs : List Nat) (w : Int) (h : 1 ≤ w) : cutS (SX.S cs) none (some w) = SX.S (cs.take w.toNat) := by
  rw [C8.cutS_slice, SX.slice_to (by omega)]
theorem made_fst (y : Str) (hy : y.length ≤ 8) (z : Str) (w : Int) (h1 : 1 ≤ w) (h2 : w ≤ 8) : L_made [.val (.str y), .val (.tuple [.str "first", .str z, .int w])] = .ok (.str (cutS y none (some w))) [.un, .un] := by
  obtain ⟨cs, rfl⟩ : ∃ cs, y = SX.S cs := ⟨_, (SX.S_tl y).symm⟩
  rw [SX.S_len] at hy
  rw [take_word cs w h1]
  have x0 : ixD (.tuple [.str "first", .str z, .int w]) (.int 0) = some (.str "first") := rfl
  have x2 : ixD (.tuple [.str "first", .str z, .int w]) (.int 2) = some (.int w) := rfl
  let St : List Nat → Sl → VL.R := fun a s3 => [.val (.str (SX.S cs)), .val (.tuple [.str "first", .str z, .int w]), .val (.str (SX.S a)), s3, .un]
  obtain ⟨fl, ρ, e1, rfl, s3, rfl⟩ := mFor_inv (fs := mItS (mVar 0)) (g := gNm 3) (m := L_made_b0) (ρ := St [] .un)
    (P := fun fl ρ => fl = .nx ∧ ∃ s3 : Sl, ρ = St (cs.take w.toNat) s3)
    (fun i ρ => ∃ s3 : Sl, ρ = St (cs.take (min i w.toNat)) s3) (cs.map fun c => .str ⟨#[c]⟩) (ρ0 := St [] .un) (by
      have : signsD (.str (SX.S cs)) = some (cs.map fun c => .str ⟨#[c]⟩) := rfl
      simp only [St]
      simp only [mSeq, mSet, mSetO, mSet2, mRet, mRetN, mDrop, mIfS, mIf, mB, mTru, mAnd, mOr, mNot, mAndV, mOrV, mNotV, mChain, mRaise, mNx, m1, m2, mN, mNL, mVar, mC, mNil, mCons, mLst, mTup, mDsp, mCall, mANil, mAv, mAr, mAb, hasR, hasB, toSl, VL.bs, back, mMut, heldR, setR, peekR, mLenP, mLenO, mRd, mItA, mIt, mAsg, gNm, gTp, gSeq, mYes, mSl, mPs, mPn, mKn, ok_bind, Oc.bind, Oc.opt, lenD_l, lenD_t, tupD, truD, isi_str_str, isi_str_tup, isi_str_int, isi_str_non, isi_str_lst, isi_tup_tup, isi_tup_lst, isi_tup_str, isi_tup_int, isi_tup_non, isi_lst_lst, isi_lst_tup, isi_int_int, isi_int_str, isi_int_non, isi_bool_int, isi_int_tup, isi_bool_tup, isi_bool_str, isi_bool_non, isi_lst_str, isi_lst_int, isi_lst_non, isD, isntD, isNoneD, addD_i, subD_i, seqD, appendD, List.replicate, List.append_nil, List.cons_append, List.nil_append, List.getElem?_cons_zero, List.getElem?_cons_succ, List.set_cons_zero, List.set_cons_succ, List.length_cons, List.length_nil, List.nodup_nil, List.nodup_cons, List.not_mem_nil, not_false_eq_true, and_self, Option.map, if_true, if_false, Bool.false_eq_true, Bool.not_true, Bool.not_false, Bool.and_true, Bool.true_and, Bool.false_and, Bool.and_false, finR, Sl.fin, wipeR, restR, List.getD_cons_zero, List.getD_cons_succ, decide_true, decide_false, Nat.reduceAdd, Nat.reduceLT, mItS, this]) ⟨.un, by simp [St]⟩
    (by
      rintro i d ρ hd ⟨s3, rfl⟩
      have hi : i < cs.length := by
        have := (List.getElem?_eq_some_iff.mp hd).1
        simpa using this
      have hc : cs[i]? = some cs[i] := List.getElem?_eq_getElem hi
      rw [List.getElem?_map, hc] at hd
      cases hd
      have hlen : (cs.take (min i w.toNat)).length = min i w.toNat := by rw [List.length_take]; omega
      have ll : lenD [.str (SX.S (cs.take (min i w.toNat)))] = some (.int ((min i w.toNat : Nat) : Int)) := by
        rw [lenD_s (by rw [SX.S_len, hlen]; omega), SX.S_len, hlen]
      refine ⟨St (cs.take (min i w.toNat)) (.val (.str ⟨#[cs[i]]⟩)), rfl, .nx, St (cs.take (min (i + 1) w.toNat)) (.val (.str ⟨#[cs[i]]⟩)), ?_, _, rfl⟩
      unfold L_made_b0
      by_cases c : ((min i w.toNat : Nat) : Int) < w
      · have c1 := ltD_t c
        have ad : addD (.str (SX.S (cs.take (min i w.toNat)))) (.str ⟨#[cs[i]]⟩) = some (.str (SX.S (cs.take (min (i + 1) w.toNat)))) := by
          show (if fits _ = true then some (PyData.str (SX.S (cs.take (min i w.toNat)) ++ SX.S [cs[i]])) else none) = _
          rw [if_pos (show fits ((SX.S (cs.take (min i w.toNat))).length + (⟨#[cs[i]]⟩ : Str).length) = true from decide_eq_true (by rw [SX.S_len, hlen]; show min i w.toNat + 1 ≤ 16777216; omega)), SX.S_cat]
          congr 3
          rw [show min i w.toNat = i by omega, show min (i + 1) w.toNat = i + 1 by omega, List.take_add_one, hc]
          rfl
        simp only [St]
        simp only [mSeq, mSet, mSetO, mSet2, mRet, mRetN, mDrop, mIfS, mIf, mB, mTru, mAnd, mOr, mNot, mAndV, mOrV, mNotV, mChain, mRaise, mNx, m1, m2, mN, mNL, mVar, mC, mNil, mCons, mLst, mTup, mDsp, mCall, mANil, mAv, mAr, mAb, hasR, hasB, toSl, VL.bs, back, mMut, heldR, setR, peekR, mLenP, mLenO, mRd, mItA, mIt, mAsg, gNm, gTp, gSeq, mYes, mSl, mPs, mPn, mKn, ok_bind, Oc.bind, Oc.opt, lenD_l, lenD_t, tupD, truD, isi_str_str, isi_str_tup, isi_str_int, isi_str_non, isi_str_lst, isi_tup_tup, isi_tup_lst, isi_tup_str, isi_tup_int, isi_tup_non, isi_lst_lst, isi_lst_tup, isi_int_int, isi_int_str, isi_int_non, isi_bool_int, isi_int_tup, isi_bool_tup, isi_bool_str, isi_bool_non, isi_lst_str, isi_lst_int, isi_lst_non, isD, isntD, isNoneD, addD_i, subD_i, seqD, appendD, List.replicate, List.append_nil, List.cons_append, List.nil_append, List.getElem?_cons_zero, List.getElem?_cons_succ, List.set_cons_zero, List.set_cons_succ, List.length_cons, List.length_nil, List.nodup_nil, List.nodup_cons, List.not_mem_nil, not_false_eq_true, and_self, Option.map, if_true, if_false, Bool.false_eq_true, Bool.not_true, Bool.not_false, Bool.and_true, Bool.true_and, Bool.false_and, Bool.and_false, finR, Sl.fin, wipeR, restR, List.getD_cons_zero, List.getD_cons_succ, decide_true, decide_false, Nat.reduceAdd, Nat.reduceLT, ll, x2, c1, ad]
      · have c1 := ltD_f c
        rw [show min (i + 1) w.toNat = min i w.toNat by omega]
        simp only [St]
        simp only [mSeq, mSet, mSetO, mSet2, mRet, mRetN, mDrop, mIfS, mIf, mB, mTru, mAnd, mOr, mNot, mAndV, mOrV, mNotV, mChain, mRaise, mNx, m1, m2, mN, mNL, mVar, mC, mNil, mCons, mLst, mTup, mDsp, mCall, mANil, mAv, mAr, mAb, hasR, hasB, toSl, VL.bs, back, mMut, heldR, setR, peekR, mLenP, mLenO, mRd, mItA, mIt, mAsg, gNm, gTp, gSeq, mYes, mSl, mPs, mPn, mKn, ok_bind, Oc.bind, Oc.opt, lenD_l, lenD_t, tupD, truD, isi_str_str, isi_str_tup, isi_str_int, isi_str_non, isi_str_lst, isi_tup_tup, isi_tup_lst, isi_tup_str, isi_tup_int, isi_tup_non, isi_lst_lst, isi_lst_tup, isi_int_int, isi_int_str, isi_int_non, isi_bool_int, isi_int_tup, isi_bool_tup, isi_bool_str, isi_bool_non, isi_lst_str, isi_lst_int, isi_lst_non, isD, isntD, isNoneD, addD_i, subD_i, seqD, appendD, List.replicate, List.append_nil, List.cons_append, List.nil_append, List.getElem?_cons_zero, List.getElem?_cons_succ, List.set_cons_zero, List.set_cons_succ, List.length_cons, List.length_nil, List.nodup_nil, List.nodup_cons, List.not_mem_nil, not_false_eq_true, and_self, Option.map, if_true, if_false, Bool.false_eq_true, Bool.not_true, Bool.not_false, Bool.and_true, Bool.true_and, Bool.false_and, Bool.and_false, finR, Sl.fin, wipeR, restR, List.getD_cons_zero, List.getD_cons_succ, decide_true, decide_false, Nat.reduceAdd, Nat.reduceLT, ll, x2, c1])
    (by
      rintro ρ ⟨s3, rfl⟩
      refine ⟨rfl, s3, ?_⟩
      rw [List.length_map]
      have : cs.take (min cs.length w.toNat) = cs.take w.toNat := by rw [List.take_eq_take_iff]; omega
      rw [this])
  have hb : decide (Str.ofString "first" = Str.ofString "first") = true := by decide +kernel
  have el : L_made_l0 [.val (.str (SX.S cs)), .val (.tuple [.str "first", .str z, .int w]), .val (.str (SX.S [])), .un, .un] = .ok .nx (St (cs.take w.toNat) s3) := e1
  rw [← empty_str] at el
  simp only [St] at el
  unfold L_made mFn
  simp only [mSeq, mSet, mSetO, mSet2, mRet, mRetN, mDrop, mIfS, mIf, mB, mTru, mAnd, mOr, mNot, mAndV, mOrV, mNotV, mChain, mRaise, mNx, m1, m2, mN, mNL, mVar, mC, mNil, mCons, mLst, mTup, mDsp, mCall, mANil, mAv, mAr, mAb, hasR, hasB, toSl, VL.bs, back, mMut, heldR, setR, peekR, mLenP, mLenO, mRd, mItA, mIt, mAsg, gNm, gTp, gSeq, mYes, mSl, mPs, mPn, mKn, ok_bind, Oc.bind, Oc.opt, lenD_l, lenD_t, tupD, truD, isi_str_str, isi_str_tup, isi_str_int, isi_str_non, isi_str_lst, isi_tup_tup, isi_tup_lst, isi_tup_str, isi_tup_int, isi_tup_non, isi_lst_lst, isi_lst_tup, isi_int_int, isi_int_str, isi_int_non, isi_bool_int, isi_int_tup, isi_bool_tup, isi_bool_str, isi_bool_non, isi_lst_str, isi_lst_int, isi_lst_non, isD, isntD, isNoneD, addD_i, subD_i, seqD, appendD, List.replicate, List.append_nil, List.cons_append, List.nil_append, List.getElem?_cons_zero, List.getElem?_cons_succ, List.set_cons_zero, List.set_cons_succ, List.length_cons, List.length_nil, List.nodup_nil, List.nodup_cons, List.not_mem_nil, not_false_eq_true, and_self, Option.map, if_true, if_false, Bool.false_eq_true, Bool.not_true, Bool.not_false, Bool.and_true, Bool.true_and, Bool.false_and, Bool.and_false, finR, Sl.fin, wipeR, restR, List.getD_cons_zero, List.getD_cons_succ, decide_true, decide_false, Nat.reduceAdd, Nat.reduceLT, x0, eqD_s, hb, el]
  rfl
def kyN : Ky → Str
  | .col z => z
  | .band z _ => z
  | .fst z _ => z
theorem made_ok {r : List PyData} (hr : RowOk cs04 r) {k : Ky} (hk : KyOk cs04 k) (i : Nat) (hi : plc cs04 (kyN k) = i) : L_made [.val (r.getD i .none), .val (kyD k)] = .ok (kv cs04 k r) [.un, .un] := by
  rw [kv_is cs04_ok hr hk]
  cases k with
  | col z =>
    have hi : plc cs04 z = i := hi
    simp only [kyV, hi]
    cases hd : r.getD i .none <;> (unfold L_made mFn kyD; simp only [mSeq, mSet, mSetO, mSet2, mRet, mRetN, mDrop, mIfS, mIf, mB, mTru, mAnd, mOr, mNot, mAndV, mOrV, mNotV, mChain, mRaise, mNx, m1, m2, mN, mNL, mVar, mC, mNil, mCons, mLst, mTup, mDsp, mCall, mANil, mAv, mAr, mAb, hasR, hasB, toSl, VL.bs, back, mMut, heldR, setR, peekR, mLenP, mLenO, mRd, mItA, mIt, mAsg, gNm, gTp, gSeq, mYes, mSl, mPs, mPn, mKn, ok_bind, Oc.bind, Oc.opt, lenD_l, lenD_t, tupD, truD, isi_str_str, isi_str_tup, isi_str_int, isi_str_non, isi_str_lst, isi_tup_tup, isi_tup_lst, isi_tup_str, isi_tup_int, isi_tup_non, isi_lst_lst, isi_lst_tup, isi_int_int, isi_int_str, isi_int_non, isi_bool_int, isi_int_tup, isi_bool_tup, isi_bool_str, isi_bool_non, isi_lst_str, isi_lst_int, isi_lst_non, isD, isntD, isNoneD, addD_i, subD_i, seqD, appendD, List.replicate, List.append_nil, List.cons_append, List.nil_append, List.getElem?_cons_zero, List.getElem?_cons_succ, List.set_cons_zero, List.set_cons_succ, List.length_cons, List.length_nil, List.nodup_nil, List.nodup_cons, List.not_mem_nil, not_false_eq_true, and_self, Option.map, if_true, if_false, Bool.false_eq_true, Bool.not_true, Bool.not_false, Bool.and_true, Bool.true_and, Bool.false_and, Bool.and_false, finR, Sl.fin, wipeR, restR, List.getD_cons_zero, List.getD_cons_succ, decide_true, decide_false, Nat.reduceAdd, Nat.reduceLT]; rfl)
  | band z w =>
    obtain ⟨⟨j, c, hj, rfl, hn⟩, h1, h2⟩ := hk
    have hi : plc cs04 c.n = i := hi
    obtain ⟨d, ha, hv, e⟩ := row_at hr hj
    have hat := at_plc cs04_ok hj ha
    rw [hi] at hat
    simp only [kyV, hi, hat]
    have x0 : ixD (.tuple [.str "band", .str c.n, .int w]) (.int 0) = some (.str "band") := rfl
    have x2 : ixD (.tuple [.str "band", .str c.n, .int w]) (.int 2) = some (.int w) := rfl
    have hb : decide (Str.ofString "band" = Str.ofString "first") = false := by decide +kernel
    rcases hv with rfl | ⟨_, v, rfl, h3, h4⟩ | ⟨h, _⟩
    · unfold L_made mFn kyD
      simp only [mSeq, mSet, mSetO, mSet2, mRet, mRetN, mDrop, mIfS, mIf, mB, mTru, mAnd, mOr, mNot, mAndV, mOrV, mNotV, mChain, mRaise, mNx, m1, m2, mN, mNL, mVar, mC, mNil, mCons, mLst, mTup, mDsp, mCall, mANil, mAv, mAr, mAb, hasR, hasB, toSl, VL.bs, back, mMut, heldR, setR, peekR, mLenP, mLenO, mRd, mItA, mIt, mAsg, gNm, gTp, gSeq, mYes, mSl, mPs, mPn, mKn, ok_bind, Oc.bind, Oc.opt, lenD_l, lenD_t, tupD, truD, isi_str_str, isi_str_tup, isi_str_int, isi_str_non, isi_str_lst, isi_tup_tup, isi_tup_lst, isi_tup_str, isi_tup_int, isi_tup_non, isi_lst_lst, isi_lst_tup, isi_int_int, isi_int_str, isi_int_non, isi_bool_int, isi_int_tup, isi_bool_tup, isi_bool_str, isi_bool_non, isi_lst_str, isi_lst_int, isi_lst_non, isD, isntD, isNoneD, addD_i, subD_i, seqD, appendD, List.replicate, List.append_nil, List.cons_append, List.nil_append, List.getElem?_cons_zero, List.getElem?_cons_succ, List.set_cons_zero, List.set_cons_succ, List.length_cons, List.length_nil, List.nodup_nil, List.nodup_cons, List.not_mem_nil, not_false_eq_true, and_self, Option.map, if_true, if_false, Bool.false_eq_true, Bool.not_true, Bool.not_false, Bool.and_true, Bool.true_and, Bool.false_and, Bool.and_false, finR, Sl.fin, wipeR, restR, List.getD_cons_zero, List.getD_cons_succ, decide_true, decide_false, Nat.reduceAdd, Nat.reduceLT]
      rfl
    · show L_made _ = .ok (.int (v / w * w)) _
      have up := fdiv_up (v := v) (w := w) (by omega)
      obtain ⟨⟨b1, b2⟩, b3, b4⟩ := band_lo h3 h4 h1 h2
      obtain ⟨⟨b5, b6⟩, b7, b8⟩ := band_lo (i := 0 - v) (by omega) (by omega) h1 h2
      have d1 : divD (.int v) (.int w) = some (.int (v / w)) := divD_i (by omega) (by omega)
      have d2 : divD (.int (0 - v)) (.int w) = some (.int ((0 - v) / w)) := divD_i (by omega) (by omega)
      have m1' : mulD (.int (v / w)) (.int w) = some (.int (v / w * w)) := mulD_i (by omega) (by omega)
      have m2' : mulD (.int ((0 - v) / w)) (.int w) = some (.int ((0 - v) / w * w)) := mulD_i (by omega) (by omega)
      have lo : v / w * w ≤ v := Int.ediv_mul_le v (by omega)
      by_cases c1 : v < 0
      · by_cases c2 : 0 - (0 - v) / w * w > v
        · rw [if_pos c2] at up
          rw [← up]
          unfold L_made mFn kyD
          simp only [mSeq, mSet, mSetO, mSet2, mRet, mRetN, mDrop, mIfS, mIf, mB, mTru, mAnd, mOr, mNot, mAndV, mOrV, mNotV, mChain, mRaise, mNx, m1, m2, mN, mNL, mVar, mC, mNil, mCons, mLst, mTup, mDsp, mCall, mANil, mAv, mAr, mAb, hasR, hasB, toSl, VL.bs, back, mMut, heldR, setR, peekR, mLenP, mLenO, mRd, mItA, mIt, mAsg, gNm, gTp, gSeq, mYes, mSl, mPs, mPn, mKn, ok_bind, Oc.bind, Oc.opt, lenD_l, lenD_t, tupD, truD, isi_str_str, isi_str_tup, isi_str_int, isi_str_non, isi_str_lst, isi_tup_tup, isi_tup_lst, isi_tup_str, isi_tup_int, isi_tup_non, isi_lst_lst, isi_lst_tup, isi_int_int, isi_int_str, isi_int_non, isi_bool_int, isi_int_tup, isi_bool_tup, isi_bool_str, isi_bool_non, isi_lst_str, isi_lst_int, isi_lst_non, isD, isntD, isNoneD, addD_i, subD_i, seqD, appendD, List.replicate, List.append_nil, List.cons_append, List.nil_append, List.getElem?_cons_zero, List.getElem?_cons_succ, List.set_cons_zero, List.set_cons_succ, List.length_cons, List.length_nil, List.nodup_nil, List.nodup_cons, List.not_mem_nil, not_false_eq_true, and_self, Option.map, if_true, if_false, Bool.false_eq_true, Bool.not_true, Bool.not_false, Bool.and_true, Bool.true_and, Bool.false_and, Bool.and_false, finR, Sl.fin, wipeR, restR, List.getD_cons_zero, List.getD_cons_succ, decide_true, decide_false, Nat.reduceAdd, Nat.reduceLT, x0, x2, eqD_s, hb, ltD_t c1, d1, d2, m1', m2', gtD_t c2]
          rfl
        · rw [if_neg c2] at up
          rw [← up]
          unfold L_made mFn kyD
          simp only [mSeq, mSet, mSetO, mSet2, mRet, mRetN, mDrop, mIfS, mIf, mB, mTru, mAnd, mOr, mNot, mAndV, mOrV, mNotV, mChain, mRaise, mNx, m1, m2, mN, mNL, mVar, mC, mNil, mCons, mLst, mTup, mDsp, mCall, mANil, mAv, mAr, mAb, hasR, hasB, toSl, VL.bs, back, mMut, heldR, setR, peekR, mLenP, mLenO, mRd, mItA, mIt, mAsg, gNm, gTp, gSeq, mYes, mSl, mPs, mPn, mKn, ok_bind, Oc.bind, Oc.opt, lenD_l, lenD_t, tupD, truD, isi_str_str, isi_str_tup, isi_str_int, isi_str_non, isi_str_lst, isi_tup_tup, isi_tup_lst, isi_tup_str, isi_tup_int, isi_tup_non, isi_lst_lst, isi_lst_tup, isi_int_int, isi_int_str, isi_int_non, isi_bool_int, isi_int_tup, isi_bool_tup, isi_bool_str, isi_bool_non, isi_lst_str, isi_lst_int, isi_lst_non, isD, isntD, isNoneD, addD_i, subD_i, seqD, appendD, List.replicate, List.append_nil, List.cons_append, List.nil_append, List.getElem?_cons_zero, List.getElem?_cons_succ, List.set_cons_zero, List.set_cons_succ, List.length_cons, List.length_nil, List.nodup_nil, List.nodup_cons, List.not_mem_nil, not_false_eq_true, and_self, Option.map, if_true, if_false, Bool.false_eq_true, Bool.not_true, Bool.not_false, Bool.and_true, Bool.true_and, Bool.false_and, Bool.and_false, finR, Sl.fin, wipeR, restR, List.getD_cons_zero, List.getD_cons_succ, decide_true, decide_false, Nat.reduceAdd, Nat.reduceLT, x0, x2, eqD_s, hb, ltD_t c1, d1, d2, m1', m2', gtD_f c2]
          rfl
      · unfold L_made mFn kyD
        simp only [mSeq, mSet, mSetO, mSet2, mRet, mRetN, mDrop, mIfS, mIf, mB, mTru, mAnd, mOr, mNot, mAndV, mOrV, mNotV, mChain, mRaise, mNx, m1, m2, mN, mNL, mVar, mC, mNil, mCons, mLst, mTup, mDsp, mCall, mANil, mAv, mAr, mAb, hasR, hasB, toSl, VL.bs, back, mMut, heldR, setR, peekR, mLenP, mLenO, mRd, mItA, mIt, mAsg, gNm, gTp, gSeq, mYes, mSl, mPs, mPn, mKn, ok_bind, Oc.bind, Oc.opt, lenD_l, lenD_t, tupD, truD, isi_str_str, isi_str_tup, isi_str_int, isi_str_non, isi_str_lst, isi_tup_tup, isi_tup_lst, isi_tup_str, isi_tup_int, isi_tup_non, isi_lst_lst, isi_lst_tup, isi_int_int, isi_int_str, isi_int_non, isi_bool_int, isi_int_tup, isi_bool_tup, isi_bool_str, isi_bool_non, isi_lst_str, isi_lst_int, isi_lst_non, isD, isntD, isNoneD, addD_i, subD_i, seqD, appendD, List.replicate, List.append_nil, List.cons_append, List.nil_append, List.getElem?_cons_zero, List.getElem?_cons_succ, List.set_cons_zero, List.set_cons_succ, List.length_cons, List.length_nil, List.nodup_nil, List.nodup_cons, List.not_mem_nil, not_false_eq_true, and_self, Option.map, if_true, if_false, Bool.false_eq_true, Bool.not_true, Bool.not_false, Bool.and_true, Bool.true_and, Bool.false_and, Bool.and_false, finR, Sl.fin, wipeR, restR, List.getD_cons_zero, List.getD_cons_succ, decide_true, decide_false, Nat.reduceAdd, Nat.reduceLT, x0, x2, eqD_s, hb, ltD_f c1, d1, d2, m1', m2', gtD_f (show ¬ v / w * w > v by omega)]
        rfl
    · rw [hn] at h; cases h
  | fst z w =>
    obtain ⟨⟨j, c, hj, rfl, hn⟩, h1, h2⟩ := hk
    have hi : plc cs04 c.n = i := hi
    obtain ⟨d, ha, hv, e⟩ := row_at hr hj
    have hat := at_plc cs04_ok hj ha
    rw [hi] at hat
    simp only [kyV, hi, hat]
    rcases hv with rfl | ⟨h, _⟩ | ⟨_, y, rfl, hy⟩
    · unfold L_made mFn kyD
      simp only [mSeq, mSet, mSetO, mSet2, mRet, mRetN, mDrop, mIfS, mIf, mB, mTru, mAnd, mOr, mNot, mAndV, mOrV, mNotV, mChain, mRaise, mNx, m1, m2, mN, mNL, mVar, mC, mNil, mCons, mLst, mTup, mDsp, mCall, mANil, mAv, mAr, mAb, hasR, hasB, toSl, VL.bs, back, mMut, heldR, setR, peekR, mLenP, mLenO, mRd, mItA, mIt, mAsg, gNm, gTp, gSeq, mYes, mSl, mPs, mPn, mKn, ok_bind, Oc.bind, Oc.opt, lenD_l, lenD_t, tupD, truD, isi_str_str, isi_str_tup, isi_str_int, isi_str_non, isi_str_lst, isi_tup_tup, isi_tup_lst, isi_tup_str, isi_tup_int, isi_tup_non, isi_lst_lst, isi_lst_tup, isi_int_int, isi_int_str, isi_int_non, isi_bool_int, isi_int_tup, isi_bool_tup, isi_bool_str, isi_bool_non, isi_lst_str, isi_lst_int, isi_lst_non, isD, isntD, isNoneD, addD_i, subD_i, seqD, appendD, List.replicate, List.append_nil, List.cons_append, List.nil_append, List.getElem?_cons_zero, List.getElem?_cons_succ, List.set_cons_zero, List.set_cons_succ, List.length_cons, List.length_nil, List.nodup_nil, List.nodup_cons, List.not_mem_nil, not_false_eq_true, and_self, Option.map, if_true, if_false, Bool.false_eq_true, Bool.not_true, Bool.not_false, Bool.and_true, Bool.true_and, Bool.false_and, Bool.and_false, finR, Sl.fin, wipeR, restR, List.getD_cons_zero, List.getD_cons_succ, decide_true, decide_false, Nat.reduceAdd, Nat.reduceLT]
      rfl
    · rw [hn] at h; cases h
    · simp only [wordB, Bool.and_eq_true, decide_eq_true_eq] at hy
      exact made_fst y hy.1.2 c.n w h1 h2

/-! ### the law -/
theorem map_range_getD {α β : Type} (f : α → β) (xs : List α) (d : α) : (List.range xs.length).map (fun k => f (xs.getD k d)) = xs.map f := by
  apply List.ext_getElem?
  intro i
  rw [List.getElem?_map, List.getElem?_map]
  by_cases h : i < xs.length
  · rw [List.getElem?_range h, List.getElem?_eq_getElem h]
    show some (f (xs.getD i d)) = _
    rw [List.getD_eq_getElem?_getD, List.getElem?_eq_getElem h]
    rfl
  · rw [List.getElem?_eq_none (by rw [List.length_range]; omega), List.getElem?_eq_none (by omega)]
    rfl
theorem ctN_all {cs : List Col} {rs : List (List PyData)} {p : Pn} (h : TabOk cs rs) (hs : p.sf = []) : ctN cs rs p rs.length = List.range rs.length := by
  unfold ctN
  refine List.filter_eq_self.mpr fun k hk => ?_
  rw [hs, cv_is h.cols (getD_row h (List.mem_range.mp hk)) (by simp)]
  rfl
theorem rps_all {cs : List Col} {rs : List (List PyData)} {p : Pn} (h : TabOk cs rs) (hs : p.sf = []) (ks : List Ky) : rps cs rs p ks = rs.map (pvL cs ks) := by
  unfold rps
  rw [ctN_all h hs, map_range_getD (pvL cs ks) rs []]
theorem only_nil {C : List (List PyData)} (hn : C.Nodup) (h0 : [] ∈ C) (h : ∀ q ∈ C, q = []) : C = [[]] := by
  cases C with
  | nil => cases h0
  | cons c C =>
    have := h c List.mem_cons_self
    subst this
    cases C with
    | nil => rfl
    | cons d C =>
      have := h d (by simp)
      subst this
      simp at hn
theorem cols_nil {cs : List Col} {rs : List (List PyData)} {p : Pn} {R C : List (List PyData)} (S : SidesOk cs rs p R C) (hc : p.ck = []) : C = [[]] :=
  only_nil S.cn S.c0 fun q hq => by
    have := (S.cl q hq).2
    rw [hc] at this
    exact List.length_eq_zero_iff.mp (by simpa using this)
def pk1 (k : Ky) : Pn := ⟨[k], [], [.count], []⟩
theorem pk1_ok {cs : List Col} {k : Ky} (hk : KyOk cs k) : PnOk cs (pk1 k) := ⟨by simp [pk1], by simp [pk1], by simp [pk1], by simp [pk1], by simp [pk1], by simpa [pk1] using hk, by simp [pk1], by simp [pk1, SmOk], by simp [pk1]⟩
def kys04 (w m : Int) : List Ky := [.band "n" w, .fst "w" m, .col "w", .col "n"]
theorem hasw : HasCol cs04 "w" false := ⟨0, _, rfl, rfl, rfl⟩
theorem hasn : HasCol cs04 "n" true := ⟨1, _, rfl, rfl, rfl⟩
theorem kys04_ok {w m : Int} (h1 : 1 ≤ w) (h2 : w ≤ 1000000) (h3 : 1 ≤ m) (h4 : m ≤ 8) : ∀ k ∈ kys04 w m, KyOk cs04 k := by
  intro k hk
  simp only [kys04, List.mem_cons, List.not_mem_nil, or_false] at hk
  rcases hk with rfl | rfl | rfl | rfl
  · exact ⟨hasn, h1, h2⟩
  · exact ⟨hasw, h3, h4⟩
  · exact ⟨false, hasw⟩
  · exact ⟨true, hasn⟩
theorem kv_leafB {cs : List Col} {r : List PyData} (hc : ColsOk cs) (hr : RowOk cs r) {k : Ky} (hk : KyOk cs k) : leafB (kv cs k r) = true := by
  obtain ⟨_, num, _, h⟩ := key_in_ok hc hr hk
  exact h.leaf
/-- the law's heads are the program's -/
theorem heads_same {cs : List Col} {rs : List (List PyData)} {p : Pn} {R C : List (List PyData)} (h : TabOk cs rs) (hp : PnOk cs p) (S : SidesOk cs rs p R C) (hs : p.sf = []) : L_heads_k04 [.val (.list ((rs.map (pvL cs p.rk)).map .tuple))] = .ok (.list (R.map .tuple)) [.un] ∧ L_heads_k04 [.val (.list ((rs.map (pvL cs p.ck)).map .tuple))] = .ok (.list (C.map .tuple)) [.un] := by
  have hfew := h.few
  have one : ∀ (ks : List Ky) (X : List (List PyData)), ks.length ≤ 3 → (∀ k ∈ ks, KyOk cs k) → (∀ q, q ∈ X ↔ q ∈ prefs ks.length (rps cs rs p ks)) → (X.Pairwise fun a b => pLt a b = true) → L_heads_k04 [.val (.list ((rs.map (pvL cs ks)).map .tuple))] = .ok (.list (X.map .tuple)) [.un] := fun ks X hl hk hm hs' => by
    rw [rps_all h hs] at hm
    have hpl : ∀ ds ∈ rs.map (pvL cs ks), Leaves ds ∧ ds.length ≤ ks.length := fun ds hd => by
      obtain ⟨r, hr, rfl⟩ := List.mem_map.mp hd
      exact ⟨pvL_leaves h.cols (h.rows r hr) hk, by simp [pvL]⟩
    obtain ⟨out, o1, o2, o3, e⟩ := heads04_ok (paths := rs.map (pvL cs ks)) (n := ks.length) (by omega) (by rw [List.length_map]; omega) hpl
    have hin : RkInj (prefs1 (rs.map (pvL cs ks))) := fun a ha b hb e => by
      have z := inj_prefs h p hk ks.length
      rw [rps_all h hs] at z
      exact z a ((prefs_is (fun ds hd => (hpl ds hd).2) a).mp ha) b ((prefs_is (fun ds hd => (hpl ds hd).2) b).mp hb) e
    have : out = X := paths_one (o3 hin) hs' fun q => by rw [o2, hm, prefs_is (fun ds hd => (hpl ds hd).2)]
    rw [e, this]
  exact ⟨one p.rk R hp.r3 hp.rk S.rm S.rs', one p.ck C hp.c3 hp.ck S.cm S.cs'⟩
theorem gd_leafB {d : PyData} (h : leafB d = true) (n : Nat) : gdn n d = true := by cases d <;> simp [leafB] at h <;> cases n <;> rfl
theorem gd_ky (k : Ky) : Gd (kyD k) := by cases k <;> rfl
theorem ky_inj {a b : Ky} (h : kyD a = kyD b) : a = b := by
  cases a <;> cases b <;> simp [kyD] at h ⊢ <;> first | exact h | exact absurd h.1 (by decide +kernel) | skip
theorem int_list_eq {f : Bool → Bool} (a : List Nat) : neD (.list (a.map fun k => .int ((k : Nat) : Int))) (.list (a.map fun k => .int ((k : Nat) : Int))) = some (.bool false) :=
  neD_self (List.all_eq_true.mpr fun d hd => by
    obtain ⟨k, _, rfl⟩ := List.mem_map.mp hd
    rfl)
noncomputable abbrev St04 (ns : List Int) (rs : List (List PyData)) (kt : Nat) (w m : Int) (s5 s6 s7 s9 s10 : Sl) : VL.R :=
  [.scr ns, .own (town kt), .val (tabD cs04 rs), .val (.int w), .val (.list ((kys04 w m).map kyD)), s5, s6, s7, .un, s9, s10, .un, .un, .un, .un]
theorem k04_inner {rs : List (List PyData)} (h : TabOk cs04 rs) (ns : List Int) (kt : Nat) {w m : Int} (h1 : 1 ≤ w) (h2 : w ≤ 1000000) (h3 : 1 ≤ m) (h4 : m ≤ 8) {k : Ky} (hk : k ∈ kys04 w m) {R C : List (List PyData)} (S : SidesOk cs04 rs (pk1 k) R C) {r : List PyData} (hr : r ∈ rs) (s6 : Sl) :
    L_law_k04_b0 (St04 ns rs kt w m (.val (kyD k)) s6 (.val (.list (rs.map (kv cs04 k)))) (.val (pnD (pk1 k))) (.val (kv cs04 k r))) = .ok .nx (St04 ns rs kt w m (.val (kyD k)) s6 (.val (.list (rs.map (kv cs04 k)))) (.val (pnD (pk1 k))) (.val (kv cs04 k r))) := by
  have ko := kys04_ok h1 h2 h3 h4 k hk
  have hp := pk1_ok ko
  have hC := cols_nil S rfl
  subst hC
  have hfew := h.few
  have hrR : [kv cs04 k r] ∈ R := (S.rm _).mpr (mem_prefs.mpr (.inr ⟨pvL cs04 [k] r, by rw [rps_all h rfl]; exact List.mem_map_of_mem hr, 1, Nat.le_refl _, rfl⟩))
  have e1 := opened_ok h hp S hrR (List.mem_singleton.mpr rfl)
  have l1 : lenD [.list (rs.map (kv cs04 k))] = some (.int (rs.length : Nat)) := by rw [lenD_l, List.length_map]
  have rg := range1_n rs.length (by omega)
  have lf : ∀ r ∈ rs, leafB (kv cs04 k r) = true := fun r hr => kv_leafB h.cols (h.rows r hr) ko
  have em : mbN cs04 rs (pk1 k) [kv cs04 k r] [] = (List.range rs.length).filter fun j => decide (kv cs04 k (rs.getD j []) = kv cs04 k r) := by
    unfold mbN
    rw [ctN_all h rfl]
    refine List.filter_congr fun j hj => ?_
    show (decide ([kv cs04 k (rs.getD j [])].take 1 = [kv cs04 k r]) && decide (([] : List PyData).take 0 = [])) = _
    simp
  have c2 : L_law_k04_c2 (St04 ns rs kt w m (.val (kyD k)) s6 (.val (.list (rs.map (kv cs04 k)))) (.val (pnD (pk1 k))) (.val (kv cs04 k r))) = .ok ((mbN cs04 rs (pk1 k) [kv cs04 k r] []).map fun j => .int ((j : Nat) : Int)) (St04 ns rs kt w m (.val (kyD k)) s6 (.val (.list (rs.map (kv cs04 k)))) (.val (pnD (pk1 k))) (.val (kv cs04 k r))) := by
    rw [em]
    exact mLc_pure (ρ := St04 ns rs kt w m (.val (kyD k)) s6 (.val (.list (rs.map (kv cs04 k)))) (.val (pnD (pk1 k))) (.val (kv cs04 k r))) (ρ1 := St04 ns rs kt w m (.val (kyD k)) s6 (.val (.list (rs.map (kv cs04 k)))) (.val (pnD (pk1 k))) (.val (kv cs04 k r))) (List.range rs.length) (fun j => .int ((j : Nat) : Int)) (fun j => decide (kv cs04 k (rs.getD j []) = kv cs04 k r)) (fun j => .int ((j : Nat) : Int)) (by simp only [St04]; simp only [mSeq, mSet, mSetO, mSet2, mRet, mRetN, mDrop, mIfS, mIf, mB, mTru, mAnd, mOr, mNot, mAndV, mOrV, mNotV, mChain, mRaise, mNx, m1, m2, mN, mNL, mVar, mC, mNil, mCons, mLst, mTup, mDsp, mCall, mANil, mAv, mAr, mAb, hasR, hasB, toSl, VL.bs, back, mMut, heldR, setR, peekR, mLenP, mLenO, mRd, mItA, mIt, mAsg, gNm, gTp, gSeq, mYes, mSl, mPs, mPn, mKn, ok_bind, Oc.bind, Oc.opt, lenD_l, lenD_t, tupD, truD, isi_str_str, isi_str_tup, isi_str_int, isi_str_non, isi_str_lst, isi_tup_tup, isi_tup_lst, isi_tup_str, isi_tup_int, isi_tup_non, isi_lst_lst, isi_lst_tup, isi_int_int, isi_int_str, isi_int_non, isi_bool_int, isi_int_tup, isi_bool_tup, isi_bool_str, isi_bool_non, isi_lst_str, isi_lst_int, isi_lst_non, isD, isntD, isNoneD, addD_i, subD_i, seqD, appendD, List.replicate, List.append_nil, List.cons_append, List.nil_append, List.getElem?_cons_zero, List.getElem?_cons_succ, List.set_cons_zero, List.set_cons_succ, List.length_cons, List.length_nil, List.nodup_nil, List.nodup_cons, List.not_mem_nil, not_false_eq_true, and_self, Option.map, if_true, if_false, Bool.false_eq_true, Bool.not_true, Bool.not_false, Bool.and_true, Bool.true_and, Bool.false_and, Bool.and_false, finR, Sl.fin, wipeR, restR, List.getD_cons_zero, List.getD_cons_succ, decide_true, decide_false, Nat.reduceAdd, Nat.reduceLT, l1, rg]) rfl
      (fun j hj => by
        have hj := List.mem_range.mp hj
        have hq : rs[j]? = some rs[j] := List.getElem?_eq_getElem hj
        have hg : rs.getD j [] = rs[j] := by rw [List.getD_eq_getElem?_getD, hq]; rfl
        have x1 : ixD (.list (rs.map (kv cs04 k))) (.int (j : Int)) = some (kv cs04 k rs[j]) := ix_list hq
        have x2 : eqD (kv cs04 k rs[j]) (kv cs04 k r) = some (.bool (decide (kv cs04 k rs[j] = kv cs04 k r))) := eqD_g (gd_leafB (lf _ (List.getElem_mem hj)) 50) (gd_leafB (lf r hr) 50)
        refine ⟨(St04 ns rs kt w m (.val (kyD k)) s6 (.val (.list (rs.map (kv cs04 k)))) (.val (pnD (pk1 k))) (.val (kv cs04 k r))).set 11 (.val (.int (j : Int))), rfl, ?_, fun _ => ?_, rfl, rfl⟩
        · rw [hg]
          simp only [St04]
          simp only [mSeq, mSet, mSetO, mSet2, mRet, mRetN, mDrop, mIfS, mIf, mB, mTru, mAnd, mOr, mNot, mAndV, mOrV, mNotV, mChain, mRaise, mNx, m1, m2, mN, mNL, mVar, mC, mNil, mCons, mLst, mTup, mDsp, mCall, mANil, mAv, mAr, mAb, hasR, hasB, toSl, VL.bs, back, mMut, heldR, setR, peekR, mLenP, mLenO, mRd, mItA, mIt, mAsg, gNm, gTp, gSeq, mYes, mSl, mPs, mPn, mKn, ok_bind, Oc.bind, Oc.opt, lenD_l, lenD_t, tupD, truD, isi_str_str, isi_str_tup, isi_str_int, isi_str_non, isi_str_lst, isi_tup_tup, isi_tup_lst, isi_tup_str, isi_tup_int, isi_tup_non, isi_lst_lst, isi_lst_tup, isi_int_int, isi_int_str, isi_int_non, isi_bool_int, isi_int_tup, isi_bool_tup, isi_bool_str, isi_bool_non, isi_lst_str, isi_lst_int, isi_lst_non, isD, isntD, isNoneD, addD_i, subD_i, seqD, appendD, List.replicate, List.append_nil, List.cons_append, List.nil_append, List.getElem?_cons_zero, List.getElem?_cons_succ, List.set_cons_zero, List.set_cons_succ, List.length_cons, List.length_nil, List.nodup_nil, List.nodup_cons, List.not_mem_nil, not_false_eq_true, and_self, Option.map, if_true, if_false, Bool.false_eq_true, Bool.not_true, Bool.not_false, Bool.and_true, Bool.true_and, Bool.false_and, Bool.and_false, finR, Sl.fin, wipeR, restR, List.getD_cons_zero, List.getD_cons_succ, decide_true, decide_false, Nat.reduceAdd, Nat.reduceLT, x1, x2]
        · simp only [St04]
          simp only [mSeq, mSet, mSetO, mSet2, mRet, mRetN, mDrop, mIfS, mIf, mB, mTru, mAnd, mOr, mNot, mAndV, mOrV, mNotV, mChain, mRaise, mNx, m1, m2, mN, mNL, mVar, mC, mNil, mCons, mLst, mTup, mDsp, mCall, mANil, mAv, mAr, mAb, hasR, hasB, toSl, VL.bs, back, mMut, heldR, setR, peekR, mLenP, mLenO, mRd, mItA, mIt, mAsg, gNm, gTp, gSeq, mYes, mSl, mPs, mPn, mKn, ok_bind, Oc.bind, Oc.opt, lenD_l, lenD_t, tupD, truD, isi_str_str, isi_str_tup, isi_str_int, isi_str_non, isi_str_lst, isi_tup_tup, isi_tup_lst, isi_tup_str, isi_tup_int, isi_tup_non, isi_lst_lst, isi_lst_tup, isi_int_int, isi_int_str, isi_int_non, isi_bool_int, isi_int_tup, isi_bool_tup, isi_bool_str, isi_bool_non, isi_lst_str, isi_lst_int, isi_lst_non, isD, isntD, isNoneD, addD_i, subD_i, seqD, appendD, List.replicate, List.append_nil, List.cons_append, List.nil_append, List.getElem?_cons_zero, List.getElem?_cons_succ, List.set_cons_zero, List.set_cons_succ, List.length_cons, List.length_nil, List.nodup_nil, List.nodup_cons, List.not_mem_nil, not_false_eq_true, and_self, Option.map, if_true, if_false, Bool.false_eq_true, Bool.not_true, Bool.not_false, Bool.and_true, Bool.true_and, Bool.false_and, Bool.and_false, finR, Sl.fin, wipeR, restR, List.getD_cons_zero, List.getD_cons_succ, decide_true, decide_false, Nat.reduceAdd, Nat.reduceLT]) (by rw [List.length_range]; omega)
  have n1 := int_list_eq (f := id) (mbN cs04 rs (pk1 k) [kv cs04 k r] [])
  have f1 : fits 1 = true := rfl
  have f0 : fits 0 = true := rfl
  have x4 : ixD (.list ((kys04 w m).map kyD)) (.int 0) = some (kyD (.band "n" w)) := ix_list (f := kyD) (xs := kys04 w m) (i := 0) rfl
  have q1 : eqD (kyD k) (kyD (.band "n" w)) = some (.bool (decide (kyD k = kyD (.band "n" w)))) := eqD_g (gd_ky _) (gd_ky _)
  have e1 : M_opened [.val (tabD cs04 rs), .val (pnD (pk1 k)), .val (.tuple [kv cs04 k r]), .val (.tuple [])] = _ := e1
  unfold L_law_k04_b0
  refine seq_to (ρ1 := St04 ns rs kt w m (.val (kyD k)) s6 (.val (.list (rs.map (kv cs04 k)))) (.val (pnD (pk1 k))) (.val (kv cs04 k r))) (by simp only [St04] at c2 ⊢; simp only [mSeq, mSet, mSetO, mSet2, mRet, mRetN, mDrop, mIfS, mIf, mB, mTru, mAnd, mOr, mNot, mAndV, mOrV, mNotV, mChain, mRaise, mNx, m1, m2, mN, mNL, mVar, mC, mNil, mCons, mLst, mTup, mDsp, mCall, mANil, mAv, mAr, mAb, hasR, hasB, toSl, VL.bs, back, mMut, heldR, setR, peekR, mLenP, mLenO, mRd, mItA, mIt, mAsg, gNm, gTp, gSeq, mYes, mSl, mPs, mPn, mKn, ok_bind, Oc.bind, Oc.opt, lenD_l, lenD_t, tupD, truD, isi_str_str, isi_str_tup, isi_str_int, isi_str_non, isi_str_lst, isi_tup_tup, isi_tup_lst, isi_tup_str, isi_tup_int, isi_tup_non, isi_lst_lst, isi_lst_tup, isi_int_int, isi_int_str, isi_int_non, isi_bool_int, isi_int_tup, isi_bool_tup, isi_bool_str, isi_bool_non, isi_lst_str, isi_lst_int, isi_lst_non, isD, isntD, isNoneD, addD_i, subD_i, seqD, appendD, List.replicate, List.append_nil, List.cons_append, List.nil_append, List.getElem?_cons_zero, List.getElem?_cons_succ, List.set_cons_zero, List.set_cons_succ, List.length_cons, List.length_nil, List.nodup_nil, List.nodup_cons, List.not_mem_nil, not_false_eq_true, and_self, Option.map, if_true, if_false, Bool.false_eq_true, Bool.not_true, Bool.not_false, Bool.and_true, Bool.true_and, Bool.false_and, Bool.and_false, finR, Sl.fin, wipeR, restR, List.getD_cons_zero, List.getD_cons_succ, decide_true, decide_false, Nat.reduceAdd, Nat.reduceLT, e1, f1, f0, c2, n1]) ?_
  by_cases c : kyD k = kyD (.band "n" w)
  · have := ky_inj c
    subst this
    rw [decide_eq_true c] at q1
    have hv := kv_is cs04_ok (h.rows r hr) ko
    cases hd : r.getD (plc cs04 "n") .none with
    | int v =>
      have e : kv cs04 (.band "n" w) r = .int (v / w * w) := by
        rw [hv]
        simp only [kyV, hd]
      have mo : modD (.int (v / w * w)) (.int w) = some (.int 0) := by
        rw [modD_i (by omega), Int.fmod_eq_emod_of_nonneg _ (by omega), Int.mul_emod_left]
      have n0 : neD (.int 0) (.int 0) = some (.bool false) := by rw [neD_i]; rfl
      simp only [St04, e]
      simp only [mSeq, mSet, mSetO, mSet2, mRet, mRetN, mDrop, mIfS, mIf, mB, mTru, mAnd, mOr, mNot, mAndV, mOrV, mNotV, mChain, mRaise, mNx, m1, m2, mN, mNL, mVar, mC, mNil, mCons, mLst, mTup, mDsp, mCall, mANil, mAv, mAr, mAb, hasR, hasB, toSl, VL.bs, back, mMut, heldR, setR, peekR, mLenP, mLenO, mRd, mItA, mIt, mAsg, gNm, gTp, gSeq, mYes, mSl, mPs, mPn, mKn, ok_bind, Oc.bind, Oc.opt, lenD_l, lenD_t, tupD, truD, isi_str_str, isi_str_tup, isi_str_int, isi_str_non, isi_str_lst, isi_tup_tup, isi_tup_lst, isi_tup_str, isi_tup_int, isi_tup_non, isi_lst_lst, isi_lst_tup, isi_int_int, isi_int_str, isi_int_non, isi_bool_int, isi_int_tup, isi_bool_tup, isi_bool_str, isi_bool_non, isi_lst_str, isi_lst_int, isi_lst_non, isD, isntD, isNoneD, addD_i, subD_i, seqD, appendD, List.replicate, List.append_nil, List.cons_append, List.nil_append, List.getElem?_cons_zero, List.getElem?_cons_succ, List.set_cons_zero, List.set_cons_succ, List.length_cons, List.length_nil, List.nodup_nil, List.nodup_cons, List.not_mem_nil, not_false_eq_true, and_self, Option.map, if_true, if_false, Bool.false_eq_true, Bool.not_true, Bool.not_false, Bool.and_true, Bool.true_and, Bool.false_and, Bool.and_false, finR, Sl.fin, wipeR, restR, List.getD_cons_zero, List.getD_cons_succ, decide_true, decide_false, Nat.reduceAdd, Nat.reduceLT, x4, q1, mo, n0]
    | _ =>
      have e : kv cs04 (.band "n" w) r = .none := by
        rw [hv]
        simp only [kyV, hd]
      simp only [St04, e]
      simp only [mSeq, mSet, mSetO, mSet2, mRet, mRetN, mDrop, mIfS, mIf, mB, mTru, mAnd, mOr, mNot, mAndV, mOrV, mNotV, mChain, mRaise, mNx, m1, m2, mN, mNL, mVar, mC, mNil, mCons, mLst, mTup, mDsp, mCall, mANil, mAv, mAr, mAb, hasR, hasB, toSl, VL.bs, back, mMut, heldR, setR, peekR, mLenP, mLenO, mRd, mItA, mIt, mAsg, gNm, gTp, gSeq, mYes, mSl, mPs, mPn, mKn, ok_bind, Oc.bind, Oc.opt, lenD_l, lenD_t, tupD, truD, isi_str_str, isi_str_tup, isi_str_int, isi_str_non, isi_str_lst, isi_tup_tup, isi_tup_lst, isi_tup_str, isi_tup_int, isi_tup_non, isi_lst_lst, isi_lst_tup, isi_int_int, isi_int_str, isi_int_non, isi_bool_int, isi_int_tup, isi_bool_tup, isi_bool_str, isi_bool_non, isi_lst_str, isi_lst_int, isi_lst_non, isD, isntD, isNoneD, addD_i, subD_i, seqD, appendD, List.replicate, List.append_nil, List.cons_append, List.nil_append, List.getElem?_cons_zero, List.getElem?_cons_succ, List.set_cons_zero, List.set_cons_succ, List.length_cons, List.length_nil, List.nodup_nil, List.nodup_cons, List.not_mem_nil, not_false_eq_true, and_self, Option.map, if_true, if_false, Bool.false_eq_true, Bool.not_true, Bool.not_false, Bool.and_true, Bool.true_and, Bool.false_and, Bool.and_false, finR, Sl.fin, wipeR, restR, List.getD_cons_zero, List.getD_cons_succ, decide_true, decide_false, Nat.reduceAdd, Nat.reduceLT, x4, q1]
  · rw [decide_eq_false c] at q1
    simp only [St04]
    simp only [mSeq, mSet, mSetO, mSet2, mRet, mRetN, mDrop, mIfS, mIf, mB, mTru, mAnd, mOr, mNot, mAndV, mOrV, mNotV, mChain, mRaise, mNx, m1, m2, mN, mNL, mVar, mC, mNil, mCons, mLst, mTup, mDsp, mCall, mANil, mAv, mAr, mAb, hasR, hasB, toSl, VL.bs, back, mMut, heldR, setR, peekR, mLenP, mLenO, mRd, mItA, mIt, mAsg, gNm, gTp, gSeq, mYes, mSl, mPs, mPn, mKn, ok_bind, Oc.bind, Oc.opt, lenD_l, lenD_t, tupD, truD, isi_str_str, isi_str_tup, isi_str_int, isi_str_non, isi_str_lst, isi_tup_tup, isi_tup_lst, isi_tup_str, isi_tup_int, isi_tup_non, isi_lst_lst, isi_lst_tup, isi_int_int, isi_int_str, isi_int_non, isi_bool_int, isi_int_tup, isi_bool_tup, isi_bool_str, isi_bool_non, isi_lst_str, isi_lst_int, isi_lst_non, isD, isntD, isNoneD, addD_i, subD_i, seqD, appendD, List.replicate, List.append_nil, List.cons_append, List.nil_append, List.getElem?_cons_zero, List.getElem?_cons_succ, List.set_cons_zero, List.set_cons_succ, List.length_cons, List.length_nil, List.nodup_nil, List.nodup_cons, List.not_mem_nil, not_false_eq_true, and_self, Option.map, if_true, if_false, Bool.false_eq_true, Bool.not_true, Bool.not_false, Bool.and_true, Bool.true_and, Bool.false_and, Bool.and_false, finR, Sl.fin, wipeR, restR, List.getD_cons_zero, List.getD_cons_succ, decide_true, decide_false, Nat.reduceAdd, Nat.reduceLT, x4, q1]

theorem k04_key {rs : List (List PyData)} (h : TabOk cs04 rs) (ns : List Int) (kt : Nat) {w m : Int} (h1 : 1 ≤ w) (h2 : w ≤ 1000000) (h3 : 1 ≤ m) (h4 : m ≤ 8) {k : Ky} (hk : k ∈ kys04 w m) (s6 s7 s9 s10 : Sl) (hpl : s10.plain = true) :
    ∃ t6 t7 t9 t10 : Sl, t10.plain = true ∧ L_law_k04_b1 (St04 ns rs kt w m (.val (kyD k)) s6 s7 s9 s10) = .ok .nx (St04 ns rs kt w m (.val (kyD k)) t6 t7 t9 t10) := by
  have ko := kys04_ok h1 h2 h3 h4 k hk
  have hp := pk1_ok ko
  obtain ⟨R, C, S⟩ := sides_ok h hp
  have hC := cols_nil S rfl
  subst hC
  have hfew := h.few
  obtain ⟨i, hi, hi2, hin⟩ : ∃ i : Nat, plc cs04 (kyN k) = i ∧ i ≤ 1 ∧ inD id (kyD k) (.tuple [.str "w", kyD (.fst "w" m)]) = some (.bool (decide (i = 0))) := by
    have hg : inD id (kyD k) (.tuple [.str "w", kyD (.fst "w" m)]) = some (.bool (decide (kyD k ∈ [.str "w", kyD (.fst "w" m)]))) := by
      show inSeq id _ _ = _
      rw [inSeq_g (gd_ky k) (by intro e he; simp at he; rcases he with rfl | rfl <;> rfl)]
      rfl
    rw [hg]
    have pw : plc cs04 "w" = 0 := plc_is cs04_ok (i := 0) rfl
    have pn : plc cs04 "n" = 1 := plc_is cs04_ok (i := 1) rfl
    have nw : ¬ (Str.ofString "n" = Str.ofString "w") := by decide +kernel
    simp only [kys04, List.mem_cons, List.not_mem_nil, or_false] at hk
    rcases hk with rfl | rfl | rfl | rfl
    · exact ⟨1, pn, by omega, by simp [kyD, show ¬ (Str.ofString "band" = Str.ofString "first") by decide +kernel]⟩
    · exact ⟨0, pw, by omega, by simp [kyD]⟩
    · exact ⟨0, pw, by omega, by simp [kyD]⟩
    · exact ⟨1, pn, by omega, by simp [kyD, nw]⟩
  have x4 : ixD (.list ((kys04 w m).map kyD)) (.int 1) = some (kyD (.fst "w" m)) := ix_list (f := kyD) (xs := kys04 w m) (i := 1) rfl
  have f2 : fits 2 = true := rfl
  have f1 : fits 1 = true := rfl
  have f0 : fits 0 = true := rfl
  have f4 : fits 4 = true := rfl
  have ra : ∀ r ∈ rs, ixD (.tuple r) (.int (i : Int)) = some (r.getD i .none) := fun r hr => by
    obtain ⟨a, b, rfl, _, _⟩ := row04_of (h.rows r hr)
    have : i = 0 ∨ i = 1 := by omega
    rcases this with rfl | rfl <;> rfl
  have c0 : L_law_k04_c0 (St04 ns rs kt w m (.val (kyD k)) (.val (.int (i : Int))) s7 s9 s10) = .ok (rs.map (kv cs04 k)) (St04 ns rs kt w m (.val (kyD k)) (.val (.int (i : Int))) s7 s9 s10) :=
    mLc_map (ρ := St04 ns rs kt w m (.val (kyD k)) (.val (.int (i : Int))) s7 s9 s10) (ρ1 := St04 ns rs kt w m (.val (kyD k)) (.val (.int (i : Int))) s7 s9 s10) rs PyData.tuple (kv cs04 k) rfl rfl
      (fun r hr => ⟨(St04 ns rs kt w m (.val (kyD k)) (.val (.int (i : Int))) s7 s9 s10).set 8 (.val (.tuple r)), rfl, by
        have e := made_ok (h.rows r hr) ko i hi
        have x := ra r hr
        simp only [St04]
        simp only [mSeq, mSet, mSetO, mSet2, mRet, mRetN, mDrop, mIfS, mIf, mB, mTru, mAnd, mOr, mNot, mAndV, mOrV, mNotV, mChain, mRaise, mNx, m1, m2, mN, mNL, mVar, mC, mNil, mCons, mLst, mTup, mDsp, mCall, mANil, mAv, mAr, mAb, hasR, hasB, toSl, VL.bs, back, mMut, heldR, setR, peekR, mLenP, mLenO, mRd, mItA, mIt, mAsg, gNm, gTp, gSeq, mYes, mSl, mPs, mPn, mKn, ok_bind, Oc.bind, Oc.opt, lenD_l, lenD_t, tupD, truD, isi_str_str, isi_str_tup, isi_str_int, isi_str_non, isi_str_lst, isi_tup_tup, isi_tup_lst, isi_tup_str, isi_tup_int, isi_tup_non, isi_lst_lst, isi_lst_tup, isi_int_int, isi_int_str, isi_int_non, isi_bool_int, isi_int_tup, isi_bool_tup, isi_bool_str, isi_bool_non, isi_lst_str, isi_lst_int, isi_lst_non, isD, isntD, isNoneD, addD_i, subD_i, seqD, appendD, List.replicate, List.append_nil, List.cons_append, List.nil_append, List.getElem?_cons_zero, List.getElem?_cons_succ, List.set_cons_zero, List.set_cons_succ, List.length_cons, List.length_nil, List.nodup_nil, List.nodup_cons, List.not_mem_nil, not_false_eq_true, and_self, Option.map, if_true, if_false, Bool.false_eq_true, Bool.not_true, Bool.not_false, Bool.and_true, Bool.true_and, Bool.false_and, Bool.and_false, finR, Sl.fin, wipeR, restR, List.getD_cons_zero, List.getD_cons_succ, decide_true, decide_false, Nat.reduceAdd, Nat.reduceLT, x, e], rfl, rfl⟩) (by omega)
  have c1 : L_law_k04_c1 (St04 ns rs kt w m (.val (kyD k)) (.val (.int (i : Int))) (.val (.list (rs.map (kv cs04 k)))) (.val (pnD (pk1 k))) s10) = .ok ((rs.map (pvL cs04 [k])).map .tuple) (St04 ns rs kt w m (.val (kyD k)) (.val (.int (i : Int))) (.val (.list (rs.map (kv cs04 k)))) (.val (pnD (pk1 k))) s10) := by
    have e : ((rs.map (pvL cs04 [k])).map PyData.tuple) = (rs.map (kv cs04 k)).map fun d => .tuple [d] := by rw [List.map_map, List.map_map]; rfl
    rw [e]
    exact mLc_map (ρ := St04 ns rs kt w m (.val (kyD k)) (.val (.int (i : Int))) (.val (.list (rs.map (kv cs04 k)))) (.val (pnD (pk1 k))) s10) (ρ1 := St04 ns rs kt w m (.val (kyD k)) (.val (.int (i : Int))) (.val (.list (rs.map (kv cs04 k)))) (.val (pnD (pk1 k))) s10) (rs.map (kv cs04 k)) id (fun d => .tuple [d]) (by rw [List.map_id]; rfl) (by show (s10.plain && true) = true; rw [hpl]; rfl)
      (fun d hd => ⟨(St04 ns rs kt w m (.val (kyD k)) (.val (.int (i : Int))) (.val (.list (rs.map (kv cs04 k)))) (.val (pnD (pk1 k))) s10).set 10 (.val d), rfl, by
        simp only [St04]
        simp only [mSeq, mSet, mSetO, mSet2, mRet, mRetN, mDrop, mIfS, mIf, mB, mTru, mAnd, mOr, mNot, mAndV, mOrV, mNotV, mChain, mRaise, mNx, m1, m2, mN, mNL, mVar, mC, mNil, mCons, mLst, mTup, mDsp, mCall, mANil, mAv, mAr, mAb, hasR, hasB, toSl, VL.bs, back, mMut, heldR, setR, peekR, mLenP, mLenO, mRd, mItA, mIt, mAsg, gNm, gTp, gSeq, mYes, mSl, mPs, mPn, mKn, ok_bind, Oc.bind, Oc.opt, lenD_l, lenD_t, tupD, truD, isi_str_str, isi_str_tup, isi_str_int, isi_str_non, isi_str_lst, isi_tup_tup, isi_tup_lst, isi_tup_str, isi_tup_int, isi_tup_non, isi_lst_lst, isi_lst_tup, isi_int_int, isi_int_str, isi_int_non, isi_bool_int, isi_int_tup, isi_bool_tup, isi_bool_str, isi_bool_non, isi_lst_str, isi_lst_int, isi_lst_non, isD, isntD, isNoneD, addD_i, subD_i, seqD, appendD, List.replicate, List.append_nil, List.cons_append, List.nil_append, List.getElem?_cons_zero, List.getElem?_cons_succ, List.set_cons_zero, List.set_cons_succ, List.length_cons, List.length_nil, List.nodup_nil, List.nodup_cons, List.not_mem_nil, not_false_eq_true, and_self, Option.map, if_true, if_false, Bool.false_eq_true, Bool.not_true, Bool.not_false, Bool.and_true, Bool.true_and, Bool.false_and, Bool.and_false, finR, Sl.fin, wipeR, restR, List.getD_cons_zero, List.getD_cons_succ, decide_true, decide_false, Nat.reduceAdd, Nat.reduceLT, f1]
        try rfl, rfl, rfl⟩) (by rw [List.length_map]; omega)
  have e2 := heads_ok h hp S
  have e3 := (heads_same h hp S rfl).1
  have hg : gdn 50 (.tuple [.list (R.map .tuple), .list [.tuple []]]) = true := by
    have g1 : gdn 49 (.list (R.map .tuple)) = true := List.all_eq_true.mpr fun d hd => by
      obtain ⟨q, hq, rfl⟩ := List.mem_map.mp hd
      exact gd_leaves (S.rl q hq).1 47
    show (gdn 49 (.list (R.map .tuple)) && _) = true
    rw [g1]
    rfl
  have n1 := neD_self hg
  have e2 : M_heads [.val (tabD cs04 rs), .val (pnD (pk1 k))] = .ok (.tuple [.list (R.map .tuple), .list [.tuple []]]) [.un, .un] := e2
  have e3 : L_heads_k04 [.val (.list ((rs.map (pvL cs04 [k])).map .tuple))] = _ := e3
  have sl : slD (.list (rs.map (kv cs04 k))) none (some 4) = some (.list ((rs.take 4).map (kv cs04 k))) := by
    have := slD_hi (rs.map (kv cs04 k)) 4
    rw [List.map_take]
    exact this
  obtain ⟨fl, ρ, e4, rfl, t10, hpl', rfl⟩ := mFor_inv (fs := mIt (mSl (mVar 7) mPn (mPs (mC (.int 4))))) (g := gNm 10) (m := L_law_k04_b0)
    (ρ := St04 ns rs kt w m (.val (kyD k)) (.val (.int (i : Int))) (.val (.list (rs.map (kv cs04 k)))) (.val (pnD (pk1 k))) s10)
    (P := fun fl ρ => fl = .nx ∧ ∃ t10 : Sl, t10.plain = true ∧ ρ = St04 ns rs kt w m (.val (kyD k)) (.val (.int (i : Int))) (.val (.list (rs.map (kv cs04 k)))) (.val (pnD (pk1 k))) t10)
    (fun _ ρ => ∃ t10 : Sl, t10.plain = true ∧ ρ = St04 ns rs kt w m (.val (kyD k)) (.val (.int (i : Int))) (.val (.list (rs.map (kv cs04 k)))) (.val (pnD (pk1 k))) t10)
    ((rs.take 4).map (kv cs04 k)) (by simp only [St04]; simp only [mSeq, mSet, mSetO, mSet2, mRet, mRetN, mDrop, mIfS, mIf, mB, mTru, mAnd, mOr, mNot, mAndV, mOrV, mNotV, mChain, mRaise, mNx, m1, m2, mN, mNL, mVar, mC, mNil, mCons, mLst, mTup, mDsp, mCall, mANil, mAv, mAr, mAb, hasR, hasB, toSl, VL.bs, back, mMut, heldR, setR, peekR, mLenP, mLenO, mRd, mItA, mIt, mAsg, gNm, gTp, gSeq, mYes, mSl, mPs, mPn, mKn, ok_bind, Oc.bind, Oc.opt, lenD_l, lenD_t, tupD, truD, isi_str_str, isi_str_tup, isi_str_int, isi_str_non, isi_str_lst, isi_tup_tup, isi_tup_lst, isi_tup_str, isi_tup_int, isi_tup_non, isi_lst_lst, isi_lst_tup, isi_int_int, isi_int_str, isi_int_non, isi_bool_int, isi_int_tup, isi_bool_tup, isi_bool_str, isi_bool_non, isi_lst_str, isi_lst_int, isi_lst_non, isD, isntD, isNoneD, addD_i, subD_i, seqD, appendD, List.replicate, List.append_nil, List.cons_append, List.nil_append, List.getElem?_cons_zero, List.getElem?_cons_succ, List.set_cons_zero, List.set_cons_succ, List.length_cons, List.length_nil, List.nodup_nil, List.nodup_cons, List.not_mem_nil, not_false_eq_true, and_self, Option.map, if_true, if_false, Bool.false_eq_true, Bool.not_true, Bool.not_false, Bool.and_true, Bool.true_and, Bool.false_and, Bool.and_false, finR, Sl.fin, wipeR, restR, List.getD_cons_zero, List.getD_cons_succ, decide_true, decide_false, Nat.reduceAdd, Nat.reduceLT, sl]) ⟨s10, hpl, rfl⟩
    (by
      rintro j d ρ hd ⟨t10, _, rfl⟩
      rw [List.getElem?_map] at hd
      obtain ⟨r, hr, rfl⟩ := Option.map_eq_some_iff.mp hd
      exact ⟨St04 ns rs kt w m (.val (kyD k)) (.val (.int (i : Int))) (.val (.list (rs.map (kv cs04 k)))) (.val (pnD (pk1 k))) (.val (kv cs04 k r)), rfl, .nx, _, k04_inner h ns kt h1 h2 h3 h4 hk S (List.mem_of_mem_take (List.mem_of_getElem? hr)) _, _, rfl, rfl⟩)
    (fun ρ h => ⟨rfl, h⟩)
  refine ⟨.val (.int (i : Int)), .val (.list (rs.map (kv cs04 k))), .val (pnD (pk1 k)), t10, hpl', ?_⟩
  unfold L_law_k04_b1
  refine seq_to (ρ1 := St04 ns rs kt w m (.val (kyD k)) (.val (.int (i : Int))) s7 s9 s10) ?_ ?_
  · have : i = 0 ∨ i = 1 := by omega
    rcases this with rfl | rfl
    · rw [decide_eq_true rfl] at hin
      simp only [St04]
      simp only [mSeq, mSet, mSetO, mSet2, mRet, mRetN, mDrop, mIfS, mIf, mB, mTru, mAnd, mOr, mNot, mAndV, mOrV, mNotV, mChain, mRaise, mNx, m1, m2, mN, mNL, mVar, mC, mNil, mCons, mLst, mTup, mDsp, mCall, mANil, mAv, mAr, mAb, hasR, hasB, toSl, VL.bs, back, mMut, heldR, setR, peekR, mLenP, mLenO, mRd, mItA, mIt, mAsg, gNm, gTp, gSeq, mYes, mSl, mPs, mPn, mKn, ok_bind, Oc.bind, Oc.opt, lenD_l, lenD_t, tupD, truD, isi_str_str, isi_str_tup, isi_str_int, isi_str_non, isi_str_lst, isi_tup_tup, isi_tup_lst, isi_tup_str, isi_tup_int, isi_tup_non, isi_lst_lst, isi_lst_tup, isi_int_int, isi_int_str, isi_int_non, isi_bool_int, isi_int_tup, isi_bool_tup, isi_bool_str, isi_bool_non, isi_lst_str, isi_lst_int, isi_lst_non, isD, isntD, isNoneD, addD_i, subD_i, seqD, appendD, List.replicate, List.append_nil, List.cons_append, List.nil_append, List.getElem?_cons_zero, List.getElem?_cons_succ, List.set_cons_zero, List.set_cons_succ, List.length_cons, List.length_nil, List.nodup_nil, List.nodup_cons, List.not_mem_nil, not_false_eq_true, and_self, Option.map, if_true, if_false, Bool.false_eq_true, Bool.not_true, Bool.not_false, Bool.and_true, Bool.true_and, Bool.false_and, Bool.and_false, finR, Sl.fin, wipeR, restR, List.getD_cons_zero, List.getD_cons_succ, decide_true, decide_false, Nat.reduceAdd, Nat.reduceLT, x4, f2, hin]
      rfl
    · rw [decide_eq_false (by decide)] at hin
      simp only [St04]
      simp only [mSeq, mSet, mSetO, mSet2, mRet, mRetN, mDrop, mIfS, mIf, mB, mTru, mAnd, mOr, mNot, mAndV, mOrV, mNotV, mChain, mRaise, mNx, m1, m2, mN, mNL, mVar, mC, mNil, mCons, mLst, mTup, mDsp, mCall, mANil, mAv, mAr, mAb, hasR, hasB, toSl, VL.bs, back, mMut, heldR, setR, peekR, mLenP, mLenO, mRd, mItA, mIt, mAsg, gNm, gTp, gSeq, mYes, mSl, mPs, mPn, mKn, ok_bind, Oc.bind, Oc.opt, lenD_l, lenD_t, tupD, truD, isi_str_str, isi_str_tup, isi_str_int, isi_str_non, isi_str_lst, isi_tup_tup, isi_tup_lst, isi_tup_str, isi_tup_int, isi_tup_non, isi_lst_lst, isi_lst_tup, isi_int_int, isi_int_str, isi_int_non, isi_bool_int, isi_int_tup, isi_bool_tup, isi_bool_str, isi_bool_non, isi_lst_str, isi_lst_int, isi_lst_non, isD, isntD, isNoneD, addD_i, subD_i, seqD, appendD, List.replicate, List.append_nil, List.cons_append, List.nil_append, List.getElem?_cons_zero, List.getElem?_cons_succ, List.set_cons_zero, List.set_cons_succ, List.length_cons, List.length_nil, List.nodup_nil, List.nodup_cons, List.not_mem_nil, not_false_eq_true, and_self, Option.map, if_true, if_false, Bool.false_eq_true, Bool.not_true, Bool.not_false, Bool.and_true, Bool.true_and, Bool.false_and, Bool.and_false, finR, Sl.fin, wipeR, restR, List.getD_cons_zero, List.getD_cons_succ, decide_true, decide_false, Nat.reduceAdd, Nat.reduceLT, x4, f2, hin]
      rfl
  refine seq_to (ρ1 := St04 ns rs kt w m (.val (kyD k)) (.val (.int (i : Int))) (.val (.list (rs.map (kv cs04 k)))) s9 s10) (by simp only [mSet, mLst, c0, ok_bind]; rfl) ?_
  refine seq_to (ρ1 := St04 ns rs kt w m (.val (kyD k)) (.val (.int (i : Int))) (.val (.list (rs.map (kv cs04 k)))) (.val (pnD (pk1 k))) s10) (by simp only [St04]; simp only [mSeq, mSet, mSetO, mSet2, mRet, mRetN, mDrop, mIfS, mIf, mB, mTru, mAnd, mOr, mNot, mAndV, mOrV, mNotV, mChain, mRaise, mNx, m1, m2, mN, mNL, mVar, mC, mNil, mCons, mLst, mTup, mDsp, mCall, mANil, mAv, mAr, mAb, hasR, hasB, toSl, VL.bs, back, mMut, heldR, setR, peekR, mLenP, mLenO, mRd, mItA, mIt, mAsg, gNm, gTp, gSeq, mYes, mSl, mPs, mPn, mKn, ok_bind, Oc.bind, Oc.opt, lenD_l, lenD_t, tupD, truD, isi_str_str, isi_str_tup, isi_str_int, isi_str_non, isi_str_lst, isi_tup_tup, isi_tup_lst, isi_tup_str, isi_tup_int, isi_tup_non, isi_lst_lst, isi_lst_tup, isi_int_int, isi_int_str, isi_int_non, isi_bool_int, isi_int_tup, isi_bool_tup, isi_bool_str, isi_bool_non, isi_lst_str, isi_lst_int, isi_lst_non, isD, isntD, isNoneD, addD_i, subD_i, seqD, appendD, List.replicate, List.append_nil, List.cons_append, List.nil_append, List.getElem?_cons_zero, List.getElem?_cons_succ, List.set_cons_zero, List.set_cons_succ, List.length_cons, List.length_nil, List.nodup_nil, List.nodup_cons, List.not_mem_nil, not_false_eq_true, and_self, Option.map, if_true, if_false, Bool.false_eq_true, Bool.not_true, Bool.not_false, Bool.and_true, Bool.true_and, Bool.false_and, Bool.and_false, finR, Sl.fin, wipeR, restR, List.getD_cons_zero, List.getD_cons_succ, decide_true, decide_false, Nat.reduceAdd, Nat.reduceLT, f0, f1, f4]; rfl) ?_
  refine seq_to (ρ1 := St04 ns rs kt w m (.val (kyD k)) (.val (.int (i : Int))) (.val (.list (rs.map (kv cs04 k)))) (.val (pnD (pk1 k))) s10) (by
    simp only [St04] at c1 ⊢
    simp only [mSeq, mSet, mSetO, mSet2, mRet, mRetN, mDrop, mIfS, mIf, mB, mTru, mAnd, mOr, mNot, mAndV, mOrV, mNotV, mChain, mRaise, mNx, m1, m2, mN, mNL, mVar, mC, mNil, mCons, mLst, mTup, mDsp, mCall, mANil, mAv, mAr, mAb, hasR, hasB, toSl, VL.bs, back, mMut, heldR, setR, peekR, mLenP, mLenO, mRd, mItA, mIt, mAsg, gNm, gTp, gSeq, mYes, mSl, mPs, mPn, mKn, ok_bind, Oc.bind, Oc.opt, lenD_l, lenD_t, tupD, truD, isi_str_str, isi_str_tup, isi_str_int, isi_str_non, isi_str_lst, isi_tup_tup, isi_tup_lst, isi_tup_str, isi_tup_int, isi_tup_non, isi_lst_lst, isi_lst_tup, isi_int_int, isi_int_str, isi_int_non, isi_bool_int, isi_int_tup, isi_bool_tup, isi_bool_str, isi_bool_non, isi_lst_str, isi_lst_int, isi_lst_non, isD, isntD, isNoneD, addD_i, subD_i, seqD, appendD, List.replicate, List.append_nil, List.cons_append, List.nil_append, List.getElem?_cons_zero, List.getElem?_cons_succ, List.set_cons_zero, List.set_cons_succ, List.length_cons, List.length_nil, List.nodup_nil, List.nodup_cons, List.not_mem_nil, not_false_eq_true, and_self, Option.map, if_true, if_false, Bool.false_eq_true, Bool.not_true, Bool.not_false, Bool.and_true, Bool.true_and, Bool.false_and, Bool.and_false, finR, Sl.fin, wipeR, restR, List.getD_cons_zero, List.getD_cons_succ, decide_true, decide_false, Nat.reduceAdd, Nat.reduceLT, e2, c1, e3, f1, f0, f2, n1]) ?_
  exact e4
def pk2 (w m : Int) : Pn := ⟨[.col "w"], [.fst "w" m, .band "n" w], [.count], []⟩
theorem law_true_k04 : ∀ ns : List Int, ns.length ≤ 63 → ∃ ρ, L_law_k04 [.scr ns] = .ok (.bool true) ρ := by
  intro ns _
  obtain ⟨rs, k1, h, g1, g2, e1⟩ := rows_of_ok ns 0 (by omega)
  have hfew := h.few
  obtain ⟨j, d, hj, e2⟩ := pick_ok ns k1 [.int 1, .int 2, .int 3, .int 7, .int 10, .int 999999, .int 1000000] (by omega) (by simp)
  obtain ⟨w, h1, h2, rfl⟩ : ∃ w : Int, 1 ≤ w ∧ w ≤ 1000000 ∧ d = .int w := by
    have := List.mem_of_getElem? hj
    simp only [List.mem_cons, List.not_mem_nil, or_false] at this
    rcases this with rfl | rfl | rfl | rfl | rfl | rfl | rfl <;> exact ⟨_, by decide, by decide, rfl⟩
  obtain ⟨i, hi, e3⟩ := draw_ex ns (k1 + 1) 8 (by omega) (by decide)
  obtain ⟨m, hm⟩ : ∃ m : Int, m = 1 + (i : Int) := ⟨_, rfl⟩
  have h3 : 1 ≤ m := by omega
  have h4 : m ≤ 8 := by omega
  have f0 : fits 0 = true := rfl
  have f1 : fits 1 = true := rfl
  have f2 : fits 2 = true := rfl
  have f3 : fits 3 = true := rfl
  have f4 : fits 4 = true := rfl
  have f7 : fits 7 = true := rfl
  have e1 : L_rows_of [.scr ns, .bor []] = .ok (tabD cs04 rs) [.un, .bor (town k1)] := e1
  obtain ⟨fl, ρ, e4, rfl, t5, t6, t7, t9, t10, hpl, rfl⟩ := mFor_inv (fs := mIt (mVar 4)) (g := gNm 5) (m := L_law_k04_b1) (ρ := St04 ns rs (k1 + 1 + 1) w m .un .un .un .un .un)
    (P := fun fl ρ => fl = .nx ∧ ∃ t5 t6 t7 t9 t10 : Sl, t10.plain = true ∧ ρ = St04 ns rs (k1 + 1 + 1) w m t5 t6 t7 t9 t10)
    (fun _ ρ => ∃ t5 t6 t7 t9 t10 : Sl, t10.plain = true ∧ ρ = St04 ns rs (k1 + 1 + 1) w m t5 t6 t7 t9 t10)
    ((kys04 w m).map kyD) rfl ⟨.un, .un, .un, .un, .un, rfl, rfl⟩
    (by
      rintro j d ρ hd ⟨t5, t6, t7, t9, t10, hpl, rfl⟩
      rw [List.getElem?_map] at hd
      obtain ⟨k, hk, rfl⟩ := Option.map_eq_some_iff.mp hd
      obtain ⟨u6, u7, u9, u10, hpl', e⟩ := k04_key h ns (k1 + 1 + 1) h1 h2 h3 h4 (List.mem_of_getElem? hk) t6 t7 t9 t10 hpl
      exact ⟨St04 ns rs (k1 + 1 + 1) w m (.val (kyD k)) t6 t7 t9 t10, rfl, .nx, _, e, _, _, _, _, _, hpl', rfl⟩)
    (fun ρ h => ⟨rfl, h⟩)
  have kb : KyOk cs04 (.band "n" w) := ⟨hasn, h1, h2⟩
  have kf : KyOk cs04 (.fst "w" m) := ⟨hasw, h3, h4⟩
  have kw : KyOk cs04 (.col "w") := ⟨false, hasw⟩
  have hp : PnOk cs04 (pk2 w m) := ⟨by simp [pk2], by simp [pk2], by simp [pk2], by simp [pk2], by simp [pk2], by simpa [pk2] using kw, by simpa [pk2] using ⟨kf, kb⟩, by simp [pk2, SmOk], by simp [pk2]⟩
  obtain ⟨R, C, S⟩ := sides_ok h hp
  have e5 := heads_ok h hp S
  obtain ⟨e6, e7⟩ := heads_same h hp S rfl
  have x0 : ixD (.list ((kys04 w m).map kyD)) (.int 0) = some (kyD (.band "n" w)) := ix_list (f := kyD) (xs := kys04 w m) (i := 0) rfl
  have x1 : ixD (.list ((kys04 w m).map kyD)) (.int 1) = some (kyD (.fst "w" m)) := ix_list (f := kyD) (xs := kys04 w m) (i := 1) rfl
  have x2 : ixD (.list ((kys04 w m).map kyD)) (.int 2) = some (.str "w") := ix_list (f := kyD) (xs := kys04 w m) (i := 2) rfl
  have xt : ixD (tabD cs04 rs) (.int 1) = some (rowsD rs) := rfl
  let B : PyData := .tuple [kyD (.fst "w" m), kyD (.band "n" w)]
  let Sf : Sl → Sl → Sl → VL.R := fun s12 s13 s14 => [.scr ns, .own (town (k1 + 1 + 1)), .val (tabD cs04 rs), .val (.int w), .val (.list ((kys04 w m).map kyD)), t5, t6, t7, .un, t9, t10, .un, s12, s13, s14]
  have pw : plc cs04 "w" = 0 := plc_is cs04_ok (i := 0) rfl
  have pn : plc cs04 "n" = 1 := plc_is cs04_ok (i := 1) rfl
  have ra : ∀ r ∈ rs, ixD (.tuple r) (.int 0) = some (r.getD 0 .none) ∧ ixD (.tuple r) (.int 1) = some (r.getD 1 .none) := fun r hr => by
    obtain ⟨a, b, rfl, _, _⟩ := row04_of (h.rows r hr)
    exact ⟨rfl, rfl⟩
  have c3 : L_law_k04_c3 (Sf (.val B) .un .un) = .ok ((rs.map (pvL cs04 [.fst "w" m, .band "n" w])).map .tuple) (Sf (.val B) .un .un) := by
    rw [List.map_map]
    exact mLc_map (ρ := Sf (.val B) .un .un) (ρ1 := Sf (.val B) .un .un) rs PyData.tuple (fun r => .tuple (pvL cs04 [.fst "w" m, .band "n" w] r)) rfl rfl
      (fun r hr => ⟨(Sf (.val B) .un .un).set 8 (.val (.tuple r)), rfl, by
        have m1' := made_ok (h.rows r hr) kf 0 pw
        have m2' := made_ok (h.rows r hr) kb 1 pn
        obtain ⟨y0, y1⟩ := ra r hr
        simp only [Sf, B]
        simp only [mSeq, mSet, mSetO, mSet2, mRet, mRetN, mDrop, mIfS, mIf, mB, mTru, mAnd, mOr, mNot, mAndV, mOrV, mNotV, mChain, mRaise, mNx, m1, m2, mN, mNL, mVar, mC, mNil, mCons, mLst, mTup, mDsp, mCall, mANil, mAv, mAr, mAb, hasR, hasB, toSl, VL.bs, back, mMut, heldR, setR, peekR, mLenP, mLenO, mRd, mItA, mIt, mAsg, gNm, gTp, gSeq, mYes, mSl, mPs, mPn, mKn, ok_bind, Oc.bind, Oc.opt, lenD_l, lenD_t, tupD, truD, isi_str_str, isi_str_tup, isi_str_int, isi_str_non, isi_str_lst, isi_tup_tup, isi_tup_lst, isi_tup_str, isi_tup_int, isi_tup_non, isi_lst_lst, isi_lst_tup, isi_int_int, isi_int_str, isi_int_non, isi_bool_int, isi_int_tup, isi_bool_tup, isi_bool_str, isi_bool_non, isi_lst_str, isi_lst_int, isi_lst_non, isD, isntD, isNoneD, addD_i, subD_i, seqD, appendD, List.replicate, List.append_nil, List.cons_append, List.nil_append, List.getElem?_cons_zero, List.getElem?_cons_succ, List.set_cons_zero, List.set_cons_succ, List.length_cons, List.length_nil, List.nodup_nil, List.nodup_cons, List.not_mem_nil, not_false_eq_true, and_self, Option.map, if_true, if_false, Bool.false_eq_true, Bool.not_true, Bool.not_false, Bool.and_true, Bool.true_and, Bool.false_and, Bool.and_false, finR, Sl.fin, wipeR, restR, List.getD_cons_zero, List.getD_cons_succ, decide_true, decide_false, Nat.reduceAdd, Nat.reduceLT, x0, x1, y0, y1, m1', m2', f2]
        rfl, rfl, rfl⟩) (by omega)
  have c4 : ∀ s13 s14, L_law_k04_c4 (Sf (.val B) s13 s14) = .ok ((rs.map (pvL cs04 [.col "w"])).map .tuple) (Sf (.val B) s13 s14) := fun s13 s14 => by
    rw [List.map_map]
    exact mLc_map (ρ := Sf (.val B) s13 s14) (ρ1 := Sf (.val B) s13 s14) rs PyData.tuple (fun r => .tuple (pvL cs04 [.col "w"] r)) rfl rfl
      (fun r hr => ⟨(Sf (.val B) s13 s14).set 8 (.val (.tuple r)), rfl, by
        obtain ⟨y0, y1⟩ := ra r hr
        have e : pvL cs04 [.col "w"] r = [r.getD 0 .none] := by
          show [kv cs04 (.col "w") r] = _
          rw [kv_is cs04_ok (h.rows r hr) kw]
          simp only [kyV, pw]
        rw [e]
        simp only [Sf, B]
        simp only [mSeq, mSet, mSetO, mSet2, mRet, mRetN, mDrop, mIfS, mIf, mB, mTru, mAnd, mOr, mNot, mAndV, mOrV, mNotV, mChain, mRaise, mNx, m1, m2, mN, mNL, mVar, mC, mNil, mCons, mLst, mTup, mDsp, mCall, mANil, mAv, mAr, mAb, hasR, hasB, toSl, VL.bs, back, mMut, heldR, setR, peekR, mLenP, mLenO, mRd, mItA, mIt, mAsg, gNm, gTp, gSeq, mYes, mSl, mPs, mPn, mKn, ok_bind, Oc.bind, Oc.opt, lenD_l, lenD_t, tupD, truD, isi_str_str, isi_str_tup, isi_str_int, isi_str_non, isi_str_lst, isi_tup_tup, isi_tup_lst, isi_tup_str, isi_tup_int, isi_tup_non, isi_lst_lst, isi_lst_tup, isi_int_int, isi_int_str, isi_int_non, isi_bool_int, isi_int_tup, isi_bool_tup, isi_bool_str, isi_bool_non, isi_lst_str, isi_lst_int, isi_lst_non, isD, isntD, isNoneD, addD_i, subD_i, seqD, appendD, List.replicate, List.append_nil, List.cons_append, List.nil_append, List.getElem?_cons_zero, List.getElem?_cons_succ, List.set_cons_zero, List.set_cons_succ, List.length_cons, List.length_nil, List.nodup_nil, List.nodup_cons, List.not_mem_nil, not_false_eq_true, and_self, Option.map, if_true, if_false, Bool.false_eq_true, Bool.not_true, Bool.not_false, Bool.and_true, Bool.true_and, Bool.false_and, Bool.and_false, finR, Sl.fin, wipeR, restR, List.getD_cons_zero, List.getD_cons_succ, decide_true, decide_false, Nat.reduceAdd, Nat.reduceLT, y0, f1], rfl, rfl⟩) (by omega)
  let A : PyData := .tuple [.list (R.map .tuple), .list (C.map .tuple)]
  have gA : Gd A := by
    have g1 : ∀ (X : List (List PyData)), (∀ q ∈ X, Leaves q) → gdn 49 (.list (X.map .tuple)) = true := fun X hX => List.all_eq_true.mpr fun d hd => by
      obtain ⟨q, hq, rfl⟩ := List.mem_map.mp hd
      exact gd_leaves (hX q hq) 47
    show (gdn 49 (.list (R.map .tuple)) && (gdn 49 (.list (C.map .tuple)) && true)) = true
    rw [g1 R fun q hq => (S.rl q hq).1, g1 C fun q hq => (S.cl q hq).1]
    rfl
  have q1 := eqD_self gA
  have e5 : M_heads [.val (tabD cs04 rs), .val (pnD (pk2 w m))] = .ok A [.un, .un] := e5
  have e6 : L_heads_k04 [.val (.list ((rs.map (pvL cs04 [.col "w"])).map .tuple))] = _ := e6
  have e7 : L_heads_k04 [.val (.list ((rs.map (pvL cs04 [.fst "w" m, .band "n" w])).map .tuple))] = _ := e7
  refine ⟨_, fn_to (ρ := Sf (.val B) (.val (.list ((rs.map (pvL cs04 [.fst "w" m, .band "n" w])).map .tuple))) (.val A)) rfl rfl ?_ rfl⟩
  refine seq_to (ρ1 := [.scr ns, .own [], .un, .un, .un, .un, .un, .un, .un, .un, .un, .un, .un, .un, .un]) (by simp only [mSeq, mSet, mSetO, mSet2, mRet, mRetN, mDrop, mIfS, mIf, mB, mTru, mAnd, mOr, mNot, mAndV, mOrV, mNotV, mChain, mRaise, mNx, m1, m2, mN, mNL, mVar, mC, mNil, mCons, mLst, mTup, mDsp, mCall, mANil, mAv, mAr, mAb, hasR, hasB, toSl, VL.bs, back, mMut, heldR, setR, peekR, mLenP, mLenO, mRd, mItA, mIt, mAsg, gNm, gTp, gSeq, mYes, mSl, mPs, mPn, mKn, ok_bind, Oc.bind, Oc.opt, lenD_l, lenD_t, tupD, truD, isi_str_str, isi_str_tup, isi_str_int, isi_str_non, isi_str_lst, isi_tup_tup, isi_tup_lst, isi_tup_str, isi_tup_int, isi_tup_non, isi_lst_lst, isi_lst_tup, isi_int_int, isi_int_str, isi_int_non, isi_bool_int, isi_int_tup, isi_bool_tup, isi_bool_str, isi_bool_non, isi_lst_str, isi_lst_int, isi_lst_non, isD, isntD, isNoneD, addD_i, subD_i, seqD, appendD, List.replicate, List.append_nil, List.cons_append, List.nil_append, List.getElem?_cons_zero, List.getElem?_cons_succ, List.set_cons_zero, List.set_cons_succ, List.length_cons, List.length_nil, List.nodup_nil, List.nodup_cons, List.not_mem_nil, not_false_eq_true, and_self, Option.map, if_true, if_false, Bool.false_eq_true, Bool.not_true, Bool.not_false, Bool.and_true, Bool.true_and, Bool.false_and, Bool.and_false, finR, Sl.fin, wipeR, restR, List.getD_cons_zero, List.getD_cons_succ, decide_true, decide_false, Nat.reduceAdd, Nat.reduceLT, f0]) ?_
  refine seq_to (ρ1 := [.scr ns, .own (town k1), .val (tabD cs04 rs), .un, .un, .un, .un, .un, .un, .un, .un, .un, .un, .un, .un]) (by simp only [mSeq, mSet, mSetO, mSet2, mRet, mRetN, mDrop, mIfS, mIf, mB, mTru, mAnd, mOr, mNot, mAndV, mOrV, mNotV, mChain, mRaise, mNx, m1, m2, mN, mNL, mVar, mC, mNil, mCons, mLst, mTup, mDsp, mCall, mANil, mAv, mAr, mAb, hasR, hasB, toSl, VL.bs, back, mMut, heldR, setR, peekR, mLenP, mLenO, mRd, mItA, mIt, mAsg, gNm, gTp, gSeq, mYes, mSl, mPs, mPn, mKn, ok_bind, Oc.bind, Oc.opt, lenD_l, lenD_t, tupD, truD, isi_str_str, isi_str_tup, isi_str_int, isi_str_non, isi_str_lst, isi_tup_tup, isi_tup_lst, isi_tup_str, isi_tup_int, isi_tup_non, isi_lst_lst, isi_lst_tup, isi_int_int, isi_int_str, isi_int_non, isi_bool_int, isi_int_tup, isi_bool_tup, isi_bool_str, isi_bool_non, isi_lst_str, isi_lst_int, isi_lst_non, isD, isntD, isNoneD, addD_i, subD_i, seqD, appendD, List.replicate, List.append_nil, List.cons_append, List.nil_append, List.getElem?_cons_zero, List.getElem?_cons_succ, List.set_cons_zero, List.set_cons_succ, List.length_cons, List.length_nil, List.nodup_nil, List.nodup_cons, List.not_mem_nil, not_false_eq_true, and_self, Option.map, if_true, if_false, Bool.false_eq_true, Bool.not_true, Bool.not_false, Bool.and_true, Bool.true_and, Bool.false_and, Bool.and_false, finR, Sl.fin, wipeR, restR, List.getD_cons_zero, List.getD_cons_succ, decide_true, decide_false, Nat.reduceAdd, Nat.reduceLT, e1]) ?_
  refine seq_to (ρ1 := [.scr ns, .own (town (k1 + 1)), .val (tabD cs04 rs), .val (.int w), .un, .un, .un, .un, .un, .un, .un, .un, .un, .un, .un]) (by simp only [mSeq, mSet, mSetO, mSet2, mRet, mRetN, mDrop, mIfS, mIf, mB, mTru, mAnd, mOr, mNot, mAndV, mOrV, mNotV, mChain, mRaise, mNx, m1, m2, mN, mNL, mVar, mC, mNil, mCons, mLst, mTup, mDsp, mCall, mANil, mAv, mAr, mAb, hasR, hasB, toSl, VL.bs, back, mMut, heldR, setR, peekR, mLenP, mLenO, mRd, mItA, mIt, mAsg, gNm, gTp, gSeq, mYes, mSl, mPs, mPn, mKn, ok_bind, Oc.bind, Oc.opt, lenD_l, lenD_t, tupD, truD, isi_str_str, isi_str_tup, isi_str_int, isi_str_non, isi_str_lst, isi_tup_tup, isi_tup_lst, isi_tup_str, isi_tup_int, isi_tup_non, isi_lst_lst, isi_lst_tup, isi_int_int, isi_int_str, isi_int_non, isi_bool_int, isi_int_tup, isi_bool_tup, isi_bool_str, isi_bool_non, isi_lst_str, isi_lst_int, isi_lst_non, isD, isntD, isNoneD, addD_i, subD_i, seqD, appendD, List.replicate, List.append_nil, List.cons_append, List.nil_append, List.getElem?_cons_zero, List.getElem?_cons_succ, List.set_cons_zero, List.set_cons_succ, List.length_cons, List.length_nil, List.nodup_nil, List.nodup_cons, List.not_mem_nil, not_false_eq_true, and_self, Option.map, if_true, if_false, Bool.false_eq_true, Bool.not_true, Bool.not_false, Bool.and_true, Bool.true_and, Bool.false_and, Bool.and_false, finR, Sl.fin, wipeR, restR, List.getD_cons_zero, List.getD_cons_succ, decide_true, decide_false, Nat.reduceAdd, Nat.reduceLT, f7, e2]) ?_
  refine seq_to (ρ1 := St04 ns rs (k1 + 1 + 1) w m .un .un .un .un .un) (by simp only [mSeq, mSet, mSetO, mSet2, mRet, mRetN, mDrop, mIfS, mIf, mB, mTru, mAnd, mOr, mNot, mAndV, mOrV, mNotV, mChain, mRaise, mNx, m1, m2, mN, mNL, mVar, mC, mNil, mCons, mLst, mTup, mDsp, mCall, mANil, mAv, mAr, mAb, hasR, hasB, toSl, VL.bs, back, mMut, heldR, setR, peekR, mLenP, mLenO, mRd, mItA, mIt, mAsg, gNm, gTp, gSeq, mYes, mSl, mPs, mPn, mKn, ok_bind, Oc.bind, Oc.opt, lenD_l, lenD_t, tupD, truD, isi_str_str, isi_str_tup, isi_str_int, isi_str_non, isi_str_lst, isi_tup_tup, isi_tup_lst, isi_tup_str, isi_tup_int, isi_tup_non, isi_lst_lst, isi_lst_tup, isi_int_int, isi_int_str, isi_int_non, isi_bool_int, isi_int_tup, isi_bool_tup, isi_bool_str, isi_bool_non, isi_lst_str, isi_lst_int, isi_lst_non, isD, isntD, isNoneD, addD_i, subD_i, seqD, appendD, List.replicate, List.append_nil, List.cons_append, List.nil_append, List.getElem?_cons_zero, List.getElem?_cons_succ, List.set_cons_zero, List.set_cons_succ, List.length_cons, List.length_nil, List.nodup_nil, List.nodup_cons, List.not_mem_nil, not_false_eq_true, and_self, Option.map, if_true, if_false, Bool.false_eq_true, Bool.not_true, Bool.not_false, Bool.and_true, Bool.true_and, Bool.false_and, Bool.and_false, finR, Sl.fin, wipeR, restR, List.getD_cons_zero, List.getD_cons_succ, decide_true, decide_false, Nat.reduceAdd, Nat.reduceLT, e3, f3, f4, ← hm]; rfl) ?_
  refine seq_to e4 ?_
  refine seq_to (ρ1 := Sf (.val B) .un .un) (by simp only [St04]; simp only [mSeq, mSet, mSetO, mSet2, mRet, mRetN, mDrop, mIfS, mIf, mB, mTru, mAnd, mOr, mNot, mAndV, mOrV, mNotV, mChain, mRaise, mNx, m1, m2, mN, mNL, mVar, mC, mNil, mCons, mLst, mTup, mDsp, mCall, mANil, mAv, mAr, mAb, hasR, hasB, toSl, VL.bs, back, mMut, heldR, setR, peekR, mLenP, mLenO, mRd, mItA, mIt, mAsg, gNm, gTp, gSeq, mYes, mSl, mPs, mPn, mKn, ok_bind, Oc.bind, Oc.opt, lenD_l, lenD_t, tupD, truD, isi_str_str, isi_str_tup, isi_str_int, isi_str_non, isi_str_lst, isi_tup_tup, isi_tup_lst, isi_tup_str, isi_tup_int, isi_tup_non, isi_lst_lst, isi_lst_tup, isi_int_int, isi_int_str, isi_int_non, isi_bool_int, isi_int_tup, isi_bool_tup, isi_bool_str, isi_bool_non, isi_lst_str, isi_lst_int, isi_lst_non, isD, isntD, isNoneD, addD_i, subD_i, seqD, appendD, List.replicate, List.append_nil, List.cons_append, List.nil_append, List.getElem?_cons_zero, List.getElem?_cons_succ, List.set_cons_zero, List.set_cons_succ, List.length_cons, List.length_nil, List.nodup_nil, List.nodup_cons, List.not_mem_nil, not_false_eq_true, and_self, Option.map, if_true, if_false, Bool.false_eq_true, Bool.not_true, Bool.not_false, Bool.and_true, Bool.true_and, Bool.false_and, Bool.and_false, finR, Sl.fin, wipeR, restR, List.getD_cons_zero, List.getD_cons_succ, decide_true, decide_false, Nat.reduceAdd, Nat.reduceLT, x0, x1, f2]; rfl) ?_
  refine seq_to (ρ1 := Sf (.val B) (.val (.list ((rs.map (pvL cs04 [.fst "w" m, .band "n" w])).map .tuple))) .un) (by simp only [mSet, mLst, c3, ok_bind]; rfl) ?_
  refine seq_to (ρ1 := Sf (.val B) (.val (.list ((rs.map (pvL cs04 [.fst "w" m, .band "n" w])).map .tuple))) (.val A)) (by
    have e5 : M_heads [.val (tabD cs04 rs), .val (.tuple [.tuple [.str "w"], B, .tuple [.tuple [.str "count"]], .tuple []])] = .ok A [.un, .un] := e5
    simp only [Sf]
    simp only [mSeq, mSet, mSetO, mSet2, mRet, mRetN, mDrop, mIfS, mIf, mB, mTru, mAnd, mOr, mNot, mAndV, mOrV, mNotV, mChain, mRaise, mNx, m1, m2, mN, mNL, mVar, mC, mNil, mCons, mLst, mTup, mDsp, mCall, mANil, mAv, mAr, mAb, hasR, hasB, toSl, VL.bs, back, mMut, heldR, setR, peekR, mLenP, mLenO, mRd, mItA, mIt, mAsg, gNm, gTp, gSeq, mYes, mSl, mPs, mPn, mKn, ok_bind, Oc.bind, Oc.opt, lenD_l, lenD_t, tupD, truD, isi_str_str, isi_str_tup, isi_str_int, isi_str_non, isi_str_lst, isi_tup_tup, isi_tup_lst, isi_tup_str, isi_tup_int, isi_tup_non, isi_lst_lst, isi_lst_tup, isi_int_int, isi_int_str, isi_int_non, isi_bool_int, isi_int_tup, isi_bool_tup, isi_bool_str, isi_bool_non, isi_lst_str, isi_lst_int, isi_lst_non, isD, isntD, isNoneD, addD_i, subD_i, seqD, appendD, List.replicate, List.append_nil, List.cons_append, List.nil_append, List.getElem?_cons_zero, List.getElem?_cons_succ, List.set_cons_zero, List.set_cons_succ, List.length_cons, List.length_nil, List.nodup_nil, List.nodup_cons, List.not_mem_nil, not_false_eq_true, and_self, Option.map, if_true, if_false, Bool.false_eq_true, Bool.not_true, Bool.not_false, Bool.and_true, Bool.true_and, Bool.false_and, Bool.and_false, finR, Sl.fin, wipeR, restR, List.getD_cons_zero, List.getD_cons_succ, decide_true, decide_false, Nat.reduceAdd, Nat.reduceLT, x2, f1, f4, f0, e5]) ?_
  simp only [Sf] at c4 ⊢
  simp only [mSeq, mSet, mSetO, mSet2, mRet, mRetN, mDrop, mIfS, mIf, mB, mTru, mAnd, mOr, mNot, mAndV, mOrV, mNotV, mChain, mRaise, mNx, m1, m2, mN, mNL, mVar, mC, mNil, mCons, mLst, mTup, mDsp, mCall, mANil, mAv, mAr, mAb, hasR, hasB, toSl, VL.bs, back, mMut, heldR, setR, peekR, mLenP, mLenO, mRd, mItA, mIt, mAsg, gNm, gTp, gSeq, mYes, mSl, mPs, mPn, mKn, ok_bind, Oc.bind, Oc.opt, lenD_l, lenD_t, tupD, truD, isi_str_str, isi_str_tup, isi_str_int, isi_str_non, isi_str_lst, isi_tup_tup, isi_tup_lst, isi_tup_str, isi_tup_int, isi_tup_non, isi_lst_lst, isi_lst_tup, isi_int_int, isi_int_str, isi_int_non, isi_bool_int, isi_int_tup, isi_bool_tup, isi_bool_str, isi_bool_non, isi_lst_str, isi_lst_int, isi_lst_non, isD, isntD, isNoneD, addD_i, subD_i, seqD, appendD, List.replicate, List.append_nil, List.cons_append, List.nil_append, List.getElem?_cons_zero, List.getElem?_cons_succ, List.set_cons_zero, List.set_cons_succ, List.length_cons, List.length_nil, List.nodup_nil, List.nodup_cons, List.not_mem_nil, not_false_eq_true, and_self, Option.map, if_true, if_false, Bool.false_eq_true, Bool.not_true, Bool.not_false, Bool.and_true, Bool.true_and, Bool.false_and, Bool.and_false, finR, Sl.fin, wipeR, restR, List.getD_cons_zero, List.getD_cons_succ, decide_true, decide_false, Nat.reduceAdd, Nat.reduceLT, c4, e6, e7, f2, q1, A]
end VL

set_option Elab.async false
set_option linter.all false
set_option maxRecDepth 100000
set_option maxHeartbeats 4000000
namespace VL
open PySem PySem.Spec PyProof.Rows L2
def top (i : Nat) : Stmt := PySem.Challenge.pw_sumsheets_k04_whole_keys.main.body.getD i (.Pass ⟨0, 0, 0, 0⟩)
structure Txt (K : PySem.W.Frag) (mg : Str → Option Value) (T : VT) : Prop where
  b : Blt mg
  c_SMALL : CStr mg "SMALL" "abcdefghijklmnopqrstuvwxyz"
  c_MOST_COLUMNS : CInt mg "MOST_COLUMNS" 6
  c_MOST_ROWS : CInt mg "MOST_ROWS" 24
  c_MOST_WORD : CInt mg "MOST_WORD" 8
  c_MOST_NUMBER : CInt mg "MOST_NUMBER" 1000000
  c_KINDS : CDat K mg "KINDS" (.tuple [(.str "word"), (.str "number")])
  c_MOST_KEYS : CInt mg "MOST_KEYS" 3
  c_MOST_SUMS : CInt mg "MOST_SUMS" 4
  c_MOST_SIFTS : CInt mg "MOST_SIFTS" 3
  c_OF_NUMBERS : CDat K mg "OF_NUMBERS" (.tuple [(.str "sum"), (.str "least"), (.str "greatest"), (.str "mean")])
  c_SHARES : CDat K mg "SHARES" (.tuple [(.str "of all"), (.str "of row"), (.str "of column")])
  x_BadTable : Exc K mg T "BadTable" 0
  x_BadRow : Exc K mg T "BadRow" 1
  x_BadPlan : Exc K mg T "BadPlan" 2
  x_NoPlace : Exc K mg T "NoPlace" 3
  f_is_key : mg "is_key" = some (.ref (T.fa 0))
  f_is_sift : mg "is_sift" = some (.ref (T.fa 2))
  f_is_sum : mg "is_sum" = some (.ref (T.fa 1))
section
variable {P : Program} {w : World} {K : PySem.W.Frag} {mg : Str → Option Value} {base : Heap} {T : VT}
abbrev s_is_whole : Stmt := top 13
theorem sc_is_whole : FnScope ["thing", "low", "most"] ["thing", "low", "most"] (defScope s_is_whole) := ⟨rfl, rfl, rfl, by decide +kernel, rfl, by decide +kernel, by decide +kernel⟩
theorem ok_is_whole (T_ : Txt K mg T) (F : At K mg "is_whole" s_is_whole ["thing", "low", "most"])  : Does P w K mg base T "is_whole" ["thing", "low", "most"] 1 M_is_whole :=
 does F sc_is_whole 0 rfl fun f cdv A outer s H E hr => by
  have nd := sc_is_whole.nd
  have hu := hr.units
  have tk0 : Takes (cxOf (L2.CX P w) P w K mg base ["thing", "low", "most"] "is_whole" (defScope s_is_whole) f cdv A outer s H E) (WOf E) := takes_of rfl rfl rfl rfl
  have ps0 : PassesOwn (model P w) (cxOf (L2.CX P w) P w K mg base ["thing", "low", "most"] "is_whole" (defScope s_is_whole) f cdv A outer s H E).A (cxOf (L2.CX P w) P w K mg base ["thing", "low", "most"] "is_whole" (defScope s_is_whole) f cdv A outer s H E).env (cxOf (L2.CX P w) P w K mg base ["thing", "low", "most"] "is_whole" (defScope s_is_whole) f cdv A outer s H E).xe := passes_of rfl
  exact (sone (sret (xand (xisi (t := "int") (by rfl) T_.b.isinstance (by rfl) T_.b.int b_int (by decide) (xv 0)) (xand (xnot (xisi (t := "bool") (by rfl) T_.b.isinstance (by rfl) T_.b.bool b_bool (by decide) (xv 0))) (xone (xchain op_le op_le pure_le pure_le (fun _ _ _ h => le_bool h) (xv 1) (xv 0) (xv 2) (by with_unfolding_all rfl)))))))
abbrev s_is_word : Stmt := top 14
theorem sc_is_word : FnScope ["thing", "sign"] ["thing"] (defScope s_is_word) := ⟨rfl, rfl, rfl, by decide +kernel, rfl, by decide +kernel, by decide +kernel⟩
theorem ok_is_word (T_ : Txt K mg T) (F : At K mg "is_word" s_is_word ["thing"])  : Does P w K mg base T "is_word" ["thing"] 1 M_is_word :=
 does F sc_is_word 1 rfl fun f cdv A outer s H E hr => by
  have nd := sc_is_word.nd
  have hu := hr.units
  have tk0 : Takes (cxOf (L2.CX P w) P w K mg base ["thing", "sign"] "is_word" (defScope s_is_word) f cdv A outer s H E) (WOf E) := takes_of rfl rfl rfl rfl
  have ps0 : PassesOwn (model P w) (cxOf (L2.CX P w) P w K mg base ["thing", "sign"] "is_word" (defScope s_is_word) f cdv A outer s H E).A (cxOf (L2.CX P w) P w K mg base ["thing", "sign"] "is_word" (defScope s_is_word) f cdv A outer s H E).env (cxOf (L2.CX P w) P w K mg base ["thing", "sign"] "is_word" (defScope s_is_word) f cdv A outer s H E).xe := passes_of rfl
  exact (sone (sret (xand (xisi (t := "str") (by rfl) T_.b.isinstance (by rfl) T_.b.str b_str (by decide) (xv 0)) (xand (xchain op_le op_le pure_le pure_le (fun _ _ _ h => le_bool h) xint (xcb call_len pure_len (by rfl) T_.b.len b_len (dcons (xv 0) dnil)) (xci (by rfl) T_.c_MOST_WORD) (by with_unfolding_all rfl)) (xone (xcb (cr_all rfl) pure_all (by rfl) T_.b.all b_all (dcons (xl (llc [("sign", 1)] rfl nd (istr (xv 0)) (blkOk_by (by kernel_rfl)) (fun _ _ _ _ _ => (gnm 1 nd)) (fun _ _ _ _ _ => pts_nilM) (fun _ _ _ _ _ => (xcmp (op_inA hu) pure_in (xv 1) (xcs (by rfl) T_.c_SMALL) (by rfl))) (by decide))) dnil)))))))
abbrev s_place_of : Stmt := top 20
theorem sc_place_of : FnScope ["columns", "name", "some", "k"] ["columns", "name"] (defScope s_place_of) := ⟨rfl, rfl, rfl, by decide +kernel, rfl, by decide +kernel, by decide +kernel⟩
theorem ok_place_of (T_ : Txt K mg T) (F : At K mg "place_of" s_place_of ["columns", "name"])  : Does P w K mg base T "place_of" ["columns", "name"] 1 M_place_of :=
 does F sc_place_of 2 rfl fun f cdv A outer s H E hr => by
  have nd := sc_place_of.nd
  have hu := hr.units
  have tk0 : Takes (cxOf (L2.CX P w) P w K mg base ["columns", "name", "some", "k"] "place_of" (defScope s_place_of) f cdv A outer s H E) (WOf E) := takes_of rfl rfl rfl rfl
  have ps0 : PassesOwn (model P w) (cxOf (L2.CX P w) P w K mg base ["columns", "name", "some", "k"] "place_of" (defScope s_place_of) f cdv A outer s H E).A (cxOf (L2.CX P w) P w K mg base ["columns", "name", "some", "k"] "place_of" (defScope s_place_of) f cdv A outer s H E).env (cxOf (L2.CX P w) P w K mg base ["columns", "name", "some", "k"] "place_of" (defScope s_place_of) f cdv A outer s H E).xe := passes_of rfl
  exact (scons (ssetLc 2 [("k", 3)] rfl nd (irng1 (by rfl) T_.b.range (dcons (xcb call_len pure_len (by rfl) T_.b.len b_len (dcons (xv 0) dnil)) dnil)) (blkOk_by (by kernel_rfl)) (fun _ _ _ _ _ => (gnm 3 nd)) (fun _ _ _ _ _ => (pts_one (tcmp (op_eqP hu) pure_eq (xix (xix (xv 0) (xv 3)) xint) (xv 1) (nomark _)))) (fun _ _ _ _ _ => (xv 3)) (by decide) (sw_true rfl rfl rfl (by decide +kernel)))
 (sone (sret (xif (ttru (xv 2)) (xix (xv 2) xint) xnon))))
abbrev s_rank : Stmt := top 22
theorem sc_rank : FnScope ["value"] ["value"] (defScope s_rank) := ⟨rfl, rfl, rfl, by decide +kernel, rfl, by decide +kernel, by decide +kernel⟩
theorem ok_rank (T_ : Txt K mg T) (F : At K mg "rank" s_rank ["value"])  : Does P w K mg base T "rank" ["value"] 1 M_rank :=
 does F sc_rank 0 rfl fun f cdv A outer s H E hr => by
  have nd := sc_rank.nd
  have hu := hr.units
  have tk0 : Takes (cxOf (L2.CX P w) P w K mg base ["value"] "rank" (defScope s_rank) f cdv A outer s H E) (WOf E) := takes_of rfl rfl rfl rfl
  have ps0 : PassesOwn (model P w) (cxOf (L2.CX P w) P w K mg base ["value"] "rank" (defScope s_rank) f cdv A outer s H E).A (cxOf (L2.CX P w) P w K mg base ["value"] "rank" (defScope s_rank) f cdv A outer s H E).env (cxOf (L2.CX P w) P w K mg base ["value"] "rank" (defScope s_rank) f cdv A outer s H E).xe := passes_of rfl
  exact (scons (sif (tcmp op_isN pure_is (xv 0) xnon (nomark _)) (sone (sret (xtup (dcons xint (dcons xint (dcons xstr dnil)))))) snil)
 (sone (sret (xif (ttru (xisi (t := "int") (by rfl) T_.b.isinstance (by rfl) T_.b.int b_int (by decide) (xv 0))) (xtup (dcons xint (dcons (xv 0) (dcons xstr dnil)))) (xtup (dcons xint (dcons xint (dcons (xv 0) dnil))))))))
abbrev s_begins : Stmt := top 44
theorem sc_begins : FnScope ["path", "head"] ["path", "head"] (defScope s_begins) := ⟨rfl, rfl, rfl, by decide +kernel, rfl, by decide +kernel, by decide +kernel⟩
theorem ok_begins (T_ : Txt K mg T) (F : At K mg "begins" s_begins ["path", "head"])  : Does P w K mg base T "begins" ["path", "head"] 1 M_begins :=
 does F sc_begins 0 rfl fun f cdv A outer s H E hr => by
  have nd := sc_begins.nd
  have hu := hr.units
  have tk0 : Takes (cxOf (L2.CX P w) P w K mg base ["path", "head"] "begins" (defScope s_begins) f cdv A outer s H E) (WOf E) := takes_of rfl rfl rfl rfl
  have ps0 : PassesOwn (model P w) (cxOf (L2.CX P w) P w K mg base ["path", "head"] "begins" (defScope s_begins) f cdv A outer s H E).A (cxOf (L2.CX P w) P w K mg base ["path", "head"] "begins" (defScope s_begins) f cdv A outer s H E).env (cxOf (L2.CX P w) P w K mg base ["path", "head"] "begins" (defScope s_begins) f cdv A outer s H E).xe := passes_of rfl
  exact (sone (sret (xcmp (op_eqP hu) pure_eq (xsl (xv 0) opn (ops (xcb call_len pure_len (by rfl) T_.b.len b_len (dcons (xv 1) dnil)))) (xv 1) (nomark _))))
abbrev s__law_cell : Stmt := top 49
theorem sc__law_cell : FnScope ["_law_script", "_law_k"] ["_law_script", "_law_k"] (defScope s__law_cell) := ⟨rfl, rfl, rfl, by decide +kernel, rfl, by decide +kernel, by decide +kernel⟩
theorem ok__law_cell (T_ : Txt K mg T) (F : At K mg "_law_cell" s__law_cell ["_law_script", "_law_k"])  : Does P w K mg base T "_law_cell" ["_law_script", "_law_k"] 1 L_cell :=
 does F sc__law_cell 0 rfl fun f cdv A outer s H E hr => by
  have nd := sc__law_cell.nd
  have hu := hr.units
  have tk0 : Takes (cxOf (L2.CX P w) P w K mg base ["_law_script", "_law_k"] "_law_cell" (defScope s__law_cell) f cdv A outer s H E) (WOf E) := takes_of rfl rfl rfl rfl
  have ps0 : PassesOwn (model P w) (cxOf (L2.CX P w) P w K mg base ["_law_script", "_law_k"] "_law_cell" (defScope s__law_cell) f cdv A outer s H E).A (cxOf (L2.CX P w) P w K mg base ["_law_script", "_law_k"] "_law_cell" (defScope s__law_cell) f cdv A outer s H E).env (cxOf (L2.CX P w) P w K mg base ["_law_script", "_law_k"] "_law_cell" (defScope s__law_cell) f cdv A outer s H E).xe := passes_of rfl
  exact (scons (sif (tscr 0) (sone (sret (xscrIx 0 (xop op_modN pure_mod (xv 1) (xscrLen 0 (by rfl) T_.b.len))))) snil)
 (sone (sret xint)))
abbrev s__law_mark : Stmt := top 58
theorem sc__law_mark : FnScope ["_law_path", "_law_one"] ["_law_path"] (defScope s__law_mark) := ⟨rfl, rfl, rfl, by decide +kernel, rfl, by decide +kernel, by decide +kernel⟩
theorem ok__law_mark (T_ : Txt K mg T) (F : At K mg "_law_mark" s__law_mark ["_law_path"])  : Does P w K mg base T "_law_mark" ["_law_path"] 1 L_mark_k04 :=
 does F sc__law_mark 1 rfl fun f cdv A outer s H E hr => by
  have nd := sc__law_mark.nd
  have hu := hr.units
  have tk0 : Takes (cxOf (L2.CX P w) P w K mg base ["_law_path", "_law_one"] "_law_mark" (defScope s__law_mark) f cdv A outer s H E) (WOf E) := takes_of rfl rfl rfl rfl
  have ps0 : PassesOwn (model P w) (cxOf (L2.CX P w) P w K mg base ["_law_path", "_law_one"] "_law_mark" (defScope s__law_mark) f cdv A outer s H E).A (cxOf (L2.CX P w) P w K mg base ["_law_path", "_law_one"] "_law_mark" (defScope s__law_mark) f cdv A outer s H E).env (cxOf (L2.CX P w) P w K mg base ["_law_path", "_law_one"] "_law_mark" (defScope s__law_mark) f cdv A outer s H E).xe := passes_of rfl
  exact (sone (sret (xl (llc [("_law_one", 1)] rfl nd (iany (xv 0)) (blkOk_by (by kernel_rfl)) (fun _ _ _ _ _ => (gnm 1 nd)) (fun _ _ _ _ _ => pts_nilM) (fun _ _ _ _ _ => (xif (tcmp op_isN pure_is (xv 1) xnon (nomark _)) (xtup (dcons xint (dcons xint (dcons xstr dnil)))) (xif (ttru (xisi (t := "str") (by rfl) T_.b.isinstance (by rfl) T_.b.str b_str (by decide) (xv 1))) (xtup (dcons xint (dcons xint (dcons (xv 1) dnil)))) (xtup (dcons xint (dcons (xv 1) (dcons xstr dnil))))))) (by decide)))))
abbrev s__law_made : Stmt := top 60
theorem sc__law_made : FnScope ["_law_value_here", "_law_key", "_law_found", "_law_letter", "_law_low"] ["_law_value_here", "_law_key"] (defScope s__law_made) := ⟨rfl, rfl, rfl, by decide +kernel, rfl, by decide +kernel, by decide +kernel⟩
theorem ok__law_made (T_ : Txt K mg T) (F : At K mg "_law_made" s__law_made ["_law_value_here", "_law_key"])  : Does P w K mg base T "_law_made" ["_law_value_here", "_law_key"] 1 L_made :=
 does F sc__law_made 3 rfl fun f cdv A outer s H E hr => by
  have nd := sc__law_made.nd
  have hu := hr.units
  have tk0 : Takes (cxOf (L2.CX P w) P w K mg base ["_law_value_here", "_law_key", "_law_found", "_law_letter", "_law_low"] "_law_made" (defScope s__law_made) f cdv A outer s H E) (WOf E) := takes_of rfl rfl rfl rfl
  have ps0 : PassesOwn (model P w) (cxOf (L2.CX P w) P w K mg base ["_law_value_here", "_law_key", "_law_found", "_law_letter", "_law_low"] "_law_made" (defScope s__law_made) f cdv A outer s H E).A (cxOf (L2.CX P w) P w K mg base ["_law_value_here", "_law_key", "_law_found", "_law_letter", "_law_low"] "_law_made" (defScope s__law_made) f cdv A outer s H E).env (cxOf (L2.CX P w) P w K mg base ["_law_value_here", "_law_key", "_law_found", "_law_letter", "_law_low"] "_law_made" (defScope s__law_made) f cdv A outer s H E).xe := passes_of rfl
  exact (scons (sif (tw (wor (tcmp op_isN pure_is (xv 0) xnon (nomark _)) (wor1 (ttru (xisi (t := "str") (by rfl) T_.b.isinstance (by rfl) T_.b.str b_str (by decide) (xv 1)))))) (sone (sret (xv 0))) snil)
 (scons (sif (tcmp (op_eqP hu) pure_eq (xix (xv 1) xint) xstr (nomark _)) (scons (sset 2 nd xstr)
 (scons (sfor ps0 rfl (istr (xv 0)) (gnm 3 nd) (sone (sset 2 nd (xif (tcmp op_lt pure_lt (xcb call_len pure_len (by rfl) T_.b.len b_len (dcons (xv 2) dnil)) (xix (xv 1) xint) (nomark _)) (xop op_addD pure_add (xv 2) (xv 3)) (xv 2)))))
 (sone (sret (xv 2))))) snil)
 (scons (sset 4 nd (xif (tcmp op_lt pure_lt (xv 0) xint (nomark _)) (xop op_sub pure_sub xint (xop op_mulD pure_mulD (xop op_fdivW pure_div (xop op_sub pure_sub xint (xv 0)) (xix (xv 1) xint)) (xix (xv 1) xint))) (xop op_mulD pure_mulD (xop op_fdivW pure_div (xv 0) (xix (xv 1) xint)) (xix (xv 1) xint))))
 (sone (sret (xif (tcmp op_gt pure_gt (xv 4) (xv 0) (nomark _)) (xop op_sub pure_sub (xv 4) (xix (xv 1) xint)) (xv 4)))))))
abbrev s_is_value : Stmt := top 15
theorem sc_is_value : FnScope ["kind", "thing"] ["kind", "thing"] (defScope s_is_value) := ⟨rfl, rfl, rfl, by decide +kernel, rfl, by decide +kernel, by decide +kernel⟩
theorem ok_is_value (T_ : Txt K mg T) (F : At K mg "is_value" s_is_value ["kind", "thing"]) (D_is_whole : Does P w K mg base T "is_whole" ["thing", "low", "most"] 1 M_is_whole) (D_is_word : Does P w K mg base T "is_word" ["thing"] 1 M_is_word) : Does P w K mg base T "is_value" ["kind", "thing"] 2 M_is_value :=
 does F sc_is_value 0 rfl fun f cdv A outer s H E hr => by
  have nd := sc_is_value.nd
  have hu := hr.units
  have tk0 : Takes (cxOf (L2.CX P w) P w K mg base ["kind", "thing"] "is_value" (defScope s_is_value) f cdv A outer s H E) (WOf E) := takes_of rfl rfl rfl rfl
  have ps0 : PassesOwn (model P w) (cxOf (L2.CX P w) P w K mg base ["kind", "thing"] "is_value" (defScope s_is_value) f cdv A outer s H E).A (cxOf (L2.CX P w) P w K mg base ["kind", "thing"] "is_value" (defScope s_is_value) f cdv A outer s H E).env (cxOf (L2.CX P w) P w K mg base ["kind", "thing"] "is_value" (defScope s_is_value) f cdv A outer s H E).xe := passes_of rfl
  exact (scons (sif (tcmp op_isN pure_is (xv 1) xnon (nomark _)) (sone (sret xbl)) snil)
 (sone (sret (xif (tcmp (op_eqP hu) pure_eq (xv 0) xstr (nomark _)) (xdo D_is_word (hr.mono (by decide)) (by rfl) tk0 (av (xv 1) anil)) (xdo D_is_whole (hr.mono (by decide)) (by rfl) tk0 (av (xv 1) (av (xop op_sub pure_sub xint (xci (by rfl) T_.c_MOST_NUMBER)) (av (xci (by rfl) T_.c_MOST_NUMBER) anil))))))))
abbrev s_are_columns : Stmt := top 16
theorem sc_are_columns : FnScope ["thing", "one"] ["thing"] (defScope s_are_columns) := ⟨rfl, rfl, rfl, by decide +kernel, rfl, by decide +kernel, by decide +kernel⟩
theorem ok_are_columns (T_ : Txt K mg T) (F : At K mg "are_columns" s_are_columns ["thing"]) (D_is_word : Does P w K mg base T "is_word" ["thing"] 1 M_is_word) : Does P w K mg base T "are_columns" ["thing"] 2 M_are_columns :=
 does F sc_are_columns 1 rfl fun f cdv A outer s H E hr => by
  have nd := sc_are_columns.nd
  have hu := hr.units
  have tk0 : Takes (cxOf (L2.CX P w) P w K mg base ["thing", "one"] "are_columns" (defScope s_are_columns) f cdv A outer s H E) (WOf E) := takes_of rfl rfl rfl rfl
  have ps0 : PassesOwn (model P w) (cxOf (L2.CX P w) P w K mg base ["thing", "one"] "are_columns" (defScope s_are_columns) f cdv A outer s H E).A (cxOf (L2.CX P w) P w K mg base ["thing", "one"] "are_columns" (defScope s_are_columns) f cdv A outer s H E).env (cxOf (L2.CX P w) P w K mg base ["thing", "one"] "are_columns" (defScope s_are_columns) f cdv A outer s H E).xe := passes_of rfl
  exact (scons (sif (tw (wor (tnot (ttru (xisi (t := "tuple") (by rfl) T_.b.isinstance (by rfl) T_.b.tuple b_tuple (by decide) (xv 0)))) (wor1 (tnot (tchain op_le op_le pure_le pure_le (fun _ _ _ h => le_bool h) xint (xcb call_len pure_len (by rfl) T_.b.len b_len (dcons (xv 0) dnil)) (xci (by rfl) T_.c_MOST_COLUMNS) (by with_unfolding_all rfl)))))) (sone (sret xbl)) snil)
 (scons (sif (tnot (ttru (xcb (cr_all rfl) pure_all (by rfl) T_.b.all b_all (dcons (xl (llc [("one", 1)] rfl nd (iany (xv 0)) (blkOk_by (by kernel_rfl)) (fun _ _ _ _ _ => (gnm 1 nd)) (fun _ _ _ _ _ => pts_nilM) (fun _ _ _ _ _ => (xand (xisi (t := "tuple") (by rfl) T_.b.isinstance (by rfl) T_.b.tuple b_tuple (by decide) (xv 1)) (xand (xcmp (op_eqP hu) pure_eq (xcb call_len pure_len (by rfl) T_.b.len b_len (dcons (xv 1) dnil)) xint (nomark _)) (xone (xdo D_is_word (hr.mono (by decide)) (by rfl) takes0 (av (xix (xv 1) xint) anil)))))) (by decide))) dnil)))) (sone (sret xbl)) snil)
 (scons (sif (tnot (ttru (xcb (cr_all rfl) pure_all (by rfl) T_.b.all b_all (dcons (xl (llc [("one", 1)] rfl nd (iany (xv 0)) (blkOk_by (by kernel_rfl)) (fun _ _ _ _ _ => (gnm 1 nd)) (fun _ _ _ _ _ => pts_nilM) (fun _ _ _ _ _ => (xand (xisi (t := "str") (by rfl) T_.b.isinstance (by rfl) T_.b.str b_str (by decide) (xix (xv 1) xint)) (xone (xcmp (op_inA hu) pure_in (xix (xv 1) xint) (xcd (by rfl) T_.c_KINDS) (by rfl))))) (by decide))) dnil)))) (sone (sret xbl)) snil)
 (sone (sret (xcmp (op_eqP hu) pure_eq (xlenset (by rfl) T_.b.len (by rfl) T_.b.set (xl (llc [("one", 1)] rfl nd (iany (xv 0)) (blkOk_by (by kernel_rfl)) (fun _ _ _ _ _ => (gnm 1 nd)) (fun _ _ _ _ _ => pts_nilM) (fun _ _ _ _ _ => (xix (xv 1) xint)) (by decide))) rfl) (xcb call_len pure_len (by rfl) T_.b.len b_len (dcons (xv 0) dnil)) (nomark _)))))))
abbrev s_kind_of : Stmt := top 21
theorem sc_kind_of : FnScope ["columns", "name", "place"] ["columns", "name"] (defScope s_kind_of) := ⟨rfl, rfl, rfl, by decide +kernel, rfl, by decide +kernel, by decide +kernel⟩
theorem ok_kind_of (T_ : Txt K mg T) (F : At K mg "kind_of" s_kind_of ["columns", "name"]) (D_is_word : Does P w K mg base T "is_word" ["thing"] 1 M_is_word) (D_place_of : Does P w K mg base T "place_of" ["columns", "name"] 1 M_place_of) : Does P w K mg base T "kind_of" ["columns", "name"] 2 M_kind_of :=
 does F sc_kind_of 1 rfl fun f cdv A outer s H E hr => by
  have nd := sc_kind_of.nd
  have hu := hr.units
  have tk0 : Takes (cxOf (L2.CX P w) P w K mg base ["columns", "name", "place"] "kind_of" (defScope s_kind_of) f cdv A outer s H E) (WOf E) := takes_of rfl rfl rfl rfl
  have ps0 : PassesOwn (model P w) (cxOf (L2.CX P w) P w K mg base ["columns", "name", "place"] "kind_of" (defScope s_kind_of) f cdv A outer s H E).A (cxOf (L2.CX P w) P w K mg base ["columns", "name", "place"] "kind_of" (defScope s_kind_of) f cdv A outer s H E).env (cxOf (L2.CX P w) P w K mg base ["columns", "name", "place"] "kind_of" (defScope s_kind_of) f cdv A outer s H E).xe := passes_of rfl
  exact (scons (sset 2 nd (xif (ttru (xdo D_is_word (hr.mono (by decide)) (by rfl) tk0 (av (xv 1) anil))) (xdo D_place_of (hr.mono (by decide)) (by rfl) tk0 (av (xv 0) (av (xv 1) anil))) xnon))
 (sone (sret (xif (tcmp op_isN pure_is (xv 2) xnon (nomark _)) xnon (xix (xix (xv 0) (xv 2)) xint)))))
abbrev s_ranked : Stmt := top 23
theorem sc_ranked : FnScope ["path", "value"] ["path"] (defScope s_ranked) := ⟨rfl, rfl, rfl, by decide +kernel, rfl, by decide +kernel, by decide +kernel⟩
theorem ok_ranked (T_ : Txt K mg T) (F : At K mg "ranked" s_ranked ["path"]) (D_rank : Does P w K mg base T "rank" ["value"] 1 M_rank) : Does P w K mg base T "ranked" ["path"] 2 M_ranked :=
 does F sc_ranked 1 rfl fun f cdv A outer s H E hr => by
  have nd := sc_ranked.nd
  have hu := hr.units
  have tk0 : Takes (cxOf (L2.CX P w) P w K mg base ["path", "value"] "ranked" (defScope s_ranked) f cdv A outer s H E) (WOf E) := takes_of rfl rfl rfl rfl
  have ps0 : PassesOwn (model P w) (cxOf (L2.CX P w) P w K mg base ["path", "value"] "ranked" (defScope s_ranked) f cdv A outer s H E).A (cxOf (L2.CX P w) P w K mg base ["path", "value"] "ranked" (defScope s_ranked) f cdv A outer s H E).env (cxOf (L2.CX P w) P w K mg base ["path", "value"] "ranked" (defScope s_ranked) f cdv A outer s H E).xe := passes_of rfl
  exact (sone (sret (xl (llc [("value", 1)] rfl nd (iany (xv 0)) (blkOk_by (by kernel_rfl)) (fun _ _ _ _ _ => (gnm 1 nd)) (fun _ _ _ _ _ => pts_nilM) (fun _ _ _ _ _ => (xdo D_rank (hr.mono (by decide)) (by rfl) takes0 (av (xv 1) anil))) (by decide)))))
abbrev s_key_in : Stmt := top 35
theorem sc_key_in : FnScope ["columns", "key", "row", "value"] ["columns", "key", "row"] (defScope s_key_in) := ⟨rfl, rfl, rfl, by decide +kernel, rfl, by decide +kernel, by decide +kernel⟩
theorem ok_key_in (T_ : Txt K mg T) (F : At K mg "key_in" s_key_in ["columns", "key", "row"]) (D_place_of : Does P w K mg base T "place_of" ["columns", "name"] 1 M_place_of) : Does P w K mg base T "key_in" ["columns", "key", "row"] 2 M_key_in :=
 does F sc_key_in 1 rfl fun f cdv A outer s H E hr => by
  have nd := sc_key_in.nd
  have hu := hr.units
  have tk0 : Takes (cxOf (L2.CX P w) P w K mg base ["columns", "key", "row", "value"] "key_in" (defScope s_key_in) f cdv A outer s H E) (WOf E) := takes_of rfl rfl rfl rfl
  have ps0 : PassesOwn (model P w) (cxOf (L2.CX P w) P w K mg base ["columns", "key", "row", "value"] "key_in" (defScope s_key_in) f cdv A outer s H E).A (cxOf (L2.CX P w) P w K mg base ["columns", "key", "row", "value"] "key_in" (defScope s_key_in) f cdv A outer s H E).env (cxOf (L2.CX P w) P w K mg base ["columns", "key", "row", "value"] "key_in" (defScope s_key_in) f cdv A outer s H E).xe := passes_of rfl
  exact (scons (sif (ttru (xisi (t := "str") (by rfl) T_.b.isinstance (by rfl) T_.b.str b_str (by decide) (xv 1))) (sone (sret (xix (xv 2) (xdo D_place_of (hr.mono (by decide)) (by rfl) tk0 (av (xv 0) (av (xv 1) anil)))))) snil)
 (scons (sset 3 nd (xix (xv 2) (xdo D_place_of (hr.mono (by decide)) (by rfl) tk0 (av (xv 0) (av (xix (xv 1) xint) anil)))))
 (scons (sif (tcmp op_isN pure_is (xv 3) xnon (nomark _)) (sone (sret xnon)) snil)
 (sone (sret (xif (tcmp (op_eqP hu) pure_eq (xix (xv 1) xint) xstr (nomark _)) (xop op_mulD pure_mulD (xop op_fdivW pure_div (xv 3) (xix (xv 1) xint)) (xix (xv 1) xint)) (xsl (xv 3) opn (ops (xix (xv 1) xint)))))))))
abbrev s_counts : Stmt := top 37
theorem sc_counts : FnScope ["columns", "sifts", "row", "sift", "value"] ["columns", "sifts", "row"] (defScope s_counts) := ⟨rfl, rfl, rfl, by decide +kernel, rfl, by decide +kernel, by decide +kernel⟩
theorem ok_counts (T_ : Txt K mg T) (F : At K mg "counts" s_counts ["columns", "sifts", "row"]) (D_place_of : Does P w K mg base T "place_of" ["columns", "name"] 1 M_place_of) : Does P w K mg base T "counts" ["columns", "sifts", "row"] 2 M_counts :=
 does F sc_counts 2 rfl fun f cdv A outer s H E hr => by
  have nd := sc_counts.nd
  have hu := hr.units
  have tk0 : Takes (cxOf (L2.CX P w) P w K mg base ["columns", "sifts", "row", "sift", "value"] "counts" (defScope s_counts) f cdv A outer s H E) (WOf E) := takes_of rfl rfl rfl rfl
  have ps0 : PassesOwn (model P w) (cxOf (L2.CX P w) P w K mg base ["columns", "sifts", "row", "sift", "value"] "counts" (defScope s_counts) f cdv A outer s H E).A (cxOf (L2.CX P w) P w K mg base ["columns", "sifts", "row", "sift", "value"] "counts" (defScope s_counts) f cdv A outer s H E).env (cxOf (L2.CX P w) P w K mg base ["columns", "sifts", "row", "sift", "value"] "counts" (defScope s_counts) f cdv A outer s H E).xe := passes_of rfl
  exact (scons (sfor ps0 rfl (iany (xv 1)) (gnm 3 nd) (scons (sset 4 nd (xix (xv 2) (xdo D_place_of (hr.mono (by decide)) (by rfl) tk0 (av (xv 0) (av (xix (xv 3) xint) anil)))))
 (sone (sif (tcmp (op_eqP hu) pure_eq (xix (xv 3) xint) xstr (nomark _)) (sone (sif (tw (wor (tcmp op_isN pure_is (xv 4) xnon (nomark _)) (wor1 (tnot (tchain op_le op_le pure_le pure_le (fun _ _ _ h => le_bool h) (xix (xv 3) xint) (xv 4) (xix (xv 3) xint) (by with_unfolding_all rfl)))))) (sone (sret xbl)) snil)) (sone (sif (tcmp (op_neP hu) pure_ne (xcmp (op_eqP hu) pure_eq (xv 4) (xix (xv 3) xint) (nomark _)) (xcmp (op_eqP hu) pure_eq (xix (xv 3) xint) xstr (nomark _)) (nomark _)) (sone (sret xbl)) snil))))))
 (sone (sret xbl)))
abbrev s_members : Stmt := top 45
theorem sc_members : FnScope ["some", "row_path", "column_path", "one"] ["some", "row_path", "column_path"] (defScope s_members) := ⟨rfl, rfl, rfl, by decide +kernel, rfl, by decide +kernel, by decide +kernel⟩
theorem ok_members (T_ : Txt K mg T) (F : At K mg "members" s_members ["some", "row_path", "column_path"]) (D_begins : Does P w K mg base T "begins" ["path", "head"] 1 M_begins) : Does P w K mg base T "members" ["some", "row_path", "column_path"] 2 M_members :=
 does F sc_members 1 rfl fun f cdv A outer s H E hr => by
  have nd := sc_members.nd
  have hu := hr.units
  have tk0 : Takes (cxOf (L2.CX P w) P w K mg base ["some", "row_path", "column_path", "one"] "members" (defScope s_members) f cdv A outer s H E) (WOf E) := takes_of rfl rfl rfl rfl
  have ps0 : PassesOwn (model P w) (cxOf (L2.CX P w) P w K mg base ["some", "row_path", "column_path", "one"] "members" (defScope s_members) f cdv A outer s H E).A (cxOf (L2.CX P w) P w K mg base ["some", "row_path", "column_path", "one"] "members" (defScope s_members) f cdv A outer s H E).env (cxOf (L2.CX P w) P w K mg base ["some", "row_path", "column_path", "one"] "members" (defScope s_members) f cdv A outer s H E).xe := passes_of rfl
  exact (sone (sret (xl (llc [("one", 3)] rfl nd (iany (xv 0)) (blkOk_by (by kernel_rfl)) (fun _ _ _ _ _ => (gnm 3 nd)) (fun _ _ _ _ _ => (pts_one (tw (wand (ttru (xdo D_begins (hr.mono (by decide)) (by rfl) takes0 (av (xix (xv 3) xint) (av (xv 1) anil)))) (wand1 (ttru (xdo D_begins (hr.mono (by decide)) (by rfl) takes0 (av (xix (xv 3) xint) (av (xv 2) anil))))))))) (fun _ _ _ _ _ => (xix (xv 3) xint)) (by decide)))))
abbrev s__law_mix : Stmt := top 50
theorem sc__law_mix : FnScope ["_law_script", "_law_k", "_law_number"] ["_law_script", "_law_k"] (defScope s__law_mix) := ⟨rfl, rfl, rfl, by decide +kernel, rfl, by decide +kernel, by decide +kernel⟩
theorem ok__law_mix (T_ : Txt K mg T) (F : At K mg "_law_mix" s__law_mix ["_law_script", "_law_k"]) (D__law_cell : Does P w K mg base T "_law_cell" ["_law_script", "_law_k"] 1 L_cell) : Does P w K mg base T "_law_mix" ["_law_script", "_law_k"] 2 L_mix :=
 does F sc__law_mix 1 rfl fun f cdv A outer s H E hr => by
  have nd := sc__law_mix.nd
  have hu := hr.units
  have tk0 : Takes (cxOf (L2.CX P w) P w K mg base ["_law_script", "_law_k", "_law_number"] "_law_mix" (defScope s__law_mix) f cdv A outer s H E) (WOf E) := takes_of rfl rfl rfl rfl
  have ps0 : PassesOwn (model P w) (cxOf (L2.CX P w) P w K mg base ["_law_script", "_law_k", "_law_number"] "_law_mix" (defScope s__law_mix) f cdv A outer s H E).A (cxOf (L2.CX P w) P w K mg base ["_law_script", "_law_k", "_law_number"] "_law_mix" (defScope s__law_mix) f cdv A outer s H E).env (cxOf (L2.CX P w) P w K mg base ["_law_script", "_law_k", "_law_number"] "_law_mix" (defScope s__law_mix) f cdv A outer s H E).xe := passes_of rfl
  exact (scons (sset 2 nd (xop op_modN pure_mod (xop op_addD pure_add (xdo D__law_cell (hr.mono (by decide)) (by rfl) tk0 (ar 0 (av (xv 1) anil))) (xop op_mulD pure_mulD xint (xop op_addD pure_add (xv 1) xint))) xint))
 (scons (sset 2 nd (xop op_modN pure_mod (xop op_pow pure_pow (xv 2) xint) xint))
 (sone (sret (xop op_modN pure_mod (xop op_addD pure_add (xop op_mulD pure_mulD (xop op_fdivW pure_div (xv 2) xint) xint) (xv 2)) xint)))))
abbrev s__law_heads : Stmt := top 59
theorem sc__law_heads : FnScope ["_law_paths", "_law_some", "_law_path", "_law_k", "_law_turn", "_law_mark_here"] ["_law_paths"] (defScope s__law_heads) := ⟨rfl, rfl, rfl, by decide +kernel, rfl, by decide +kernel, by decide +kernel⟩
theorem ok__law_heads (T_ : Txt K mg T) (F : At K mg "_law_heads" s__law_heads ["_law_paths"]) (D__law_mark : Does P w K mg base T "_law_mark" ["_law_path"] 1 L_mark_k04) : Does P w K mg base T "_law_heads" ["_law_paths"] 2 L_heads_k04 :=
 does F sc__law_heads 5 rfl fun f cdv A outer s H E hr => by
  have nd := sc__law_heads.nd
  have hu := hr.units
  have tk0 : Takes (cxOf (L2.CX P w) P w K mg base ["_law_paths", "_law_some", "_law_path", "_law_k", "_law_turn", "_law_mark_here"] "_law_heads" (defScope s__law_heads) f cdv A outer s H E) (WOf E) := takes_of rfl rfl rfl rfl
  have ps0 : PassesOwn (model P w) (cxOf (L2.CX P w) P w K mg base ["_law_paths", "_law_some", "_law_path", "_law_k", "_law_turn", "_law_mark_here"] "_law_heads" (defScope s__law_heads) f cdv A outer s H E).A (cxOf (L2.CX P w) P w K mg base ["_law_paths", "_law_some", "_law_path", "_law_k", "_law_turn", "_law_mark_here"] "_law_heads" (defScope s__law_heads) f cdv A outer s H E).env (cxOf (L2.CX P w) P w K mg base ["_law_paths", "_law_some", "_law_path", "_law_k", "_law_turn", "_law_mark_here"] "_law_heads" (defScope s__law_heads) f cdv A outer s H E).xe := passes_of rfl
  exact (scons (sset 1 nd (xl (ldsp (dcons (xtup dnil) dnil))))
 (scons (sfor ps0 rfl (iany (xv 0)) (gnm 2 nd) (sone (sset 1 nd (xop op_addD pure_add (xv 1) (xl (llc [("_law_k", 3)] rfl nd (irng2 (by rfl) T_.b.range (dcons xint (dcons (xop op_addD pure_add (xcb call_len pure_len (by rfl) T_.b.len b_len (dcons (xv 2) dnil)) xint) dnil))) (blkOk_by (by kernel_rfl)) (fun _ _ _ _ _ => (gnm 3 nd)) (fun _ _ _ _ _ => pts_nilM) (fun _ _ _ _ _ => (xsl (xv 2) opn (ops (xv 3)))) (by decide)))))))
 (scons (sset 1 nd (xl (llc [("_law_k", 3)] rfl nd (irng1 (by rfl) T_.b.range (dcons (xcb call_len pure_len (by rfl) T_.b.len b_len (dcons (xv 1) dnil)) dnil)) (blkOk_by (by kernel_rfl)) (fun _ _ _ _ _ => (gnm 3 nd)) (fun _ _ _ _ _ => (pts_one (tcmp (op_notinA hu) pure_notin (xix (xv 1) (xv 3)) (xsl (xv 1) opn (ops (xv 3))) (by rfl)))) (fun _ _ _ _ _ => (xix (xv 1) (xv 3))) (by decide))))
 (scons (sset 4 nd (xcb (call_sortD hu) pure_sorted (by rfl) T_.b.sorted b_sorted (dcons (xl (llc [("_law_k", 3)] rfl nd (irng1 (by rfl) T_.b.range (dcons (xcb call_len pure_len (by rfl) T_.b.len b_len (dcons (xv 1) dnil)) dnil)) (blkOk_by (by kernel_rfl)) (fun _ _ _ _ _ => (gnm 3 nd)) (fun _ _ _ _ _ => pts_nilM) (fun _ _ _ _ _ => (xtup (dcons (xdo D__law_mark (hr.mono (by decide)) (by rfl) takes0 (av (xix (xv 1) (xv 3)) anil)) (dcons (xv 3) dnil)))) (by decide))) dnil)))
 (sone (sret (xl (llc [("_law_mark_here", 5), ("_law_k", 3)] rfl nd (iany (xv 4)) (blkOk_by (by kernel_rfl)) (fun _ _ _ _ _ => (gtup rfl (gscons (gnm 5 nd) (gscons (gnm 3 nd) gsnil)))) (fun _ _ _ _ _ => pts_nilM) (fun _ _ _ _ _ => (xix (xv 1) (xv 3))) (by decide)))))))))
abbrev s_look_columns : Stmt := top 17
theorem sc_look_columns : FnScope ["columns"] ["columns"] (defScope s_look_columns) := ⟨rfl, rfl, rfl, by decide +kernel, rfl, by decide +kernel, by decide +kernel⟩
theorem ok_look_columns (T_ : Txt K mg T) (F : At K mg "look_columns" s_look_columns ["columns"]) (D_are_columns : Does P w K mg base T "are_columns" ["thing"] 2 M_are_columns) : Does P w K mg base T "look_columns" ["columns"] 3 M_look_columns :=
 does F sc_look_columns 0 rfl fun f cdv A outer s H E hr => by
  have nd := sc_look_columns.nd
  have hu := hr.units
  have tk0 : Takes (cxOf (L2.CX P w) P w K mg base ["columns"] "look_columns" (defScope s_look_columns) f cdv A outer s H E) (WOf E) := takes_of rfl rfl rfl rfl
  have ps0 : PassesOwn (model P w) (cxOf (L2.CX P w) P w K mg base ["columns"] "look_columns" (defScope s_look_columns) f cdv A outer s H E).A (cxOf (L2.CX P w) P w K mg base ["columns"] "look_columns" (defScope s_look_columns) f cdv A outer s H E).env (cxOf (L2.CX P w) P w K mg base ["columns"] "look_columns" (defScope s_look_columns) f cdv A outer s H E).xe := passes_of rfl
  exact (sone (sif (tnot (ttru (xdo D_are_columns (hr.mono (by decide)) (by rfl) tk0 (av (xv 0) anil)))) (sone (srs 0 rfl tk0 T_.x_BadTable (by rfl))) snil))
abbrev s_look_row : Stmt := top 18
theorem sc_look_row : FnScope ["columns", "row", "k"] ["columns", "row"] (defScope s_look_row) := ⟨rfl, rfl, rfl, by decide +kernel, rfl, by decide +kernel, by decide +kernel⟩
theorem ok_look_row (T_ : Txt K mg T) (F : At K mg "look_row" s_look_row ["columns", "row"]) (D_is_value : Does P w K mg base T "is_value" ["kind", "thing"] 2 M_is_value) : Does P w K mg base T "look_row" ["columns", "row"] 3 M_look_row :=
 does F sc_look_row 1 rfl fun f cdv A outer s H E hr => by
  have nd := sc_look_row.nd
  have hu := hr.units
  have tk0 : Takes (cxOf (L2.CX P w) P w K mg base ["columns", "row", "k"] "look_row" (defScope s_look_row) f cdv A outer s H E) (WOf E) := takes_of rfl rfl rfl rfl
  have ps0 : PassesOwn (model P w) (cxOf (L2.CX P w) P w K mg base ["columns", "row", "k"] "look_row" (defScope s_look_row) f cdv A outer s H E).A (cxOf (L2.CX P w) P w K mg base ["columns", "row", "k"] "look_row" (defScope s_look_row) f cdv A outer s H E).env (cxOf (L2.CX P w) P w K mg base ["columns", "row", "k"] "look_row" (defScope s_look_row) f cdv A outer s H E).xe := passes_of rfl
  exact (scons (sif (tw (wor (tnot (ttru (xisi (t := "tuple") (by rfl) T_.b.isinstance (by rfl) T_.b.tuple b_tuple (by decide) (xv 1)))) (wor1 (tcmp (op_neP hu) pure_ne (xcb call_len pure_len (by rfl) T_.b.len b_len (dcons (xv 1) dnil)) (xcb call_len pure_len (by rfl) T_.b.len b_len (dcons (xv 0) dnil)) (nomark _))))) (sone (srs 1 rfl tk0 T_.x_BadRow (by rfl))) snil)
 (sone (sif (tnot (ttru (xcb (cr_all rfl) pure_all (by rfl) T_.b.all b_all (dcons (xl (llc [("k", 2)] rfl nd (irng1 (by rfl) T_.b.range (dcons (xcb call_len pure_len (by rfl) T_.b.len b_len (dcons (xv 1) dnil)) dnil)) (blkOk_by (by kernel_rfl)) (fun _ _ _ _ _ => (gnm 2 nd)) (fun _ _ _ _ _ => pts_nilM) (fun _ _ _ _ _ => (xdo D_is_value (hr.mono (by decide)) (by rfl) takes0 (av (xix (xix (xv 0) (xv 2)) xint) (av (xix (xv 1) (xv 2)) anil)))) (by decide))) dnil)))) (sone (srs 1 rfl tk0 T_.x_BadRow (by rfl))) snil)))
abbrev s_is_key : Stmt := top 30
theorem sc_is_key : FnScope ["columns", "thing"] ["columns", "thing"] (defScope s_is_key) := ⟨rfl, rfl, rfl, by decide +kernel, rfl, by decide +kernel, by decide +kernel⟩
theorem ok_is_key (T_ : Txt K mg T) (F : At K mg "is_key" s_is_key ["columns", "thing"]) (D_is_whole : Does P w K mg base T "is_whole" ["thing", "low", "most"] 1 M_is_whole) (D_kind_of : Does P w K mg base T "kind_of" ["columns", "name"] 2 M_kind_of) : Does P w K mg base T "is_key" ["columns", "thing"] 3 M_is_key :=
 does F sc_is_key 0 rfl fun f cdv A outer s H E hr => by
  have nd := sc_is_key.nd
  have hu := hr.units
  have tk0 : Takes (cxOf (L2.CX P w) P w K mg base ["columns", "thing"] "is_key" (defScope s_is_key) f cdv A outer s H E) (WOf E) := takes_of rfl rfl rfl rfl
  have ps0 : PassesOwn (model P w) (cxOf (L2.CX P w) P w K mg base ["columns", "thing"] "is_key" (defScope s_is_key) f cdv A outer s H E).A (cxOf (L2.CX P w) P w K mg base ["columns", "thing"] "is_key" (defScope s_is_key) f cdv A outer s H E).env (cxOf (L2.CX P w) P w K mg base ["columns", "thing"] "is_key" (defScope s_is_key) f cdv A outer s H E).xe := passes_of rfl
  exact (scons (sif (ttru (xisi (t := "str") (by rfl) T_.b.isinstance (by rfl) T_.b.str b_str (by decide) (xv 1))) (sone (sret (xcmp op_notN pure_isnt (xdo D_kind_of (hr.mono (by decide)) (by rfl) tk0 (av (xv 0) (av (xv 1) anil))) xnon (nomark _)))) snil)
 (scons (sif (tw (wor (tnot (ttru (xisi (t := "tuple") (by rfl) T_.b.isinstance (by rfl) T_.b.tuple b_tuple (by decide) (xv 1)))) (wor (tcmp (op_neP hu) pure_ne (xcb call_len pure_len (by rfl) T_.b.len b_len (dcons (xv 1) dnil)) xint (nomark _)) (wor1 (tnot (ttru (xisi (t := "str") (by rfl) T_.b.isinstance (by rfl) T_.b.str b_str (by decide) (xix (xv 1) xint)))))))) (sone (sret xbl)) snil)
 (scons (sif (tcmp (op_eqP hu) pure_eq (xix (xv 1) xint) xstr (nomark _)) (sone (sret (xand (xcmp (op_eqP hu) pure_eq (xdo D_kind_of (hr.mono (by decide)) (by rfl) tk0 (av (xv 0) (av (xix (xv 1) xint) anil))) xstr (nomark _)) (xone (xdo D_is_whole (hr.mono (by decide)) (by rfl) tk0 (av (xix (xv 1) xint) (av xint (av (xci (by rfl) T_.c_MOST_NUMBER) anil)))))))) snil)
 (sone (sret (xand (xcmp (op_eqP hu) pure_eq (xix (xv 1) xint) xstr (nomark _)) (xand (xcmp (op_eqP hu) pure_eq (xdo D_kind_of (hr.mono (by decide)) (by rfl) tk0 (av (xv 0) (av (xix (xv 1) xint) anil))) xstr (nomark _)) (xone (xdo D_is_whole (hr.mono (by decide)) (by rfl) tk0 (av (xix (xv 1) xint) (av xint (av (xci (by rfl) T_.c_MOST_WORD) anil))))))))))))
abbrev s_is_sum : Stmt := top 31
theorem sc_is_sum : FnScope ["columns", "thing"] ["columns", "thing"] (defScope s_is_sum) := ⟨rfl, rfl, rfl, by decide +kernel, rfl, by decide +kernel, by decide +kernel⟩
theorem ok_is_sum (T_ : Txt K mg T) (F : At K mg "is_sum" s_is_sum ["columns", "thing"]) (D_kind_of : Does P w K mg base T "kind_of" ["columns", "name"] 2 M_kind_of) : Does P w K mg base T "is_sum" ["columns", "thing"] 3 M_is_sum :=
 does F sc_is_sum 0 rfl fun f cdv A outer s H E hr => by
  have nd := sc_is_sum.nd
  have hu := hr.units
  have tk0 : Takes (cxOf (L2.CX P w) P w K mg base ["columns", "thing"] "is_sum" (defScope s_is_sum) f cdv A outer s H E) (WOf E) := takes_of rfl rfl rfl rfl
  have ps0 : PassesOwn (model P w) (cxOf (L2.CX P w) P w K mg base ["columns", "thing"] "is_sum" (defScope s_is_sum) f cdv A outer s H E).A (cxOf (L2.CX P w) P w K mg base ["columns", "thing"] "is_sum" (defScope s_is_sum) f cdv A outer s H E).env (cxOf (L2.CX P w) P w K mg base ["columns", "thing"] "is_sum" (defScope s_is_sum) f cdv A outer s H E).xe := passes_of rfl
  exact (scons (sif (tw (wor (tnot (ttru (xisi (t := "tuple") (by rfl) T_.b.isinstance (by rfl) T_.b.tuple b_tuple (by decide) (xv 1)))) (wor (tcmp (op_eqP hu) pure_eq (xcb call_len pure_len (by rfl) T_.b.len b_len (dcons (xv 1) dnil)) xint (nomark _)) (wor1 (tnot (ttru (xisi (t := "str") (by rfl) T_.b.isinstance (by rfl) T_.b.str b_str (by decide) (xix (xv 1) xint)))))))) (sone (sret xbl)) snil)
 (scons (sif (tcmp (op_eqP hu) pure_eq (xix (xv 1) xint) xstr (nomark _)) (sone (sret (xcmp (op_eqP hu) pure_eq (xcb call_len pure_len (by rfl) T_.b.len b_len (dcons (xv 1) dnil)) xint (nomark _)))) snil)
 (scons (sif (tcmp (op_neP hu) pure_ne (xcb call_len pure_len (by rfl) T_.b.len b_len (dcons (xv 1) dnil)) xint (nomark _)) (sone (sret xbl)) snil)
 (scons (sif (tw (wor (tcmp (op_inA hu) pure_in (xix (xv 1) xint) (xcd (by rfl) T_.c_OF_NUMBERS) (by rfl)) (wor1 (tcmp (op_inA hu) pure_in (xix (xv 1) xint) (xcd (by rfl) T_.c_SHARES) (by rfl))))) (sone (sret (xcmp (op_eqP hu) pure_eq (xdo D_kind_of (hr.mono (by decide)) (by rfl) tk0 (av (xv 0) (av (xix (xv 1) xint) anil))) xstr (nomark _)))) snil)
 (sone (sret (xand (xcmp (op_inA hu) pure_in (xix (xv 1) xint) (xtup (dcons xstr (dcons xstr dnil))) (by rfl)) (xone (xcmp op_notN pure_isnt (xdo D_kind_of (hr.mono (by decide)) (by rfl) tk0 (av (xv 0) (av (xix (xv 1) xint) anil))) xnon (nomark _))))))))))
abbrev s_is_sift : Stmt := top 32
theorem sc_is_sift : FnScope ["columns", "thing", "kind", "one"] ["columns", "thing"] (defScope s_is_sift) := ⟨rfl, rfl, rfl, by decide +kernel, rfl, by decide +kernel, by decide +kernel⟩
theorem ok_is_sift (T_ : Txt K mg T) (F : At K mg "is_sift" s_is_sift ["columns", "thing"]) (D_is_value : Does P w K mg base T "is_value" ["kind", "thing"] 2 M_is_value) (D_is_whole : Does P w K mg base T "is_whole" ["thing", "low", "most"] 1 M_is_whole) (D_kind_of : Does P w K mg base T "kind_of" ["columns", "name"] 2 M_kind_of) : Does P w K mg base T "is_sift" ["columns", "thing"] 3 M_is_sift :=
 does F sc_is_sift 2 rfl fun f cdv A outer s H E hr => by
  have nd := sc_is_sift.nd
  have hu := hr.units
  have tk0 : Takes (cxOf (L2.CX P w) P w K mg base ["columns", "thing", "kind", "one"] "is_sift" (defScope s_is_sift) f cdv A outer s H E) (WOf E) := takes_of rfl rfl rfl rfl
  have ps0 : PassesOwn (model P w) (cxOf (L2.CX P w) P w K mg base ["columns", "thing", "kind", "one"] "is_sift" (defScope s_is_sift) f cdv A outer s H E).A (cxOf (L2.CX P w) P w K mg base ["columns", "thing", "kind", "one"] "is_sift" (defScope s_is_sift) f cdv A outer s H E).env (cxOf (L2.CX P w) P w K mg base ["columns", "thing", "kind", "one"] "is_sift" (defScope s_is_sift) f cdv A outer s H E).xe := passes_of rfl
  exact (scons (sif (tw (wor (tnot (ttru (xisi (t := "tuple") (by rfl) T_.b.isinstance (by rfl) T_.b.tuple b_tuple (by decide) (xv 1)))) (wor (tcmp (op_eqP hu) pure_eq (xcb call_len pure_len (by rfl) T_.b.len b_len (dcons (xv 1) dnil)) xint (nomark _)) (wor1 (tnot (ttru (xisi (t := "str") (by rfl) T_.b.isinstance (by rfl) T_.b.str b_str (by decide) (xix (xv 1) xint)))))))) (sone (sret xbl)) snil)
 (scons (sif (tcmp (op_inA hu) pure_in (xix (xv 1) xint) (xtup (dcons xstr (dcons xstr dnil))) (by rfl)) (scons (sset 2 nd (xif (tcmp (op_eqP hu) pure_eq (xcb call_len pure_len (by rfl) T_.b.len b_len (dcons (xv 1) dnil)) xint (nomark _)) (xdo D_kind_of (hr.mono (by decide)) (by rfl) tk0 (av (xv 0) (av (xix (xv 1) xint) anil))) xnon))
 (sone (sret (xand (xcmp op_notN pure_isnt (xv 2) xnon (nomark _)) (xone (xdo D_is_value (hr.mono (by decide)) (by rfl) tk0 (av (xv 2) (av (xix (xv 1) xint) anil)))))))) snil)
 (scons (sif (tw (wor (tcmp (op_neP hu) pure_ne (xix (xv 1) xint) xstr (nomark _)) (wor (tcmp (op_neP hu) pure_ne (xcb call_len pure_len (by rfl) T_.b.len b_len (dcons (xv 1) dnil)) xint (nomark _)) (wor1 (tcmp (op_neP hu) pure_ne (xdo D_kind_of (hr.mono (by decide)) (by rfl) tk0 (av (xv 0) (av (xix (xv 1) xint) anil))) xstr (nomark _)))))) (sone (sret xbl)) snil)
 (sone (sret (xcb (cr_all rfl) pure_all (by rfl) T_.b.all b_all (dcons (xl (llc [("one", 3)] rfl nd (iany (xsl (xv 1) (ops xint) opn)) (blkOk_by (by kernel_rfl)) (fun _ _ _ _ _ => (gnm 3 nd)) (fun _ _ _ _ _ => pts_nilM) (fun _ _ _ _ _ => (xdo D_is_whole (hr.mono (by decide)) (by rfl) takes0 (av (xv 3) (av (xop op_sub pure_sub xint (xci (by rfl) T_.c_MOST_NUMBER)) (av (xci (by rfl) T_.c_MOST_NUMBER) anil))))) (by decide))) dnil)))))))
abbrev s_path_in : Stmt := top 36
theorem sc_path_in : FnScope ["columns", "keys", "row", "key"] ["columns", "keys", "row"] (defScope s_path_in) := ⟨rfl, rfl, rfl, by decide +kernel, rfl, by decide +kernel, by decide +kernel⟩
theorem ok_path_in (T_ : Txt K mg T) (F : At K mg "path_in" s_path_in ["columns", "keys", "row"]) (D_key_in : Does P w K mg base T "key_in" ["columns", "key", "row"] 2 M_key_in) : Does P w K mg base T "path_in" ["columns", "keys", "row"] 3 M_path_in :=
 does F sc_path_in 1 rfl fun f cdv A outer s H E hr => by
  have nd := sc_path_in.nd
  have hu := hr.units
  have tk0 : Takes (cxOf (L2.CX P w) P w K mg base ["columns", "keys", "row", "key"] "path_in" (defScope s_path_in) f cdv A outer s H E) (WOf E) := takes_of rfl rfl rfl rfl
  have ps0 : PassesOwn (model P w) (cxOf (L2.CX P w) P w K mg base ["columns", "keys", "row", "key"] "path_in" (defScope s_path_in) f cdv A outer s H E).A (cxOf (L2.CX P w) P w K mg base ["columns", "keys", "row", "key"] "path_in" (defScope s_path_in) f cdv A outer s H E).env (cxOf (L2.CX P w) P w K mg base ["columns", "keys", "row", "key"] "path_in" (defScope s_path_in) f cdv A outer s H E).xe := passes_of rfl
  exact (sone (sret (xct call_tuple_of pure_tup (by rfl) T_.b.tuple b_tuple (dcons (xl (llc [("key", 3)] rfl nd (iany (xv 1)) (blkOk_by (by kernel_rfl)) (fun _ _ _ _ _ => (gnm 3 nd)) (fun _ _ _ _ _ => pts_nilM) (fun _ _ _ _ _ => (xdo D_key_in (hr.mono (by decide)) (by rfl) takes0 (av (xv 0) (av (xv 3) (av (xv 2) anil))))) (by decide))) dnil))))
abbrev s_with_heads : Stmt := top 41
theorem sc_with_heads : FnScope ["paths", "size", "found", "path", "k", "turn", "order"] ["paths", "size"] (defScope s_with_heads) := ⟨rfl, rfl, rfl, by decide +kernel, rfl, by decide +kernel, by decide +kernel⟩
theorem ok_with_heads (T_ : Txt K mg T) (F : At K mg "with_heads" s_with_heads ["paths", "size"]) (D_ranked : Does P w K mg base T "ranked" ["path"] 2 M_ranked) : Does P w K mg base T "with_heads" ["paths", "size"] 3 M_with_heads :=
 does F sc_with_heads 5 rfl fun f cdv A outer s H E hr => by
  have nd := sc_with_heads.nd
  have hu := hr.units
  have tk0 : Takes (cxOf (L2.CX P w) P w K mg base ["paths", "size", "found", "path", "k", "turn", "order"] "with_heads" (defScope s_with_heads) f cdv A outer s H E) (WOf E) := takes_of rfl rfl rfl rfl
  have ps0 : PassesOwn (model P w) (cxOf (L2.CX P w) P w K mg base ["paths", "size", "found", "path", "k", "turn", "order"] "with_heads" (defScope s_with_heads) f cdv A outer s H E).A (cxOf (L2.CX P w) P w K mg base ["paths", "size", "found", "path", "k", "turn", "order"] "with_heads" (defScope s_with_heads) f cdv A outer s H E).env (cxOf (L2.CX P w) P w K mg base ["paths", "size", "found", "path", "k", "turn", "order"] "with_heads" (defScope s_with_heads) f cdv A outer s H E).xe := passes_of rfl
  exact (sdict2 0 nd rfl (by rfl) T_.b.list b_list (by decide) (bput (W := WOf E) hu (xtup dnil)) (bfor (W := WOf E) ps0 rfl (iany (xv 0)) (gnm 3 nd) (by decide) (bone (bfor (W := WOf E) ps0 rfl (irng1 (by rfl) T_.b.range (dcons (xop op_addD pure_add (xv 1) xint) dnil)) (gnm 4 nd) (by decide) (bone (bput (W := WOf E) hu (xsl (xv 3) opn (ops (xv 4)))))))) (scons (sset 5 nd (xcb (call_sortD hu) pure_sorted (by rfl) T_.b.sorted b_sorted (dcons (xl (llc [("k", 4)] rfl nd (irng1 (by rfl) T_.b.range (dcons (xcb call_len pure_len (by rfl) T_.b.len b_len (dcons (xv 0) dnil)) dnil)) (blkOk_by (by kernel_rfl)) (fun _ _ _ _ _ => (gnm 4 nd)) (fun _ _ _ _ _ => pts_nilM) (fun _ _ _ _ _ => (xtup (dcons (xdo D_ranked (hr.mono (by decide)) (by rfl) takes0 (av (xix (xv 0) (xv 4)) anil)) (dcons (xv 4) dnil)))) (by decide))) dnil)))
 (sone (sret (xl (llc [("order", 6), ("k", 4)] rfl nd (iany (xv 5)) (blkOk_by (by kernel_rfl)) (fun _ _ _ _ _ => (gtup rfl (gscons (gnm 6 nd) (gscons (gnm 4 nd) gsnil)))) (fun _ _ _ _ _ => pts_nilM) (fun _ _ _ _ _ => (xix (xv 0) (xv 4))) (by decide)))))))
abbrev s__law_draw : Stmt := top 51
theorem sc__law_draw : FnScope ["_law_script", "_law_town", "_law_many"] ["_law_script", "_law_town", "_law_many"] (defScope s__law_draw) := ⟨rfl, rfl, rfl, by decide +kernel, rfl, by decide +kernel, by decide +kernel⟩
theorem ok__law_draw (T_ : Txt K mg T) (F : At K mg "_law_draw" s__law_draw ["_law_script", "_law_town", "_law_many"]) (D__law_mix : Does P w K mg base T "_law_mix" ["_law_script", "_law_k"] 2 L_mix) : Does P w K mg base T "_law_draw" ["_law_script", "_law_town", "_law_many"] 3 L_draw :=
 does F sc__law_draw 0 rfl fun f cdv A outer s H E hr => by
  have nd := sc__law_draw.nd
  have hu := hr.units
  have tk0 : Takes (cxOf (L2.CX P w) P w K mg base ["_law_script", "_law_town", "_law_many"] "_law_draw" (defScope s__law_draw) f cdv A outer s H E) (WOf E) := takes_of rfl rfl rfl rfl
  have ps0 : PassesOwn (model P w) (cxOf (L2.CX P w) P w K mg base ["_law_script", "_law_town", "_law_many"] "_law_draw" (defScope s__law_draw) f cdv A outer s H E).A (cxOf (L2.CX P w) P w K mg base ["_law_script", "_law_town", "_law_many"] "_law_draw" (defScope s__law_draw) f cdv A outer s H E).env (cxOf (L2.CX P w) P w K mg base ["_law_script", "_law_town", "_law_many"] "_law_draw" (defScope s__law_draw) f cdv A outer s H E).xe := passes_of rfl
  exact (scons (sappend 1 xint)
 (sone (sret (xop op_modN pure_mod (xop op_fdivW pure_div (xdo D__law_mix (hr.mono (by decide)) (by rfl) tk0 (ar 0 (av (xlenP 1 (by rfl) T_.b.len) anil))) xint) (xv 2)))))
abbrev s_look_table : Stmt := top 19
theorem sc_look_table : FnScope ["table", "row"] ["table"] (defScope s_look_table) := ⟨rfl, rfl, rfl, by decide +kernel, rfl, by decide +kernel, by decide +kernel⟩
theorem ok_look_table (T_ : Txt K mg T) (F : At K mg "look_table" s_look_table ["table"]) (D_look_columns : Does P w K mg base T "look_columns" ["columns"] 3 M_look_columns) (D_look_row : Does P w K mg base T "look_row" ["columns", "row"] 3 M_look_row) : Does P w K mg base T "look_table" ["table"] 4 M_look_table :=
 does F sc_look_table 1 rfl fun f cdv A outer s H E hr => by
  have nd := sc_look_table.nd
  have hu := hr.units
  have tk0 : Takes (cxOf (L2.CX P w) P w K mg base ["table", "row"] "look_table" (defScope s_look_table) f cdv A outer s H E) (WOf E) := takes_of rfl rfl rfl rfl
  have ps0 : PassesOwn (model P w) (cxOf (L2.CX P w) P w K mg base ["table", "row"] "look_table" (defScope s_look_table) f cdv A outer s H E).A (cxOf (L2.CX P w) P w K mg base ["table", "row"] "look_table" (defScope s_look_table) f cdv A outer s H E).env (cxOf (L2.CX P w) P w K mg base ["table", "row"] "look_table" (defScope s_look_table) f cdv A outer s H E).xe := passes_of rfl
  exact (scons (sif (tw (wor (tnot (ttru (xisi (t := "tuple") (by rfl) T_.b.isinstance (by rfl) T_.b.tuple b_tuple (by decide) (xv 0)))) (wor1 (tcmp (op_neP hu) pure_ne (xcb call_len pure_len (by rfl) T_.b.len b_len (dcons (xv 0) dnil)) xint (nomark _))))) (sone (srs 0 rfl tk0 T_.x_BadTable (by rfl))) snil)
 (scons (sexpr (xdo D_look_columns (hr.mono (by decide)) (by rfl) tk0 (av (xix (xv 0) xint) anil)))
 (scons (sif (tw (wor (tnot (ttru (xisi (t := "list") (by rfl) T_.b.isinstance (by rfl) T_.b.list b_list (by decide) (xix (xv 0) xint)))) (wor1 (tcmp op_gt pure_gt (xcb call_len pure_len (by rfl) T_.b.len b_len (dcons (xix (xv 0) xint) dnil)) (xci (by rfl) T_.c_MOST_ROWS) (nomark _))))) (sone (srs 0 rfl tk0 T_.x_BadTable (by rfl))) snil)
 (sone (sfor ps0 rfl (iany (xix (xv 0) xint)) (gnm 1 nd) (sone (sexpr (xdo D_look_row (hr.mono (by decide)) (by rfl) tk0 (av (xix (xv 0) xint) (av (xv 1) anil))))))))))
abbrev s_are_all : Stmt := top 33
theorem sc_are_all : FnScope ["some", "most", "test", "columns", "one"] ["some", "most", "test", "columns"] (defScope s_are_all) := ⟨rfl, rfl, rfl, by decide +kernel, rfl, by decide +kernel, by decide +kernel⟩
theorem ok_are_all (T_ : Txt K mg T) (F : At K mg "are_all" s_are_all ["some", "most", "test", "columns"]) (D_is_key : Does P w K mg base T "is_key" ["columns", "thing"] 3 M_is_key) (D_is_sift : Does P w K mg base T "is_sift" ["columns", "thing"] 3 M_is_sift) (D_is_sum : Does P w K mg base T "is_sum" ["columns", "thing"] 3 M_is_sum) : Does P w K mg base T "are_all" ["some", "most", "test", "columns"] 4 M_are_all :=
 does F sc_are_all 1 rfl fun f cdv A outer s H E hr => by
  have nd := sc_are_all.nd
  have hu := hr.units
  have tk0 : Takes (cxOf (L2.CX P w) P w K mg base ["some", "most", "test", "columns", "one"] "are_all" (defScope s_are_all) f cdv A outer s H E) (WOf E) := takes_of rfl rfl rfl rfl
  have ps0 : PassesOwn (model P w) (cxOf (L2.CX P w) P w K mg base ["some", "most", "test", "columns", "one"] "are_all" (defScope s_are_all) f cdv A outer s H E).A (cxOf (L2.CX P w) P w K mg base ["some", "most", "test", "columns", "one"] "are_all" (defScope s_are_all) f cdv A outer s H E).env (cxOf (L2.CX P w) P w K mg base ["some", "most", "test", "columns", "one"] "are_all" (defScope s_are_all) f cdv A outer s H E).xe := passes_of rfl
  exact (sone (sret (xand (xisi (t := "tuple") (by rfl) T_.b.isinstance (by rfl) T_.b.tuple b_tuple (by decide) (xv 0)) (xand (xcmp op_le pure_le (xcb call_len pure_len (by rfl) T_.b.len b_len (dcons (xv 0) dnil)) (xv 1) (nomark _)) (xone (xcb (cr_all rfl) pure_all (by rfl) T_.b.all b_all (dcons (xl (llc [("one", 4)] rfl nd (iany (xv 0)) (blkOk_by (by kernel_rfl)) (fun _ _ _ _ _ => (gnm 4 nd)) (fun _ _ _ _ _ => pts_nilM) (fun _ _ _ _ _ => (xcallL 2 (k := 3) (lk_cons (fnd D_is_key T_.f_is_key) (by decide) (lk_cons (fnd D_is_sum T_.f_is_sum) (by decide) (lk_cons (fnd D_is_sift T_.f_is_sift) (by decide) lk_nil))) (hr.mono (by decide)) takes0 (av (xv 3) (av (xv 4) anil)))) (by decide))) dnil)))))))
abbrev s_counted : Stmt := top 40
theorem sc_counted : FnScope ["table", "plan", "columns", "rows", "found", "k"] ["table", "plan"] (defScope s_counted) := ⟨rfl, rfl, rfl, by decide +kernel, rfl, by decide +kernel, by decide +kernel⟩
theorem ok_counted (T_ : Txt K mg T) (F : At K mg "counted" s_counted ["table", "plan"]) (D_counts : Does P w K mg base T "counts" ["columns", "sifts", "row"] 2 M_counts) (D_path_in : Does P w K mg base T "path_in" ["columns", "keys", "row"] 3 M_path_in) : Does P w K mg base T "counted" ["table", "plan"] 4 M_counted :=
 does F sc_counted 4 rfl fun f cdv A outer s H E hr => by
  have nd := sc_counted.nd
  have hu := hr.units
  have tk0 : Takes (cxOf (L2.CX P w) P w K mg base ["table", "plan", "columns", "rows", "found", "k"] "counted" (defScope s_counted) f cdv A outer s H E) (WOf E) := takes_of rfl rfl rfl rfl
  have ps0 : PassesOwn (model P w) (cxOf (L2.CX P w) P w K mg base ["table", "plan", "columns", "rows", "found", "k"] "counted" (defScope s_counted) f cdv A outer s H E).A (cxOf (L2.CX P w) P w K mg base ["table", "plan", "columns", "rows", "found", "k"] "counted" (defScope s_counted) f cdv A outer s H E).env (cxOf (L2.CX P w) P w K mg base ["table", "plan", "columns", "rows", "found", "k"] "counted" (defScope s_counted) f cdv A outer s H E).xe := passes_of rfl
  exact (scons (sasg (xv 0) (gtup rfl (gscons (gnm 2 nd) (gscons (gnm 3 nd) gsnil))))
 (scons (ssetO 4 nd (ldsp dnil))
 (scons (sfor ps0 rfl (irng1 (by rfl) T_.b.range (dcons (xcb call_len pure_len (by rfl) T_.b.len b_len (dcons (xv 3) dnil)) dnil)) (gnm 5 nd) (sone (sif (ttru (xdo D_counts (hr.mono (by decide)) (by rfl) tk0 (av (xv 2) (av (xix (xv 1) xint) (av (xix (xv 3) (xv 5)) anil))))) (sone (sappend 4 (xtup (dcons (xv 5) (dcons (xdo D_path_in (hr.mono (by decide)) (by rfl) tk0 (av (xv 2) (av (xix (xv 1) xint) (av (xix (xv 3) (xv 5)) anil)))) (dcons (xdo D_path_in (hr.mono (by decide)) (by rfl) tk0 (av (xv 2) (av (xix (xv 1) xint) (av (xix (xv 3) (xv 5)) anil)))) dnil)))))) snil)))
 (sone (sret (xrd 4))))))
abbrev s__law_pick : Stmt := top 52
theorem sc__law_pick : FnScope ["_law_script", "_law_town", "_law_some"] ["_law_script", "_law_town", "_law_some"] (defScope s__law_pick) := ⟨rfl, rfl, rfl, by decide +kernel, rfl, by decide +kernel, by decide +kernel⟩
theorem ok__law_pick (T_ : Txt K mg T) (F : At K mg "_law_pick" s__law_pick ["_law_script", "_law_town", "_law_some"]) (D__law_draw : Does P w K mg base T "_law_draw" ["_law_script", "_law_town", "_law_many"] 3 L_draw) : Does P w K mg base T "_law_pick" ["_law_script", "_law_town", "_law_some"] 4 L_pick :=
 does F sc__law_pick 0 rfl fun f cdv A outer s H E hr => by
  have nd := sc__law_pick.nd
  have hu := hr.units
  have tk0 : Takes (cxOf (L2.CX P w) P w K mg base ["_law_script", "_law_town", "_law_some"] "_law_pick" (defScope s__law_pick) f cdv A outer s H E) (WOf E) := takes_of rfl rfl rfl rfl
  have ps0 : PassesOwn (model P w) (cxOf (L2.CX P w) P w K mg base ["_law_script", "_law_town", "_law_some"] "_law_pick" (defScope s__law_pick) f cdv A outer s H E).A (cxOf (L2.CX P w) P w K mg base ["_law_script", "_law_town", "_law_some"] "_law_pick" (defScope s__law_pick) f cdv A outer s H E).env (cxOf (L2.CX P w) P w K mg base ["_law_script", "_law_town", "_law_some"] "_law_pick" (defScope s__law_pick) f cdv A outer s H E).xe := passes_of rfl
  exact (sone (sret (xix (xv 2) (xdo D__law_draw (hr.mono (by decide)) (by rfl) tk0 (ar 0 (ab 1 (av (xcb call_len pure_len (by rfl) T_.b.len b_len (dcons (xv 2) dnil)) anil)))))))
abbrev s_look_plan : Stmt := top 34
theorem sc_look_plan : FnScope ["columns", "plan"] ["columns", "plan"] (defScope s_look_plan) := ⟨rfl, rfl, rfl, by decide +kernel, rfl, by decide +kernel, by decide +kernel⟩
theorem ok_look_plan (T_ : Txt K mg T) (F : At K mg "look_plan" s_look_plan ["columns", "plan"]) (D_are_all : Does P w K mg base T "are_all" ["some", "most", "test", "columns"] 4 M_are_all) (D_is_key : Does P w K mg base T "is_key" ["columns", "thing"] 3 M_is_key) (D_is_sift : Does P w K mg base T "is_sift" ["columns", "thing"] 3 M_is_sift) (D_is_sum : Does P w K mg base T "is_sum" ["columns", "thing"] 3 M_is_sum) (D_look_columns : Does P w K mg base T "look_columns" ["columns"] 3 M_look_columns) : Does P w K mg base T "look_plan" ["columns", "plan"] 5 M_look_plan :=
 does F sc_look_plan 0 rfl fun f cdv A outer s H E hr => by
  have nd := sc_look_plan.nd
  have hu := hr.units
  have tk0 : Takes (cxOf (L2.CX P w) P w K mg base ["columns", "plan"] "look_plan" (defScope s_look_plan) f cdv A outer s H E) (WOf E) := takes_of rfl rfl rfl rfl
  have ps0 : PassesOwn (model P w) (cxOf (L2.CX P w) P w K mg base ["columns", "plan"] "look_plan" (defScope s_look_plan) f cdv A outer s H E).A (cxOf (L2.CX P w) P w K mg base ["columns", "plan"] "look_plan" (defScope s_look_plan) f cdv A outer s H E).env (cxOf (L2.CX P w) P w K mg base ["columns", "plan"] "look_plan" (defScope s_look_plan) f cdv A outer s H E).xe := passes_of rfl
  exact (scons (sexpr (xdo D_look_columns (hr.mono (by decide)) (by rfl) tk0 (av (xv 0) anil)))
 (scons (sif (tw (wor (tnot (ttru (xisi (t := "tuple") (by rfl) T_.b.isinstance (by rfl) T_.b.tuple b_tuple (by decide) (xv 1)))) (wor1 (tcmp (op_neP hu) pure_ne (xcb call_len pure_len (by rfl) T_.b.len b_len (dcons (xv 1) dnil)) xint (nomark _))))) (sone (srs 2 rfl tk0 T_.x_BadPlan (by rfl))) snil)
 (scons (sif (tw (wor (tnot (ttru (xdo D_are_all (hr.mono (by decide)) (by rfl) tk0 (av (xix (xv 1) xint) (av (xci (by rfl) T_.c_MOST_KEYS) (af 0 (by rfl) T_.f_is_key (av (xv 0) anil))))))) (wor1 (tnot (ttru (xdo D_are_all (hr.mono (by decide)) (by rfl) tk0 (av (xix (xv 1) xint) (av (xci (by rfl) T_.c_MOST_KEYS) (af 0 (by rfl) T_.f_is_key (av (xv 0) anil)))))))))) (sone (srs 2 rfl tk0 T_.x_BadPlan (by rfl))) snil)
 (scons (sif (tw (wor (tnot (ttru (xdo D_are_all (hr.mono (by decide)) (by rfl) tk0 (av (xix (xv 1) xint) (av (xci (by rfl) T_.c_MOST_SUMS) (af 1 (by rfl) T_.f_is_sum (av (xv 0) anil))))))) (wor1 (tcmp (op_eqP hu) pure_eq (xcb call_len pure_len (by rfl) T_.b.len b_len (dcons (xix (xv 1) xint) dnil)) xint (nomark _))))) (sone (srs 2 rfl tk0 T_.x_BadPlan (by rfl))) snil)
 (sone (sif (tnot (ttru (xdo D_are_all (hr.mono (by decide)) (by rfl) tk0 (av (xix (xv 1) xint) (av (xci (by rfl) T_.c_MOST_SIFTS) (af 2 (by rfl) T_.f_is_sift (av (xv 0) anil))))))) (sone (srs 2 rfl tk0 T_.x_BadPlan (by rfl))) snil))))))
abbrev s_sides : Stmt := top 42
theorem sc_sides : FnScope ["table", "plan", "some", "rows", "one"] ["table", "plan"] (defScope s_sides) := ⟨rfl, rfl, rfl, by decide +kernel, rfl, by decide +kernel, by decide +kernel⟩
theorem ok_sides (T_ : Txt K mg T) (F : At K mg "sides" s_sides ["table", "plan"]) (D_counted : Does P w K mg base T "counted" ["table", "plan"] 4 M_counted) (D_with_heads : Does P w K mg base T "with_heads" ["paths", "size"] 3 M_with_heads) : Does P w K mg base T "sides" ["table", "plan"] 5 M_sides :=
 does F sc_sides 3 rfl fun f cdv A outer s H E hr => by
  have nd := sc_sides.nd
  have hu := hr.units
  have tk0 : Takes (cxOf (L2.CX P w) P w K mg base ["table", "plan", "some", "rows", "one"] "sides" (defScope s_sides) f cdv A outer s H E) (WOf E) := takes_of rfl rfl rfl rfl
  have ps0 : PassesOwn (model P w) (cxOf (L2.CX P w) P w K mg base ["table", "plan", "some", "rows", "one"] "sides" (defScope s_sides) f cdv A outer s H E).A (cxOf (L2.CX P w) P w K mg base ["table", "plan", "some", "rows", "one"] "sides" (defScope s_sides) f cdv A outer s H E).env (cxOf (L2.CX P w) P w K mg base ["table", "plan", "some", "rows", "one"] "sides" (defScope s_sides) f cdv A outer s H E).xe := passes_of rfl
  exact (scons (sset 2 nd (xdo D_counted (hr.mono (by decide)) (by rfl) tk0 (av (xv 0) (av (xv 1) anil))))
 (scons (sset 3 nd (xdo D_with_heads (hr.mono (by decide)) (by rfl) tk0 (av (xl (llc [("one", 4)] rfl nd (iany (xv 2)) (blkOk_by (by kernel_rfl)) (fun _ _ _ _ _ => (gnm 4 nd)) (fun _ _ _ _ _ => pts_nilM) (fun _ _ _ _ _ => (xix (xv 4) xint)) (by decide))) (av (xcb call_len pure_len (by rfl) T_.b.len b_len (dcons (xix (xv 1) xint) dnil)) anil))))
 (sone (sret (xtup (dcons (xv 3) (dcons (xdo D_with_heads (hr.mono (by decide)) (by rfl) tk0 (av (xl (llc [("one", 4)] rfl nd (iany (xv 2)) (blkOk_by (by kernel_rfl)) (fun _ _ _ _ _ => (gnm 4 nd)) (fun _ _ _ _ _ => pts_nilM) (fun _ _ _ _ _ => (xix (xv 4) xint)) (by decide))) (av (xcb call_len pure_len (by rfl) T_.b.len b_len (dcons (xix (xv 1) xint) dnil)) anil))) dnil)))))))
abbrev s__law_word : Stmt := top 53
theorem sc__law_word : FnScope ["_law_script", "_law_town", "_law_signs", "_law_k"] ["_law_script", "_law_town"] (defScope s__law_word) := ⟨rfl, rfl, rfl, by decide +kernel, rfl, by decide +kernel, by decide +kernel⟩
theorem ok__law_word (T_ : Txt K mg T) (F : At K mg "_law_word" s__law_word ["_law_script", "_law_town"]) (D__law_draw : Does P w K mg base T "_law_draw" ["_law_script", "_law_town", "_law_many"] 3 L_draw) (D__law_pick : Does P w K mg base T "_law_pick" ["_law_script", "_law_town", "_law_some"] 4 L_pick) : Does P w K mg base T "_law_word" ["_law_script", "_law_town"] 5 L_word :=
 does F sc__law_word 2 rfl fun f cdv A outer s H E hr => by
  have nd := sc__law_word.nd
  have hu := hr.units
  have tk0 : Takes (cxOf (L2.CX P w) P w K mg base ["_law_script", "_law_town", "_law_signs", "_law_k"] "_law_word" (defScope s__law_word) f cdv A outer s H E) (WOf E) := takes_of rfl rfl rfl rfl
  have ps0 : PassesOwn (model P w) (cxOf (L2.CX P w) P w K mg base ["_law_script", "_law_town", "_law_signs", "_law_k"] "_law_word" (defScope s__law_word) f cdv A outer s H E).A (cxOf (L2.CX P w) P w K mg base ["_law_script", "_law_town", "_law_signs", "_law_k"] "_law_word" (defScope s__law_word) f cdv A outer s H E).env (cxOf (L2.CX P w) P w K mg base ["_law_script", "_law_town", "_law_signs", "_law_k"] "_law_word" (defScope s__law_word) f cdv A outer s H E).xe := passes_of rfl
  exact (scons (sset 2 nd xstr)
 (scons (sif (tcmp op_gt pure_gt (xdo D__law_draw (hr.mono (by decide)) (by rfl) tk0 (ar 0 (ab 1 (av xint anil)))) xint (nomark _)) (sone (sret (xdo D__law_pick (hr.mono (by decide)) (by rfl) tk0 (ar 0 (ab 1 (av (xl (ldsp (dcons xstr (dcons xstr (dcons xstr (dcons xstr (dcons xstr (dcons xstr (dcons xstr dnil))))))))) anil)))))) snil)
 (sone (sret (xjoin xstr (xl (llc [("_law_k", 3)] rfl nd (irng1 (by rfl) T_.b.range (dcons (xop op_addD pure_add xint (xdo D__law_draw (hr.mono (by decide)) (by rfl) tk0 (ar 0 (ab 1 (av xint anil))))) dnil)) (blkOk_by (by kernel_rfl)) (fun _ _ _ _ _ => (gnm 3 nd)) (fun _ _ _ _ _ => pts_nilM) (fun _ _ _ _ _ => (xix (xv 2) (xdo D__law_draw (hr.mono (by decide)) (by rfl) takes0 (ar 0 (ab 1 (av xint anil)))))) (by decide))))))))
abbrev s_look_all : Stmt := top 39
theorem sc_look_all : FnScope ["table", "plan"] ["table", "plan"] (defScope s_look_all) := ⟨rfl, rfl, rfl, by decide +kernel, rfl, by decide +kernel, by decide +kernel⟩
theorem ok_look_all (T_ : Txt K mg T) (F : At K mg "look_all" s_look_all ["table", "plan"]) (D_look_plan : Does P w K mg base T "look_plan" ["columns", "plan"] 5 M_look_plan) (D_look_table : Does P w K mg base T "look_table" ["table"] 4 M_look_table) : Does P w K mg base T "look_all" ["table", "plan"] 6 M_look_all :=
 does F sc_look_all 0 rfl fun f cdv A outer s H E hr => by
  have nd := sc_look_all.nd
  have hu := hr.units
  have tk0 : Takes (cxOf (L2.CX P w) P w K mg base ["table", "plan"] "look_all" (defScope s_look_all) f cdv A outer s H E) (WOf E) := takes_of rfl rfl rfl rfl
  have ps0 : PassesOwn (model P w) (cxOf (L2.CX P w) P w K mg base ["table", "plan"] "look_all" (defScope s_look_all) f cdv A outer s H E).A (cxOf (L2.CX P w) P w K mg base ["table", "plan"] "look_all" (defScope s_look_all) f cdv A outer s H E).env (cxOf (L2.CX P w) P w K mg base ["table", "plan"] "look_all" (defScope s_look_all) f cdv A outer s H E).xe := passes_of rfl
  exact (scons (sexpr (xdo D_look_table (hr.mono (by decide)) (by rfl) tk0 (av (xv 0) anil)))
 (sone (sexpr (xdo D_look_plan (hr.mono (by decide)) (by rfl) tk0 (av (xix (xv 0) xint) (av (xv 1) anil))))))
abbrev s_look_place : Stmt := top 46
theorem sc_look_place : FnScope ["table", "plan", "row_path", "column_path", "rows", "columns"] ["table", "plan", "row_path", "column_path"] (defScope s_look_place) := ⟨rfl, rfl, rfl, by decide +kernel, rfl, by decide +kernel, by decide +kernel⟩
theorem ok_look_place (T_ : Txt K mg T) (F : At K mg "look_place" s_look_place ["table", "plan", "row_path", "column_path"]) (D_sides : Does P w K mg base T "sides" ["table", "plan"] 5 M_sides) : Does P w K mg base T "look_place" ["table", "plan", "row_path", "column_path"] 6 M_look_place :=
 does F sc_look_place 2 rfl fun f cdv A outer s H E hr => by
  have nd := sc_look_place.nd
  have hu := hr.units
  have tk0 : Takes (cxOf (L2.CX P w) P w K mg base ["table", "plan", "row_path", "column_path", "rows", "columns"] "look_place" (defScope s_look_place) f cdv A outer s H E) (WOf E) := takes_of rfl rfl rfl rfl
  have ps0 : PassesOwn (model P w) (cxOf (L2.CX P w) P w K mg base ["table", "plan", "row_path", "column_path", "rows", "columns"] "look_place" (defScope s_look_place) f cdv A outer s H E).A (cxOf (L2.CX P w) P w K mg base ["table", "plan", "row_path", "column_path", "rows", "columns"] "look_place" (defScope s_look_place) f cdv A outer s H E).env (cxOf (L2.CX P w) P w K mg base ["table", "plan", "row_path", "column_path", "rows", "columns"] "look_place" (defScope s_look_place) f cdv A outer s H E).xe := passes_of rfl
  exact (scons (sasg (xdo D_sides (hr.mono (by decide)) (by rfl) tk0 (av (xv 0) (av (xv 1) anil))) (gtup rfl (gscons (gnm 4 nd) (gscons (gnm 5 nd) gsnil))))
 (sone (sif (tw (wor (tcmp (op_notinA hu) pure_notin (xv 2) (xv 4) (by rfl)) (wor1 (tcmp (op_notinA hu) pure_notin (xv 3) (xv 5) (by rfl))))) (sone (srs 3 rfl tk0 T_.x_NoPlace (by rfl))) snil)))
abbrev s__law_value : Stmt := top 54
theorem sc__law_value : FnScope ["_law_script", "_law_town", "_law_kind", "_law_some"] ["_law_script", "_law_town", "_law_kind"] (defScope s__law_value) := ⟨rfl, rfl, rfl, by decide +kernel, rfl, by decide +kernel, by decide +kernel⟩
theorem ok__law_value (T_ : Txt K mg T) (F : At K mg "_law_value" s__law_value ["_law_script", "_law_town", "_law_kind"]) (D__law_draw : Does P w K mg base T "_law_draw" ["_law_script", "_law_town", "_law_many"] 3 L_draw) (D__law_pick : Does P w K mg base T "_law_pick" ["_law_script", "_law_town", "_law_some"] 4 L_pick) (D__law_word : Does P w K mg base T "_law_word" ["_law_script", "_law_town"] 5 L_word) : Does P w K mg base T "_law_value" ["_law_script", "_law_town", "_law_kind"] 6 L_value :=
 does F sc__law_value 1 rfl fun f cdv A outer s H E hr => by
  have nd := sc__law_value.nd
  have hu := hr.units
  have tk0 : Takes (cxOf (L2.CX P w) P w K mg base ["_law_script", "_law_town", "_law_kind", "_law_some"] "_law_value" (defScope s__law_value) f cdv A outer s H E) (WOf E) := takes_of rfl rfl rfl rfl
  have ps0 : PassesOwn (model P w) (cxOf (L2.CX P w) P w K mg base ["_law_script", "_law_town", "_law_kind", "_law_some"] "_law_value" (defScope s__law_value) f cdv A outer s H E).A (cxOf (L2.CX P w) P w K mg base ["_law_script", "_law_town", "_law_kind", "_law_some"] "_law_value" (defScope s__law_value) f cdv A outer s H E).env (cxOf (L2.CX P w) P w K mg base ["_law_script", "_law_town", "_law_kind", "_law_some"] "_law_value" (defScope s__law_value) f cdv A outer s H E).xe := passes_of rfl
  exact (scons (sif (tcmp (op_eqP hu) pure_eq (xdo D__law_draw (hr.mono (by decide)) (by rfl) tk0 (ar 0 (ab 1 (av xint anil)))) xint (nomark _)) (sone (sret xnon)) snil)
 (scons (sif (tcmp (op_eqP hu) pure_eq (xv 2) xstr (nomark _)) (sone (sret (xdo D__law_word (hr.mono (by decide)) (by rfl) tk0 (ar 0 (ab 1 anil))))) snil)
 (scons (sset 3 nd (xl (ldsp (dcons xint (dcons xint (dcons xint (dcons xint (dcons xint (dcons (xop op_sub pure_sub xint xint) (dcons (xop op_sub pure_sub xint xint) (dcons xint (dcons (xop op_sub pure_sub xint xint) (dcons (xop op_sub pure_sub (xdo D__law_draw (hr.mono (by decide)) (by rfl) tk0 (ar 0 (ab 1 (av xint anil)))) xint) dnil)))))))))))))
 (sone (sret (xdo D__law_pick (hr.mono (by decide)) (by rfl) tk0 (ar 0 (ab 1 (av (xv 3) anil)))))))))
abbrev s_heads : Stmt := top 43
theorem sc_heads : FnScope ["table", "plan"] ["table", "plan"] (defScope s_heads) := ⟨rfl, rfl, rfl, by decide +kernel, rfl, by decide +kernel, by decide +kernel⟩
theorem ok_heads (T_ : Txt K mg T) (F : At K mg "heads" s_heads ["table", "plan"]) (D_look_all : Does P w K mg base T "look_all" ["table", "plan"] 6 M_look_all) (D_sides : Does P w K mg base T "sides" ["table", "plan"] 5 M_sides) : Does P w K mg base T "heads" ["table", "plan"] 7 M_heads :=
 does F sc_heads 0 rfl fun f cdv A outer s H E hr => by
  have nd := sc_heads.nd
  have hu := hr.units
  have tk0 : Takes (cxOf (L2.CX P w) P w K mg base ["table", "plan"] "heads" (defScope s_heads) f cdv A outer s H E) (WOf E) := takes_of rfl rfl rfl rfl
  have ps0 : PassesOwn (model P w) (cxOf (L2.CX P w) P w K mg base ["table", "plan"] "heads" (defScope s_heads) f cdv A outer s H E).A (cxOf (L2.CX P w) P w K mg base ["table", "plan"] "heads" (defScope s_heads) f cdv A outer s H E).env (cxOf (L2.CX P w) P w K mg base ["table", "plan"] "heads" (defScope s_heads) f cdv A outer s H E).xe := passes_of rfl
  exact (scons (sexpr (xdo D_look_all (hr.mono (by decide)) (by rfl) tk0 (av (xv 0) (av (xv 1) anil))))
 (sone (sret (xdo D_sides (hr.mono (by decide)) (by rfl) tk0 (av (xv 0) (av (xv 1) anil))))))
abbrev s_opened : Stmt := top 47
theorem sc_opened : FnScope ["table", "plan", "row_path", "column_path"] ["table", "plan", "row_path", "column_path"] (defScope s_opened) := ⟨rfl, rfl, rfl, by decide +kernel, rfl, by decide +kernel, by decide +kernel⟩
theorem ok_opened (T_ : Txt K mg T) (F : At K mg "opened" s_opened ["table", "plan", "row_path", "column_path"]) (D_counted : Does P w K mg base T "counted" ["table", "plan"] 4 M_counted) (D_look_all : Does P w K mg base T "look_all" ["table", "plan"] 6 M_look_all) (D_look_place : Does P w K mg base T "look_place" ["table", "plan", "row_path", "column_path"] 6 M_look_place) (D_members : Does P w K mg base T "members" ["some", "row_path", "column_path"] 2 M_members) : Does P w K mg base T "opened" ["table", "plan", "row_path", "column_path"] 7 M_opened :=
 does F sc_opened 0 rfl fun f cdv A outer s H E hr => by
  have nd := sc_opened.nd
  have hu := hr.units
  have tk0 : Takes (cxOf (L2.CX P w) P w K mg base ["table", "plan", "row_path", "column_path"] "opened" (defScope s_opened) f cdv A outer s H E) (WOf E) := takes_of rfl rfl rfl rfl
  have ps0 : PassesOwn (model P w) (cxOf (L2.CX P w) P w K mg base ["table", "plan", "row_path", "column_path"] "opened" (defScope s_opened) f cdv A outer s H E).A (cxOf (L2.CX P w) P w K mg base ["table", "plan", "row_path", "column_path"] "opened" (defScope s_opened) f cdv A outer s H E).env (cxOf (L2.CX P w) P w K mg base ["table", "plan", "row_path", "column_path"] "opened" (defScope s_opened) f cdv A outer s H E).xe := passes_of rfl
  exact (scons (sexpr (xdo D_look_all (hr.mono (by decide)) (by rfl) tk0 (av (xv 0) (av (xv 1) anil))))
 (scons (sexpr (xdo D_look_place (hr.mono (by decide)) (by rfl) tk0 (av (xv 0) (av (xv 1) (av (xv 2) (av (xv 3) anil))))))
 (sone (sret (xdo D_members (hr.mono (by decide)) (by rfl) tk0 (av (xdo D_counted (hr.mono (by decide)) (by rfl) tk0 (av (xv 0) (av (xv 1) anil))) (av (xv 2) (av (xv 3) anil))))))))
abbrev s__law_rows_of : Stmt := top 61
theorem sc__law_rows_of : FnScope ["_law_script", "_law_town", "_law_rows", "_law_k", "_law_some", "_law_number"] ["_law_script", "_law_town"] (defScope s__law_rows_of) := ⟨rfl, rfl, rfl, by decide +kernel, rfl, by decide +kernel, by decide +kernel⟩
theorem ok__law_rows_of (T_ : Txt K mg T) (F : At K mg "_law_rows_of" s__law_rows_of ["_law_script", "_law_town"]) (D__law_draw : Does P w K mg base T "_law_draw" ["_law_script", "_law_town", "_law_many"] 3 L_draw) (D__law_pick : Does P w K mg base T "_law_pick" ["_law_script", "_law_town", "_law_some"] 4 L_pick) (D__law_value : Does P w K mg base T "_law_value" ["_law_script", "_law_town", "_law_kind"] 6 L_value) : Does P w K mg base T "_law_rows_of" ["_law_script", "_law_town"] 7 L_rows_of :=
 does F sc__law_rows_of 4 rfl fun f cdv A outer s H E hr => by
  have nd := sc__law_rows_of.nd
  have hu := hr.units
  have tk0 : Takes (cxOf (L2.CX P w) P w K mg base ["_law_script", "_law_town", "_law_rows", "_law_k", "_law_some", "_law_number"] "_law_rows_of" (defScope s__law_rows_of) f cdv A outer s H E) (WOf E) := takes_of rfl rfl rfl rfl
  have ps0 : PassesOwn (model P w) (cxOf (L2.CX P w) P w K mg base ["_law_script", "_law_town", "_law_rows", "_law_k", "_law_some", "_law_number"] "_law_rows_of" (defScope s__law_rows_of) f cdv A outer s H E).A (cxOf (L2.CX P w) P w K mg base ["_law_script", "_law_town", "_law_rows", "_law_k", "_law_some", "_law_number"] "_law_rows_of" (defScope s__law_rows_of) f cdv A outer s H E).env (cxOf (L2.CX P w) P w K mg base ["_law_script", "_law_town", "_law_rows", "_law_k", "_law_some", "_law_number"] "_law_rows_of" (defScope s__law_rows_of) f cdv A outer s H E).xe := passes_of rfl
  exact (scons (ssetO 2 nd (ldsp dnil))
 (scons (sfor ps0 rfl (irng1 (by rfl) T_.b.range (dcons (xdo D__law_pick (hr.mono (by decide)) (by rfl) tk0 (ar 0 (ab 1 (av (xl (ldsp (dcons xint (dcons xint (dcons xint dnil))))) anil)))) dnil)) (gnm 3 nd) (scons (sset 4 nd (xl (ldsp (dcons xint (dcons xint (dcons xint (dcons (xop op_sub pure_sub xint xint) (dcons (xop op_sub pure_sub xint xint) (dcons (xop op_sub pure_sub xint xint) (dcons xint (dcons (xop op_sub pure_sub xint xint) dnil)))))))))))
 (scons (sset 5 nd (xdo D__law_pick (hr.mono (by decide)) (by rfl) tk0 (ar 0 (ab 1 (av (xop op_addD pure_add (xv 4) (xl (ldsp (dcons (xop op_sub pure_sub (xdo D__law_draw (hr.mono (by decide)) (by rfl) tk0 (ar 0 (ab 1 (av xint anil)))) xint) dnil)))) anil)))))
 (sone (sappend 2 (xtup (dcons (xdo D__law_value (hr.mono (by decide)) (by rfl) tk0 (ar 0 (ab 1 (av xstr anil)))) (dcons (xif (tcmp (op_eqP hu) pure_eq (xdo D__law_draw (hr.mono (by decide)) (by rfl) tk0 (ar 0 (ab 1 (av xint anil)))) xint (nomark _)) xnon (xv 5)) dnil))))))))
 (sone (sret (xtup (dcons (xtup (dcons (xtup (dcons xstr (dcons xstr dnil))) (dcons (xtup (dcons xstr (dcons xstr dnil))) dnil))) (dcons (xrd 2) dnil)))))))
abbrev s_law : Stmt := top 62
theorem sc_law : FnScope ["_law_script", "_law_town", "_law_table_here", "_law_size", "_law_keys", "_law_key", "_law_place", "_law_made_here", "_law_row_here", "_law_plan", "_law_one", "_law_k", "_law_both_now", "_law_paths", "_law_told"] ["_law_script"] (defScope s_law) := ⟨rfl, rfl, rfl, by decide +kernel, rfl, by decide +kernel, by decide +kernel⟩
theorem ok_law {fp : Addr} {fd : FuncData} (T_ : Txt K mg T) (F : Fun K "law" "law" s_law fp fd) (D__law_draw : Does P w K mg base T "_law_draw" ["_law_script", "_law_town", "_law_many"] 3 L_draw) (D__law_heads : Does P w K mg base T "_law_heads" ["_law_paths"] 2 L_heads_k04) (D__law_made : Does P w K mg base T "_law_made" ["_law_value_here", "_law_key"] 1 L_made) (D__law_pick : Does P w K mg base T "_law_pick" ["_law_script", "_law_town", "_law_some"] 4 L_pick) (D__law_rows_of : Does P w K mg base T "_law_rows_of" ["_law_script", "_law_town"] 7 L_rows_of) (D_heads : Does P w K mg base T "heads" ["table", "plan"] 7 M_heads) (D_opened : Does P w K mg base T "opened" ["table", "plan", "row_path", "column_path"] 7 M_opened) : FnOk P w K mg base (L2.CX P w) 8 fp fd ["_law_script"] (spM K T L_law_k04) :=
 fn_ok F sc_law 14 rfl fun cdv A outer s H E hr => by
  have nd := sc_law.nd
  have hu := hr.units
  have tk0 : Takes (cxOf (L2.CX P w) P w K mg base ["_law_script", "_law_town", "_law_table_here", "_law_size", "_law_keys", "_law_key", "_law_place", "_law_made_here", "_law_row_here", "_law_plan", "_law_one", "_law_k", "_law_both_now", "_law_paths", "_law_told"] "law" (defScope s_law) fp cdv A outer s H E) (WOf E) := takes_of rfl rfl rfl rfl
  have ps0 : PassesOwn (model P w) (cxOf (L2.CX P w) P w K mg base ["_law_script", "_law_town", "_law_table_here", "_law_size", "_law_keys", "_law_key", "_law_place", "_law_made_here", "_law_row_here", "_law_plan", "_law_one", "_law_k", "_law_both_now", "_law_paths", "_law_told"] "law" (defScope s_law) fp cdv A outer s H E).A (cxOf (L2.CX P w) P w K mg base ["_law_script", "_law_town", "_law_table_here", "_law_size", "_law_keys", "_law_key", "_law_place", "_law_made_here", "_law_row_here", "_law_plan", "_law_one", "_law_k", "_law_both_now", "_law_paths", "_law_told"] "law" (defScope s_law) fp cdv A outer s H E).env (cxOf (L2.CX P w) P w K mg base ["_law_script", "_law_town", "_law_table_here", "_law_size", "_law_keys", "_law_key", "_law_place", "_law_made_here", "_law_row_here", "_law_plan", "_law_one", "_law_k", "_law_both_now", "_law_paths", "_law_told"] "law" (defScope s_law) fp cdv A outer s H E).xe := passes_of rfl
  exact (scons (ssetO 1 nd (ldsp dnil))
 (scons (sset 2 nd (xdo D__law_rows_of (hr.mono (by decide)) (by rfl) tk0 (ar 0 (ab 1 anil))))
 (scons (sset 3 nd (xdo D__law_pick (hr.mono (by decide)) (by rfl) tk0 (ar 0 (ab 1 (av (xl (ldsp (dcons xint (dcons xint (dcons xint (dcons xint (dcons xint (dcons xint (dcons xint dnil))))))))) anil)))))
 (scons (sset 4 nd (xl (ldsp (dcons (xtup (dcons xstr (dcons xstr (dcons (xv 3) dnil)))) (dcons (xtup (dcons xstr (dcons xstr (dcons (xop op_addD pure_add xint (xdo D__law_draw (hr.mono (by decide)) (by rfl) tk0 (ar 0 (ab 1 (av xint anil))))) dnil)))) (dcons xstr (dcons xstr dnil)))))))
 (scons (sfor ps0 rfl (iany (xv 4)) (gnm 5 nd) (scons (sset 6 nd (xif (tcmp (op_inA hu) pure_in (xv 5) (xtup (dcons xstr (dcons (xix (xv 4) xint) dnil))) (by rfl)) xint xint))
 (scons (sset 7 nd (xl (llc [("_law_row_here", 8)] rfl nd (iany (xix (xv 2) xint)) (blkOk_by (by kernel_rfl)) (fun _ _ _ _ _ => (gnm 8 nd)) (fun _ _ _ _ _ => pts_nilM) (fun _ _ _ _ _ => (xdo D__law_made (hr.mono (by decide)) (by rfl) takes0 (av (xix (xv 8) (xv 6)) (av (xv 5) anil)))) (by decide))))
 (scons (sset 9 nd (xtup (dcons (xtup (dcons (xv 5) dnil)) (dcons (xtup dnil) (dcons (xtup (dcons (xtup (dcons xstr dnil)) dnil)) (dcons (xtup dnil) dnil))))))
 (scons (sif (tcmp (op_neP hu) pure_ne (xdo D_heads (hr.mono (by decide)) (by rfl) tk0 (av (xv 2) (av (xv 9) anil))) (xtup (dcons (xdo D__law_heads (hr.mono (by decide)) (by rfl) tk0 (av (xl (llc [("_law_one", 10)] rfl nd (iany (xv 7)) (blkOk_by (by kernel_rfl)) (fun _ _ _ _ _ => (gnm 10 nd)) (fun _ _ _ _ _ => pts_nilM) (fun _ _ _ _ _ => (xtup (dcons (xv 10) dnil))) (by decide))) anil)) (dcons (xl (ldsp (dcons (xtup dnil) dnil))) dnil))) (nomark _)) (sone (sret xbl)) snil)
 (sone (sfor ps0 rfl (iany (xsl (xv 7) opn (ops xint))) (gnm 10 nd) (scons (sif (tcmp (op_neP hu) pure_ne (xdo D_opened (hr.mono (by decide)) (by rfl) tk0 (av (xv 2) (av (xv 9) (av (xtup (dcons (xv 10) dnil)) (av (xtup dnil) anil))))) (xl (llc [("_law_k", 11)] rfl nd (irng1 (by rfl) T_.b.range (dcons (xcb call_len pure_len (by rfl) T_.b.len b_len (dcons (xv 7) dnil)) dnil)) (blkOk_by (by kernel_rfl)) (fun _ _ _ _ _ => (gnm 11 nd)) (fun _ _ _ _ _ => (pts_one (tcmp (op_eqP hu) pure_eq (xix (xv 7) (xv 11)) (xv 10) (nomark _)))) (fun _ _ _ _ _ => (xv 11)) (by decide))) (nomark _)) (sone (sret xbl)) snil)
 (sone (sif (tw (wand (tcmp (op_eqP hu) pure_eq (xv 5) (xix (xv 4) xint) (nomark _)) (wand (tcmp op_notN pure_isnt (xv 10) xnon (nomark _)) (wand1 (tcmp (op_neP hu) pure_ne (xop op_modN pure_mod (xv 10) (xv 3)) xint (nomark _)))))) (sone (sret xbl)) snil))))))))))
 (scons (sset 12 nd (xtup (dcons (xix (xv 4) xint) (dcons (xix (xv 4) xint) dnil))))
 (scons (ssetLc 13 [("_law_row_here", 8)] rfl nd (iany (xix (xv 2) xint)) (blkOk_by (by kernel_rfl)) (fun _ _ _ _ _ => (gnm 8 nd)) (fun _ _ _ _ _ => pts_nilM) (fun _ _ _ _ _ => (xtup (dcons (xdo D__law_made (hr.mono (by decide)) (by rfl) takes0 (av (xix (xv 8) xint) (av (xix (xv 4) xint) anil))) (dcons (xdo D__law_made (hr.mono (by decide)) (by rfl) takes0 (av (xix (xv 8) xint) (av (xix (xv 4) xint) anil))) dnil)))) (by decide) (sw_true rfl rfl rfl (by decide +kernel)))
 (scons (sset 14 nd (xdo D_heads (hr.mono (by decide)) (by rfl) tk0 (av (xv 2) (av (xtup (dcons (xtup (dcons (xix (xv 4) xint) dnil)) (dcons (xv 12) (dcons (xtup (dcons (xtup (dcons xstr dnil)) dnil)) (dcons (xtup dnil) dnil))))) anil))))
 (sone (sret (xcmp (op_eqP hu) pure_eq (xv 14) (xtup (dcons (xdo D__law_heads (hr.mono (by decide)) (by rfl) tk0 (av (xl (llc [("_law_row_here", 8)] rfl nd (iany (xix (xv 2) xint)) (blkOk_by (by kernel_rfl)) (fun _ _ _ _ _ => (gnm 8 nd)) (fun _ _ _ _ _ => pts_nilM) (fun _ _ _ _ _ => (xtup (dcons (xix (xv 8) xint) dnil))) (by decide))) anil)) (dcons (xdo D__law_heads (hr.mono (by decide)) (by rfl) tk0 (av (xv 13) anil)) dnil))) (nomark _))))))))))))
end
end VL

set_option Elab.async false
set_option linter.all false
set_option maxRecDepth 100000
set_option maxHeartbeats 8000000
namespace VL
open PySem PySem.Spec PyProof.Rows L2
theorem all_mk {l : PySem.W.OpenLaw} {w : World} {K : PySem.W.Frag} {h : Heap} {mg : Str → Option Value} {fa : Addr} (X : K.In h) (G : h.Ns mainGlobals mg) (hfa : mg "law" = some (.ref fa))
 {f_is_whole : Addr} {od_is_whole an_is_whole : Option Addr} {sl_is_whole : Array (Option Value)} {oc_is_whole kV_is_whole dc_is_whole pm_is_whole cd_is_whole ct_is_whole : Value}
 {f_is_word : Addr} {od_is_word an_is_word : Option Addr} {sl_is_word : Array (Option Value)} {oc_is_word kV_is_word dc_is_word pm_is_word cd_is_word ct_is_word : Value}
 {f_is_value : Addr} {od_is_value an_is_value : Option Addr} {sl_is_value : Array (Option Value)} {oc_is_value kV_is_value dc_is_value pm_is_value cd_is_value ct_is_value : Value}
 {f_are_columns : Addr} {od_are_columns an_are_columns : Option Addr} {sl_are_columns : Array (Option Value)} {oc_are_columns kV_are_columns dc_are_columns pm_are_columns cd_are_columns ct_are_columns : Value}
 {f_look_columns : Addr} {od_look_columns an_look_columns : Option Addr} {sl_look_columns : Array (Option Value)} {oc_look_columns kV_look_columns dc_look_columns pm_look_columns cd_look_columns ct_look_columns : Value}
 {f_look_row : Addr} {od_look_row an_look_row : Option Addr} {sl_look_row : Array (Option Value)} {oc_look_row kV_look_row dc_look_row pm_look_row cd_look_row ct_look_row : Value}
 {f_look_table : Addr} {od_look_table an_look_table : Option Addr} {sl_look_table : Array (Option Value)} {oc_look_table kV_look_table dc_look_table pm_look_table cd_look_table ct_look_table : Value}
 {f_place_of : Addr} {od_place_of an_place_of : Option Addr} {sl_place_of : Array (Option Value)} {oc_place_of kV_place_of dc_place_of pm_place_of cd_place_of ct_place_of : Value}
 {f_kind_of : Addr} {od_kind_of an_kind_of : Option Addr} {sl_kind_of : Array (Option Value)} {oc_kind_of kV_kind_of dc_kind_of pm_kind_of cd_kind_of ct_kind_of : Value}
 {f_rank : Addr} {od_rank an_rank : Option Addr} {sl_rank : Array (Option Value)} {oc_rank kV_rank dc_rank pm_rank cd_rank ct_rank : Value}
 {f_ranked : Addr} {od_ranked an_ranked : Option Addr} {sl_ranked : Array (Option Value)} {oc_ranked kV_ranked dc_ranked pm_ranked cd_ranked ct_ranked : Value}
 {f_is_key : Addr} {od_is_key an_is_key : Option Addr} {sl_is_key : Array (Option Value)} {oc_is_key kV_is_key dc_is_key pm_is_key cd_is_key ct_is_key : Value}
 {f_is_sum : Addr} {od_is_sum an_is_sum : Option Addr} {sl_is_sum : Array (Option Value)} {oc_is_sum kV_is_sum dc_is_sum pm_is_sum cd_is_sum ct_is_sum : Value}
 {f_is_sift : Addr} {od_is_sift an_is_sift : Option Addr} {sl_is_sift : Array (Option Value)} {oc_is_sift kV_is_sift dc_is_sift pm_is_sift cd_is_sift ct_is_sift : Value}
 {f_are_all : Addr} {od_are_all an_are_all : Option Addr} {sl_are_all : Array (Option Value)} {oc_are_all kV_are_all dc_are_all pm_are_all cd_are_all ct_are_all : Value}
 {f_look_plan : Addr} {od_look_plan an_look_plan : Option Addr} {sl_look_plan : Array (Option Value)} {oc_look_plan kV_look_plan dc_look_plan pm_look_plan cd_look_plan ct_look_plan : Value}
 {f_key_in : Addr} {od_key_in an_key_in : Option Addr} {sl_key_in : Array (Option Value)} {oc_key_in kV_key_in dc_key_in pm_key_in cd_key_in ct_key_in : Value}
 {f_path_in : Addr} {od_path_in an_path_in : Option Addr} {sl_path_in : Array (Option Value)} {oc_path_in kV_path_in dc_path_in pm_path_in cd_path_in ct_path_in : Value}
 {f_counts : Addr} {od_counts an_counts : Option Addr} {sl_counts : Array (Option Value)} {oc_counts kV_counts dc_counts pm_counts cd_counts ct_counts : Value}
 {f_look_all : Addr} {od_look_all an_look_all : Option Addr} {sl_look_all : Array (Option Value)} {oc_look_all kV_look_all dc_look_all pm_look_all cd_look_all ct_look_all : Value}
 {f_counted : Addr} {od_counted an_counted : Option Addr} {sl_counted : Array (Option Value)} {oc_counted kV_counted dc_counted pm_counted cd_counted ct_counted : Value}
 {f_with_heads : Addr} {od_with_heads an_with_heads : Option Addr} {sl_with_heads : Array (Option Value)} {oc_with_heads kV_with_heads dc_with_heads pm_with_heads cd_with_heads ct_with_heads : Value}
 {f_sides : Addr} {od_sides an_sides : Option Addr} {sl_sides : Array (Option Value)} {oc_sides kV_sides dc_sides pm_sides cd_sides ct_sides : Value}
 {f_heads : Addr} {od_heads an_heads : Option Addr} {sl_heads : Array (Option Value)} {oc_heads kV_heads dc_heads pm_heads cd_heads ct_heads : Value}
 {f_begins : Addr} {od_begins an_begins : Option Addr} {sl_begins : Array (Option Value)} {oc_begins kV_begins dc_begins pm_begins cd_begins ct_begins : Value}
 {f_members : Addr} {od_members an_members : Option Addr} {sl_members : Array (Option Value)} {oc_members kV_members dc_members pm_members cd_members ct_members : Value}
 {f_look_place : Addr} {od_look_place an_look_place : Option Addr} {sl_look_place : Array (Option Value)} {oc_look_place kV_look_place dc_look_place pm_look_place cd_look_place ct_look_place : Value}
 {f_opened : Addr} {od_opened an_opened : Option Addr} {sl_opened : Array (Option Value)} {oc_opened kV_opened dc_opened pm_opened cd_opened ct_opened : Value}
 {f__law_cell : Addr} {od__law_cell an__law_cell : Option Addr} {sl__law_cell : Array (Option Value)} {oc__law_cell kV__law_cell dc__law_cell pm__law_cell cd__law_cell ct__law_cell : Value}
 {f__law_mix : Addr} {od__law_mix an__law_mix : Option Addr} {sl__law_mix : Array (Option Value)} {oc__law_mix kV__law_mix dc__law_mix pm__law_mix cd__law_mix ct__law_mix : Value}
 {f__law_draw : Addr} {od__law_draw an__law_draw : Option Addr} {sl__law_draw : Array (Option Value)} {oc__law_draw kV__law_draw dc__law_draw pm__law_draw cd__law_draw ct__law_draw : Value}
 {f__law_pick : Addr} {od__law_pick an__law_pick : Option Addr} {sl__law_pick : Array (Option Value)} {oc__law_pick kV__law_pick dc__law_pick pm__law_pick cd__law_pick ct__law_pick : Value}
 {f__law_word : Addr} {od__law_word an__law_word : Option Addr} {sl__law_word : Array (Option Value)} {oc__law_word kV__law_word dc__law_word pm__law_word cd__law_word ct__law_word : Value}
 {f__law_value : Addr} {od__law_value an__law_value : Option Addr} {sl__law_value : Array (Option Value)} {oc__law_value kV__law_value dc__law_value pm__law_value cd__law_value ct__law_value : Value}
 {f__law_mark : Addr} {od__law_mark an__law_mark : Option Addr} {sl__law_mark : Array (Option Value)} {oc__law_mark kV__law_mark dc__law_mark pm__law_mark cd__law_mark ct__law_mark : Value}
 {f__law_heads : Addr} {od__law_heads an__law_heads : Option Addr} {sl__law_heads : Array (Option Value)} {oc__law_heads kV__law_heads dc__law_heads pm__law_heads cd__law_heads ct__law_heads : Value}
 {f__law_made : Addr} {od__law_made an__law_made : Option Addr} {sl__law_made : Array (Option Value)} {oc__law_made kV__law_made dc__law_made pm__law_made cd__law_made ct__law_made : Value}
 {f__law_rows_of : Addr} {od__law_rows_of an__law_rows_of : Option Addr} {sl__law_rows_of : Array (Option Value)} {oc__law_rows_of kV__law_rows_of dc__law_rows_of pm__law_rows_of cd__law_rows_of ct__law_rows_of : Value}
 {f_law : Addr} {od_law an_law : Option Addr} {sl_law : Array (Option Value)} {oc_law kV_law dc_law pm_law cd_law ct_law : Value}
 {C_BadTable : Addr}
 {C_BadRow : Addr}
 {C_BadPlan : Addr}
 {C_NoPlace : Addr}
 {t_SMALL : Tok}
 {t_MOST_COLUMNS : Tok}
 {t_MOST_ROWS : Tok}
 {t_MOST_WORD : Tok}
 {t_MOST_NUMBER : Tok}
 {p_KINDS : Addr} {o_KINDS : Option Addr} {n_KINDS : Nat} {z_KINDS : Array (Option Value)} {t0_KINDS t1_KINDS : Tok}
 {t_MOST_KEYS : Tok}
 {t_MOST_SUMS : Tok}
 {t_MOST_SIFTS : Tok}
 {p_OF_NUMBERS : Addr} {o_OF_NUMBERS : Option Addr} {n_OF_NUMBERS : Nat} {z_OF_NUMBERS : Array (Option Value)} {t0_OF_NUMBERS t1_OF_NUMBERS t2_OF_NUMBERS t3_OF_NUMBERS : Tok}
 {p_SHARES : Addr} {o_SHARES : Option Addr} {n_SHARES : Nat} {z_SHARES : Array (Option Value)} {t0_SHARES t1_SHARES t2_SHARES : Tok}
 (a_is_whole : PySem.W.nsIn K mainGlobals "is_whole" = some (some (.ref f_is_whole)))
 (l_is_whole : K.lookup f_is_whole = some ⟨oc_is_whole, od_is_whole, .func (PySem.W.fnOf "is_whole" "is_whole" (defArgs s_is_whole) (defBody s_is_whole) (defScope s_is_whole) .none kV_is_whole dc_is_whole pm_is_whole an_is_whole cd_is_whole ct_is_whole), sl_is_whole⟩)
 (c_is_whole : PySem.W.codeIn K cd_is_whole "is_whole" = true)
 (k_is_whole : PySem.W.keepIn K (.ref f_is_whole) = true)
 (a_is_word : PySem.W.nsIn K mainGlobals "is_word" = some (some (.ref f_is_word)))
 (l_is_word : K.lookup f_is_word = some ⟨oc_is_word, od_is_word, .func (PySem.W.fnOf "is_word" "is_word" (defArgs s_is_word) (defBody s_is_word) (defScope s_is_word) .none kV_is_word dc_is_word pm_is_word an_is_word cd_is_word ct_is_word), sl_is_word⟩)
 (c_is_word : PySem.W.codeIn K cd_is_word "is_word" = true)
 (k_is_word : PySem.W.keepIn K (.ref f_is_word) = true)
 (a_is_value : PySem.W.nsIn K mainGlobals "is_value" = some (some (.ref f_is_value)))
 (l_is_value : K.lookup f_is_value = some ⟨oc_is_value, od_is_value, .func (PySem.W.fnOf "is_value" "is_value" (defArgs s_is_value) (defBody s_is_value) (defScope s_is_value) .none kV_is_value dc_is_value pm_is_value an_is_value cd_is_value ct_is_value), sl_is_value⟩)
 (c_is_value : PySem.W.codeIn K cd_is_value "is_value" = true)
 (k_is_value : PySem.W.keepIn K (.ref f_is_value) = true)
 (a_are_columns : PySem.W.nsIn K mainGlobals "are_columns" = some (some (.ref f_are_columns)))
 (l_are_columns : K.lookup f_are_columns = some ⟨oc_are_columns, od_are_columns, .func (PySem.W.fnOf "are_columns" "are_columns" (defArgs s_are_columns) (defBody s_are_columns) (defScope s_are_columns) .none kV_are_columns dc_are_columns pm_are_columns an_are_columns cd_are_columns ct_are_columns), sl_are_columns⟩)
 (c_are_columns : PySem.W.codeIn K cd_are_columns "are_columns" = true)
 (k_are_columns : PySem.W.keepIn K (.ref f_are_columns) = true)
 (a_look_columns : PySem.W.nsIn K mainGlobals "look_columns" = some (some (.ref f_look_columns)))
 (l_look_columns : K.lookup f_look_columns = some ⟨oc_look_columns, od_look_columns, .func (PySem.W.fnOf "look_columns" "look_columns" (defArgs s_look_columns) (defBody s_look_columns) (defScope s_look_columns) .none kV_look_columns dc_look_columns pm_look_columns an_look_columns cd_look_columns ct_look_columns), sl_look_columns⟩)
 (c_look_columns : PySem.W.codeIn K cd_look_columns "look_columns" = true)
 (k_look_columns : PySem.W.keepIn K (.ref f_look_columns) = true)
 (a_look_row : PySem.W.nsIn K mainGlobals "look_row" = some (some (.ref f_look_row)))
 (l_look_row : K.lookup f_look_row = some ⟨oc_look_row, od_look_row, .func (PySem.W.fnOf "look_row" "look_row" (defArgs s_look_row) (defBody s_look_row) (defScope s_look_row) .none kV_look_row dc_look_row pm_look_row an_look_row cd_look_row ct_look_row), sl_look_row⟩)
 (c_look_row : PySem.W.codeIn K cd_look_row "look_row" = true)
 (k_look_row : PySem.W.keepIn K (.ref f_look_row) = true)
 (a_look_table : PySem.W.nsIn K mainGlobals "look_table" = some (some (.ref f_look_table)))
 (l_look_table : K.lookup f_look_table = some ⟨oc_look_table, od_look_table, .func (PySem.W.fnOf "look_table" "look_table" (defArgs s_look_table) (defBody s_look_table) (defScope s_look_table) .none kV_look_table dc_look_table pm_look_table an_look_table cd_look_table ct_look_table), sl_look_table⟩)
 (c_look_table : PySem.W.codeIn K cd_look_table "look_table" = true)
 (k_look_table : PySem.W.keepIn K (.ref f_look_table) = true)
 (a_place_of : PySem.W.nsIn K mainGlobals "place_of" = some (some (.ref f_place_of)))
 (l_place_of : K.lookup f_place_of = some ⟨oc_place_of, od_place_of, .func (PySem.W.fnOf "place_of" "place_of" (defArgs s_place_of) (defBody s_place_of) (defScope s_place_of) .none kV_place_of dc_place_of pm_place_of an_place_of cd_place_of ct_place_of), sl_place_of⟩)
 (c_place_of : PySem.W.codeIn K cd_place_of "place_of" = true)
 (k_place_of : PySem.W.keepIn K (.ref f_place_of) = true)
 (a_kind_of : PySem.W.nsIn K mainGlobals "kind_of" = some (some (.ref f_kind_of)))
 (l_kind_of : K.lookup f_kind_of = some ⟨oc_kind_of, od_kind_of, .func (PySem.W.fnOf "kind_of" "kind_of" (defArgs s_kind_of) (defBody s_kind_of) (defScope s_kind_of) .none kV_kind_of dc_kind_of pm_kind_of an_kind_of cd_kind_of ct_kind_of), sl_kind_of⟩)
 (c_kind_of : PySem.W.codeIn K cd_kind_of "kind_of" = true)
 (k_kind_of : PySem.W.keepIn K (.ref f_kind_of) = true)
 (a_rank : PySem.W.nsIn K mainGlobals "rank" = some (some (.ref f_rank)))
 (l_rank : K.lookup f_rank = some ⟨oc_rank, od_rank, .func (PySem.W.fnOf "rank" "rank" (defArgs s_rank) (defBody s_rank) (defScope s_rank) .none kV_rank dc_rank pm_rank an_rank cd_rank ct_rank), sl_rank⟩)
 (c_rank : PySem.W.codeIn K cd_rank "rank" = true)
 (k_rank : PySem.W.keepIn K (.ref f_rank) = true)
 (a_ranked : PySem.W.nsIn K mainGlobals "ranked" = some (some (.ref f_ranked)))
 (l_ranked : K.lookup f_ranked = some ⟨oc_ranked, od_ranked, .func (PySem.W.fnOf "ranked" "ranked" (defArgs s_ranked) (defBody s_ranked) (defScope s_ranked) .none kV_ranked dc_ranked pm_ranked an_ranked cd_ranked ct_ranked), sl_ranked⟩)
 (c_ranked : PySem.W.codeIn K cd_ranked "ranked" = true)
 (k_ranked : PySem.W.keepIn K (.ref f_ranked) = true)
 (a_is_key : PySem.W.nsIn K mainGlobals "is_key" = some (some (.ref f_is_key)))
 (l_is_key : K.lookup f_is_key = some ⟨oc_is_key, od_is_key, .func (PySem.W.fnOf "is_key" "is_key" (defArgs s_is_key) (defBody s_is_key) (defScope s_is_key) .none kV_is_key dc_is_key pm_is_key an_is_key cd_is_key ct_is_key), sl_is_key⟩)
 (c_is_key : PySem.W.codeIn K cd_is_key "is_key" = true)
 (k_is_key : PySem.W.keepIn K (.ref f_is_key) = true)
 (a_is_sum : PySem.W.nsIn K mainGlobals "is_sum" = some (some (.ref f_is_sum)))
 (l_is_sum : K.lookup f_is_sum = some ⟨oc_is_sum, od_is_sum, .func (PySem.W.fnOf "is_sum" "is_sum" (defArgs s_is_sum) (defBody s_is_sum) (defScope s_is_sum) .none kV_is_sum dc_is_sum pm_is_sum an_is_sum cd_is_sum ct_is_sum), sl_is_sum⟩)
 (c_is_sum : PySem.W.codeIn K cd_is_sum "is_sum" = true)
 (k_is_sum : PySem.W.keepIn K (.ref f_is_sum) = true)
 (a_is_sift : PySem.W.nsIn K mainGlobals "is_sift" = some (some (.ref f_is_sift)))
 (l_is_sift : K.lookup f_is_sift = some ⟨oc_is_sift, od_is_sift, .func (PySem.W.fnOf "is_sift" "is_sift" (defArgs s_is_sift) (defBody s_is_sift) (defScope s_is_sift) .none kV_is_sift dc_is_sift pm_is_sift an_is_sift cd_is_sift ct_is_sift), sl_is_sift⟩)
 (c_is_sift : PySem.W.codeIn K cd_is_sift "is_sift" = true)
 (k_is_sift : PySem.W.keepIn K (.ref f_is_sift) = true)
 (a_are_all : PySem.W.nsIn K mainGlobals "are_all" = some (some (.ref f_are_all)))
 (l_are_all : K.lookup f_are_all = some ⟨oc_are_all, od_are_all, .func (PySem.W.fnOf "are_all" "are_all" (defArgs s_are_all) (defBody s_are_all) (defScope s_are_all) .none kV_are_all dc_are_all pm_are_all an_are_all cd_are_all ct_are_all), sl_are_all⟩)
 (c_are_all : PySem.W.codeIn K cd_are_all "are_all" = true)
 (k_are_all : PySem.W.keepIn K (.ref f_are_all) = true)
 (a_look_plan : PySem.W.nsIn K mainGlobals "look_plan" = some (some (.ref f_look_plan)))
 (l_look_plan : K.lookup f_look_plan = some ⟨oc_look_plan, od_look_plan, .func (PySem.W.fnOf "look_plan" "look_plan" (defArgs s_look_plan) (defBody s_look_plan) (defScope s_look_plan) .none kV_look_plan dc_look_plan pm_look_plan an_look_plan cd_look_plan ct_look_plan), sl_look_plan⟩)
 (c_look_plan : PySem.W.codeIn K cd_look_plan "look_plan" = true)
 (k_look_plan : PySem.W.keepIn K (.ref f_look_plan) = true)
 (a_key_in : PySem.W.nsIn K mainGlobals "key_in" = some (some (.ref f_key_in)))
 (l_key_in : K.lookup f_key_in = some ⟨oc_key_in, od_key_in, .func (PySem.W.fnOf "key_in" "key_in" (defArgs s_key_in) (defBody s_key_in) (defScope s_key_in) .none kV_key_in dc_key_in pm_key_in an_key_in cd_key_in ct_key_in), sl_key_in⟩)
 (c_key_in : PySem.W.codeIn K cd_key_in "key_in" = true)
 (k_key_in : PySem.W.keepIn K (.ref f_key_in) = true)
 (a_path_in : PySem.W.nsIn K mainGlobals "path_in" = some (some (.ref f_path_in)))
 (l_path_in : K.lookup f_path_in = some ⟨oc_path_in, od_path_in, .func (PySem.W.fnOf "path_in" "path_in" (defArgs s_path_in) (defBody s_path_in) (defScope s_path_in) .none kV_path_in dc_path_in pm_path_in an_path_in cd_path_in ct_path_in), sl_path_in⟩)
 (c_path_in : PySem.W.codeIn K cd_path_in "path_in" = true)
 (k_path_in : PySem.W.keepIn K (.ref f_path_in) = true)
 (a_counts : PySem.W.nsIn K mainGlobals "counts" = some (some (.ref f_counts)))
 (l_counts : K.lookup f_counts = some ⟨oc_counts, od_counts, .func (PySem.W.fnOf "counts" "counts" (defArgs s_counts) (defBody s_counts) (defScope s_counts) .none kV_counts dc_counts pm_counts an_counts cd_counts ct_counts), sl_counts⟩)
 (c_counts : PySem.W.codeIn K cd_counts "counts" = true)
 (k_counts : PySem.W.keepIn K (.ref f_counts) = true)
 (a_look_all : PySem.W.nsIn K mainGlobals "look_all" = some (some (.ref f_look_all)))
 (l_look_all : K.lookup f_look_all = some ⟨oc_look_all, od_look_all, .func (PySem.W.fnOf "look_all" "look_all" (defArgs s_look_all) (defBody s_look_all) (defScope s_look_all) .none kV_look_all dc_look_all pm_look_all an_look_all cd_look_all ct_look_all), sl_look_all⟩)
 (c_look_all : PySem.W.codeIn K cd_look_all "look_all" = true)
 (k_look_all : PySem.W.keepIn K (.ref f_look_all) = true)
 (a_counted : PySem.W.nsIn K mainGlobals "counted" = some (some (.ref f_counted)))
 (l_counted : K.lookup f_counted = some ⟨oc_counted, od_counted, .func (PySem.W.fnOf "counted" "counted" (defArgs s_counted) (defBody s_counted) (defScope s_counted) .none kV_counted dc_counted pm_counted an_counted cd_counted ct_counted), sl_counted⟩)
 (c_counted : PySem.W.codeIn K cd_counted "counted" = true)
 (k_counted : PySem.W.keepIn K (.ref f_counted) = true)
 (a_with_heads : PySem.W.nsIn K mainGlobals "with_heads" = some (some (.ref f_with_heads)))
 (l_with_heads : K.lookup f_with_heads = some ⟨oc_with_heads, od_with_heads, .func (PySem.W.fnOf "with_heads" "with_heads" (defArgs s_with_heads) (defBody s_with_heads) (defScope s_with_heads) .none kV_with_heads dc_with_heads pm_with_heads an_with_heads cd_with_heads ct_with_heads), sl_with_heads⟩)
 (c_with_heads : PySem.W.codeIn K cd_with_heads "with_heads" = true)
 (k_with_heads : PySem.W.keepIn K (.ref f_with_heads) = true)
 (a_sides : PySem.W.nsIn K mainGlobals "sides" = some (some (.ref f_sides)))
 (l_sides : K.lookup f_sides = some ⟨oc_sides, od_sides, .func (PySem.W.fnOf "sides" "sides" (defArgs s_sides) (defBody s_sides) (defScope s_sides) .none kV_sides dc_sides pm_sides an_sides cd_sides ct_sides), sl_sides⟩)
 (c_sides : PySem.W.codeIn K cd_sides "sides" = true)
 (k_sides : PySem.W.keepIn K (.ref f_sides) = true)
 (a_heads : PySem.W.nsIn K mainGlobals "heads" = some (some (.ref f_heads)))
 (l_heads : K.lookup f_heads = some ⟨oc_heads, od_heads, .func (PySem.W.fnOf "heads" "heads" (defArgs s_heads) (defBody s_heads) (defScope s_heads) .none kV_heads dc_heads pm_heads an_heads cd_heads ct_heads), sl_heads⟩)
 (c_heads : PySem.W.codeIn K cd_heads "heads" = true)
 (k_heads : PySem.W.keepIn K (.ref f_heads) = true)
 (a_begins : PySem.W.nsIn K mainGlobals "begins" = some (some (.ref f_begins)))
 (l_begins : K.lookup f_begins = some ⟨oc_begins, od_begins, .func (PySem.W.fnOf "begins" "begins" (defArgs s_begins) (defBody s_begins) (defScope s_begins) .none kV_begins dc_begins pm_begins an_begins cd_begins ct_begins), sl_begins⟩)
 (c_begins : PySem.W.codeIn K cd_begins "begins" = true)
 (k_begins : PySem.W.keepIn K (.ref f_begins) = true)
 (a_members : PySem.W.nsIn K mainGlobals "members" = some (some (.ref f_members)))
 (l_members : K.lookup f_members = some ⟨oc_members, od_members, .func (PySem.W.fnOf "members" "members" (defArgs s_members) (defBody s_members) (defScope s_members) .none kV_members dc_members pm_members an_members cd_members ct_members), sl_members⟩)
 (c_members : PySem.W.codeIn K cd_members "members" = true)
 (k_members : PySem.W.keepIn K (.ref f_members) = true)
 (a_look_place : PySem.W.nsIn K mainGlobals "look_place" = some (some (.ref f_look_place)))
 (l_look_place : K.lookup f_look_place = some ⟨oc_look_place, od_look_place, .func (PySem.W.fnOf "look_place" "look_place" (defArgs s_look_place) (defBody s_look_place) (defScope s_look_place) .none kV_look_place dc_look_place pm_look_place an_look_place cd_look_place ct_look_place), sl_look_place⟩)
 (c_look_place : PySem.W.codeIn K cd_look_place "look_place" = true)
 (k_look_place : PySem.W.keepIn K (.ref f_look_place) = true)
 (a_opened : PySem.W.nsIn K mainGlobals "opened" = some (some (.ref f_opened)))
 (l_opened : K.lookup f_opened = some ⟨oc_opened, od_opened, .func (PySem.W.fnOf "opened" "opened" (defArgs s_opened) (defBody s_opened) (defScope s_opened) .none kV_opened dc_opened pm_opened an_opened cd_opened ct_opened), sl_opened⟩)
 (c_opened : PySem.W.codeIn K cd_opened "opened" = true)
 (k_opened : PySem.W.keepIn K (.ref f_opened) = true)
 (a__law_cell : PySem.W.nsIn K mainGlobals "_law_cell" = some (some (.ref f__law_cell)))
 (l__law_cell : K.lookup f__law_cell = some ⟨oc__law_cell, od__law_cell, .func (PySem.W.fnOf "_law_cell" "_law_cell" (defArgs s__law_cell) (defBody s__law_cell) (defScope s__law_cell) .none kV__law_cell dc__law_cell pm__law_cell an__law_cell cd__law_cell ct__law_cell), sl__law_cell⟩)
 (c__law_cell : PySem.W.codeIn K cd__law_cell "_law_cell" = true)
 (k__law_cell : PySem.W.keepIn K (.ref f__law_cell) = true)
 (a__law_mix : PySem.W.nsIn K mainGlobals "_law_mix" = some (some (.ref f__law_mix)))
 (l__law_mix : K.lookup f__law_mix = some ⟨oc__law_mix, od__law_mix, .func (PySem.W.fnOf "_law_mix" "_law_mix" (defArgs s__law_mix) (defBody s__law_mix) (defScope s__law_mix) .none kV__law_mix dc__law_mix pm__law_mix an__law_mix cd__law_mix ct__law_mix), sl__law_mix⟩)
 (c__law_mix : PySem.W.codeIn K cd__law_mix "_law_mix" = true)
 (k__law_mix : PySem.W.keepIn K (.ref f__law_mix) = true)
 (a__law_draw : PySem.W.nsIn K mainGlobals "_law_draw" = some (some (.ref f__law_draw)))
 (l__law_draw : K.lookup f__law_draw = some ⟨oc__law_draw, od__law_draw, .func (PySem.W.fnOf "_law_draw" "_law_draw" (defArgs s__law_draw) (defBody s__law_draw) (defScope s__law_draw) .none kV__law_draw dc__law_draw pm__law_draw an__law_draw cd__law_draw ct__law_draw), sl__law_draw⟩)
 (c__law_draw : PySem.W.codeIn K cd__law_draw "_law_draw" = true)
 (k__law_draw : PySem.W.keepIn K (.ref f__law_draw) = true)
 (a__law_pick : PySem.W.nsIn K mainGlobals "_law_pick" = some (some (.ref f__law_pick)))
 (l__law_pick : K.lookup f__law_pick = some ⟨oc__law_pick, od__law_pick, .func (PySem.W.fnOf "_law_pick" "_law_pick" (defArgs s__law_pick) (defBody s__law_pick) (defScope s__law_pick) .none kV__law_pick dc__law_pick pm__law_pick an__law_pick cd__law_pick ct__law_pick), sl__law_pick⟩)
 (c__law_pick : PySem.W.codeIn K cd__law_pick "_law_pick" = true)
 (k__law_pick : PySem.W.keepIn K (.ref f__law_pick) = true)
 (a__law_word : PySem.W.nsIn K mainGlobals "_law_word" = some (some (.ref f__law_word)))
 (l__law_word : K.lookup f__law_word = some ⟨oc__law_word, od__law_word, .func (PySem.W.fnOf "_law_word" "_law_word" (defArgs s__law_word) (defBody s__law_word) (defScope s__law_word) .none kV__law_word dc__law_word pm__law_word an__law_word cd__law_word ct__law_word), sl__law_word⟩)
 (c__law_word : PySem.W.codeIn K cd__law_word "_law_word" = true)
 (k__law_word : PySem.W.keepIn K (.ref f__law_word) = true)
 (a__law_value : PySem.W.nsIn K mainGlobals "_law_value" = some (some (.ref f__law_value)))
 (l__law_value : K.lookup f__law_value = some ⟨oc__law_value, od__law_value, .func (PySem.W.fnOf "_law_value" "_law_value" (defArgs s__law_value) (defBody s__law_value) (defScope s__law_value) .none kV__law_value dc__law_value pm__law_value an__law_value cd__law_value ct__law_value), sl__law_value⟩)
 (c__law_value : PySem.W.codeIn K cd__law_value "_law_value" = true)
 (k__law_value : PySem.W.keepIn K (.ref f__law_value) = true)
 (a__law_mark : PySem.W.nsIn K mainGlobals "_law_mark" = some (some (.ref f__law_mark)))
 (l__law_mark : K.lookup f__law_mark = some ⟨oc__law_mark, od__law_mark, .func (PySem.W.fnOf "_law_mark" "_law_mark" (defArgs s__law_mark) (defBody s__law_mark) (defScope s__law_mark) .none kV__law_mark dc__law_mark pm__law_mark an__law_mark cd__law_mark ct__law_mark), sl__law_mark⟩)
 (c__law_mark : PySem.W.codeIn K cd__law_mark "_law_mark" = true)
 (k__law_mark : PySem.W.keepIn K (.ref f__law_mark) = true)
 (a__law_heads : PySem.W.nsIn K mainGlobals "_law_heads" = some (some (.ref f__law_heads)))
 (l__law_heads : K.lookup f__law_heads = some ⟨oc__law_heads, od__law_heads, .func (PySem.W.fnOf "_law_heads" "_law_heads" (defArgs s__law_heads) (defBody s__law_heads) (defScope s__law_heads) .none kV__law_heads dc__law_heads pm__law_heads an__law_heads cd__law_heads ct__law_heads), sl__law_heads⟩)
 (c__law_heads : PySem.W.codeIn K cd__law_heads "_law_heads" = true)
 (k__law_heads : PySem.W.keepIn K (.ref f__law_heads) = true)
 (a__law_made : PySem.W.nsIn K mainGlobals "_law_made" = some (some (.ref f__law_made)))
 (l__law_made : K.lookup f__law_made = some ⟨oc__law_made, od__law_made, .func (PySem.W.fnOf "_law_made" "_law_made" (defArgs s__law_made) (defBody s__law_made) (defScope s__law_made) .none kV__law_made dc__law_made pm__law_made an__law_made cd__law_made ct__law_made), sl__law_made⟩)
 (c__law_made : PySem.W.codeIn K cd__law_made "_law_made" = true)
 (k__law_made : PySem.W.keepIn K (.ref f__law_made) = true)
 (a__law_rows_of : PySem.W.nsIn K mainGlobals "_law_rows_of" = some (some (.ref f__law_rows_of)))
 (l__law_rows_of : K.lookup f__law_rows_of = some ⟨oc__law_rows_of, od__law_rows_of, .func (PySem.W.fnOf "_law_rows_of" "_law_rows_of" (defArgs s__law_rows_of) (defBody s__law_rows_of) (defScope s__law_rows_of) .none kV__law_rows_of dc__law_rows_of pm__law_rows_of an__law_rows_of cd__law_rows_of ct__law_rows_of), sl__law_rows_of⟩)
 (c__law_rows_of : PySem.W.codeIn K cd__law_rows_of "_law_rows_of" = true)
 (k__law_rows_of : PySem.W.keepIn K (.ref f__law_rows_of) = true)
 (a_law : PySem.W.nsIn K mainGlobals "law" = some (some (.ref f_law)))
 (l_law : K.lookup f_law = some ⟨oc_law, od_law, .func (PySem.W.fnOf "law" "law" (defArgs s_law) (defBody s_law) (defScope s_law) .none kV_law dc_law pm_law an_law cd_law ct_law), sl_law⟩)
 (c_law : PySem.W.codeIn K cd_law "law" = true)
 (k_law : PySem.W.keepIn K (.ref f_law) = true)
 (aC_BadTable : PySem.W.nsIn K mainGlobals "BadTable" = some (some (.ref C_BadTable)))
 (xC_BadTable : PySem.W.excIn K C_BadTable [.type "ValueError", .type "Exception", .type "BaseException", .type "object"] "ValueError.__new__" = true)
 (kC_BadTable : PySem.W.keepIn K (.ref C_BadTable) = true)
 (bC_BadTable : PySem.W.subIn K (.ref C_BadTable) (.type "BaseException") = some true)
 (tC_BadTable : PySem.W.typeIn K (.ref C_BadTable) = some (.type "type"))
 (aC_BadRow : PySem.W.nsIn K mainGlobals "BadRow" = some (some (.ref C_BadRow)))
 (xC_BadRow : PySem.W.excIn K C_BadRow [.type "ValueError", .type "Exception", .type "BaseException", .type "object"] "ValueError.__new__" = true)
 (kC_BadRow : PySem.W.keepIn K (.ref C_BadRow) = true)
 (bC_BadRow : PySem.W.subIn K (.ref C_BadRow) (.type "BaseException") = some true)
 (tC_BadRow : PySem.W.typeIn K (.ref C_BadRow) = some (.type "type"))
 (aC_BadPlan : PySem.W.nsIn K mainGlobals "BadPlan" = some (some (.ref C_BadPlan)))
 (xC_BadPlan : PySem.W.excIn K C_BadPlan [.type "ValueError", .type "Exception", .type "BaseException", .type "object"] "ValueError.__new__" = true)
 (kC_BadPlan : PySem.W.keepIn K (.ref C_BadPlan) = true)
 (bC_BadPlan : PySem.W.subIn K (.ref C_BadPlan) (.type "BaseException") = some true)
 (tC_BadPlan : PySem.W.typeIn K (.ref C_BadPlan) = some (.type "type"))
 (aC_NoPlace : PySem.W.nsIn K mainGlobals "NoPlace" = some (some (.ref C_NoPlace)))
 (xC_NoPlace : PySem.W.excIn K C_NoPlace [.type "ValueError", .type "Exception", .type "BaseException", .type "object"] "ValueError.__new__" = true)
 (kC_NoPlace : PySem.W.keepIn K (.ref C_NoPlace) = true)
 (bC_NoPlace : PySem.W.subIn K (.ref C_NoPlace) (.type "BaseException") = some true)
 (tC_NoPlace : PySem.W.typeIn K (.ref C_NoPlace) = some (.type "type"))
 (v_SMALL : PySem.W.nsIn K mainGlobals "SMALL" = some (some (.str "abcdefghijklmnopqrstuvwxyz" t_SMALL)))
 (v_MOST_COLUMNS : PySem.W.nsIn K mainGlobals "MOST_COLUMNS" = some (some (.int 6 t_MOST_COLUMNS)))
 (v_MOST_ROWS : PySem.W.nsIn K mainGlobals "MOST_ROWS" = some (some (.int 24 t_MOST_ROWS)))
 (v_MOST_WORD : PySem.W.nsIn K mainGlobals "MOST_WORD" = some (some (.int 8 t_MOST_WORD)))
 (v_MOST_NUMBER : PySem.W.nsIn K mainGlobals "MOST_NUMBER" = some (some (.int 1000000 t_MOST_NUMBER)))
 (v_KINDS : PySem.W.nsIn K mainGlobals "KINDS" = some (some (.ref p_KINDS)))
 (w_KINDS : K.lookup p_KINDS = some ⟨.type "tuple", o_KINDS, .seq #[.str "word" t0_KINDS, .str "number" t1_KINDS] n_KINDS, z_KINDS⟩)
 (v_MOST_KEYS : PySem.W.nsIn K mainGlobals "MOST_KEYS" = some (some (.int 3 t_MOST_KEYS)))
 (v_MOST_SUMS : PySem.W.nsIn K mainGlobals "MOST_SUMS" = some (some (.int 4 t_MOST_SUMS)))
 (v_MOST_SIFTS : PySem.W.nsIn K mainGlobals "MOST_SIFTS" = some (some (.int 3 t_MOST_SIFTS)))
 (v_OF_NUMBERS : PySem.W.nsIn K mainGlobals "OF_NUMBERS" = some (some (.ref p_OF_NUMBERS)))
 (w_OF_NUMBERS : K.lookup p_OF_NUMBERS = some ⟨.type "tuple", o_OF_NUMBERS, .seq #[.str "sum" t0_OF_NUMBERS, .str "least" t1_OF_NUMBERS, .str "greatest" t2_OF_NUMBERS, .str "mean" t3_OF_NUMBERS] n_OF_NUMBERS, z_OF_NUMBERS⟩)
 (v_SHARES : PySem.W.nsIn K mainGlobals "SHARES" = some (some (.ref p_SHARES)))
 (w_SHARES : K.lookup p_SHARES = some ⟨.type "tuple", o_SHARES, .seq #[.str "of all" t0_SHARES, .str "of row" t1_SHARES, .str "of column" t2_SHARES] n_SHARES, z_SHARES⟩)
 (z_len : PySem.W.nsIn K mainGlobals "len" = some none)
 (z_all : PySem.W.nsIn K mainGlobals "all" = some none)
 (z_any : PySem.W.nsIn K mainGlobals "any" = some none)
 (z_abs : PySem.W.nsIn K mainGlobals "abs" = some none)
 (z_max : PySem.W.nsIn K mainGlobals "max" = some none)
 (z_min : PySem.W.nsIn K mainGlobals "min" = some none)
 (z_sum : PySem.W.nsIn K mainGlobals "sum" = some none)
 (z_sorted : PySem.W.nsIn K mainGlobals "sorted" = some none)
 (z_int : PySem.W.nsIn K mainGlobals "int" = some none)
 (z_bool : PySem.W.nsIn K mainGlobals "bool" = some none)
 (z_str : PySem.W.nsIn K mainGlobals "str" = some none)
 (z_list : PySem.W.nsIn K mainGlobals "list" = some none)
 (z_tuple : PySem.W.nsIn K mainGlobals "tuple" = some none)
 (z_range : PySem.W.nsIn K mainGlobals "range" = some none)
 (z_set : PySem.W.nsIn K mainGlobals "set" = some none)
 (z_isinstance : PySem.W.nsIn K mainGlobals "isinstance" = some none)
 (z_zip : PySem.W.nsIn K mainGlobals "zip" = some none)
 (z_dict : PySem.W.nsIn K mainGlobals "dict" = some none) :
 ∃ fd : FuncData, (∀ (s : Shared) (v : Value), BindsTo s fd ⟨[v], []⟩ [("_law_script", v)]) ∧ ∀ base : Heap, K.In base → base.Ns mainGlobals mg → FnOk l.prog w K mg base (L2.CX l.prog w) 8 fa fd ["_law_script"] (spRow K) := by
  have e := hfa.symm.trans (PySem.W.mg_of X G a_law)
  cases e
  let T : VT := ⟨fun n => match n with | 0 => f_is_key | 2 => f_is_sift | 1 => f_is_sum | _ => 0, fun c => match c with | 0 => C_BadTable | 1 => C_BadRow | 2 => C_BadPlan | 3 => C_NoPlace | _ => 0⟩
  have T_ : Txt K mg T := ⟨⟨PySem.W.mg_none_of X G z_len, PySem.W.mg_none_of X G z_all, PySem.W.mg_none_of X G z_any, PySem.W.mg_none_of X G z_abs, PySem.W.mg_none_of X G z_max, PySem.W.mg_none_of X G z_min, PySem.W.mg_none_of X G z_sum, PySem.W.mg_none_of X G z_sorted, PySem.W.mg_none_of X G z_int, PySem.W.mg_none_of X G z_bool, PySem.W.mg_none_of X G z_str, PySem.W.mg_none_of X G z_list, PySem.W.mg_none_of X G z_tuple, PySem.W.mg_none_of X G z_range, PySem.W.mg_none_of X G z_set, PySem.W.mg_none_of X G z_isinstance, PySem.W.mg_none_of X G z_zip, PySem.W.mg_none_of X G z_dict⟩, cstr_mk X G v_SMALL, cint_mk X G v_MOST_COLUMNS, cint_mk X G v_MOST_ROWS, cint_mk X G v_MOST_WORD, cint_mk X G v_MOST_NUMBER, ctup2_mk X G v_KINDS w_KINDS, cint_mk X G v_MOST_KEYS, cint_mk X G v_MOST_SUMS, cint_mk X G v_MOST_SIFTS, ctup4_mk X G v_OF_NUMBERS w_OF_NUMBERS, ctup3_mk X G v_SHARES w_SHARES, exc_mk X G rfl aC_BadTable xC_BadTable kC_BadTable bC_BadTable tC_BadTable, exc_mk X G rfl aC_BadRow xC_BadRow kC_BadRow bC_BadRow tC_BadRow, exc_mk X G rfl aC_BadPlan xC_BadPlan kC_BadPlan bC_BadPlan tC_BadPlan, exc_mk X G rfl aC_NoPlace xC_NoPlace kC_NoPlace bC_NoPlace tC_NoPlace, PySem.W.mg_of X G a_is_key, PySem.W.mg_of X G a_is_sift, PySem.W.mg_of X G a_is_sum⟩
  have A_is_whole : At K mg "is_whole" s_is_whole ["thing", "low", "most"] := at_mk X G (fun _ _ _ _ _ _ us hl => match us, hl with | [_, _, _], _ => rfl) a_is_whole l_is_whole c_is_whole k_is_whole
  have A_is_word : At K mg "is_word" s_is_word ["thing"] := at_mk X G (fun _ _ _ _ _ _ us hl => match us, hl with | [_], _ => rfl) a_is_word l_is_word c_is_word k_is_word
  have A_is_value : At K mg "is_value" s_is_value ["kind", "thing"] := at_mk X G (fun _ _ _ _ _ _ us hl => match us, hl with | [_, _], _ => rfl) a_is_value l_is_value c_is_value k_is_value
  have A_are_columns : At K mg "are_columns" s_are_columns ["thing"] := at_mk X G (fun _ _ _ _ _ _ us hl => match us, hl with | [_], _ => rfl) a_are_columns l_are_columns c_are_columns k_are_columns
  have A_look_columns : At K mg "look_columns" s_look_columns ["columns"] := at_mk X G (fun _ _ _ _ _ _ us hl => match us, hl with | [_], _ => rfl) a_look_columns l_look_columns c_look_columns k_look_columns
  have A_look_row : At K mg "look_row" s_look_row ["columns", "row"] := at_mk X G (fun _ _ _ _ _ _ us hl => match us, hl with | [_, _], _ => rfl) a_look_row l_look_row c_look_row k_look_row
  have A_look_table : At K mg "look_table" s_look_table ["table"] := at_mk X G (fun _ _ _ _ _ _ us hl => match us, hl with | [_], _ => rfl) a_look_table l_look_table c_look_table k_look_table
  have A_place_of : At K mg "place_of" s_place_of ["columns", "name"] := at_mk X G (fun _ _ _ _ _ _ us hl => match us, hl with | [_, _], _ => rfl) a_place_of l_place_of c_place_of k_place_of
  have A_kind_of : At K mg "kind_of" s_kind_of ["columns", "name"] := at_mk X G (fun _ _ _ _ _ _ us hl => match us, hl with | [_, _], _ => rfl) a_kind_of l_kind_of c_kind_of k_kind_of
  have A_rank : At K mg "rank" s_rank ["value"] := at_mk X G (fun _ _ _ _ _ _ us hl => match us, hl with | [_], _ => rfl) a_rank l_rank c_rank k_rank
  have A_ranked : At K mg "ranked" s_ranked ["path"] := at_mk X G (fun _ _ _ _ _ _ us hl => match us, hl with | [_], _ => rfl) a_ranked l_ranked c_ranked k_ranked
  have A_is_key : At K mg "is_key" s_is_key ["columns", "thing"] := at_mk X G (fun _ _ _ _ _ _ us hl => match us, hl with | [_, _], _ => rfl) a_is_key l_is_key c_is_key k_is_key
  have A_is_sum : At K mg "is_sum" s_is_sum ["columns", "thing"] := at_mk X G (fun _ _ _ _ _ _ us hl => match us, hl with | [_, _], _ => rfl) a_is_sum l_is_sum c_is_sum k_is_sum
  have A_is_sift : At K mg "is_sift" s_is_sift ["columns", "thing"] := at_mk X G (fun _ _ _ _ _ _ us hl => match us, hl with | [_, _], _ => rfl) a_is_sift l_is_sift c_is_sift k_is_sift
  have A_are_all : At K mg "are_all" s_are_all ["some", "most", "test", "columns"] := at_mk X G (fun _ _ _ _ _ _ us hl => match us, hl with | [_, _, _, _], _ => rfl) a_are_all l_are_all c_are_all k_are_all
  have A_look_plan : At K mg "look_plan" s_look_plan ["columns", "plan"] := at_mk X G (fun _ _ _ _ _ _ us hl => match us, hl with | [_, _], _ => rfl) a_look_plan l_look_plan c_look_plan k_look_plan
  have A_key_in : At K mg "key_in" s_key_in ["columns", "key", "row"] := at_mk X G (fun _ _ _ _ _ _ us hl => match us, hl with | [_, _, _], _ => rfl) a_key_in l_key_in c_key_in k_key_in
  have A_path_in : At K mg "path_in" s_path_in ["columns", "keys", "row"] := at_mk X G (fun _ _ _ _ _ _ us hl => match us, hl with | [_, _, _], _ => rfl) a_path_in l_path_in c_path_in k_path_in
  have A_counts : At K mg "counts" s_counts ["columns", "sifts", "row"] := at_mk X G (fun _ _ _ _ _ _ us hl => match us, hl with | [_, _, _], _ => rfl) a_counts l_counts c_counts k_counts
  have A_look_all : At K mg "look_all" s_look_all ["table", "plan"] := at_mk X G (fun _ _ _ _ _ _ us hl => match us, hl with | [_, _], _ => rfl) a_look_all l_look_all c_look_all k_look_all
  have A_counted : At K mg "counted" s_counted ["table", "plan"] := at_mk X G (fun _ _ _ _ _ _ us hl => match us, hl with | [_, _], _ => rfl) a_counted l_counted c_counted k_counted
  have A_with_heads : At K mg "with_heads" s_with_heads ["paths", "size"] := at_mk X G (fun _ _ _ _ _ _ us hl => match us, hl with | [_, _], _ => rfl) a_with_heads l_with_heads c_with_heads k_with_heads
  have A_sides : At K mg "sides" s_sides ["table", "plan"] := at_mk X G (fun _ _ _ _ _ _ us hl => match us, hl with | [_, _], _ => rfl) a_sides l_sides c_sides k_sides
  have A_heads : At K mg "heads" s_heads ["table", "plan"] := at_mk X G (fun _ _ _ _ _ _ us hl => match us, hl with | [_, _], _ => rfl) a_heads l_heads c_heads k_heads
  have A_begins : At K mg "begins" s_begins ["path", "head"] := at_mk X G (fun _ _ _ _ _ _ us hl => match us, hl with | [_, _], _ => rfl) a_begins l_begins c_begins k_begins
  have A_members : At K mg "members" s_members ["some", "row_path", "column_path"] := at_mk X G (fun _ _ _ _ _ _ us hl => match us, hl with | [_, _, _], _ => rfl) a_members l_members c_members k_members
  have A_look_place : At K mg "look_place" s_look_place ["table", "plan", "row_path", "column_path"] := at_mk X G (fun _ _ _ _ _ _ us hl => match us, hl with | [_, _, _, _], _ => rfl) a_look_place l_look_place c_look_place k_look_place
  have A_opened : At K mg "opened" s_opened ["table", "plan", "row_path", "column_path"] := at_mk X G (fun _ _ _ _ _ _ us hl => match us, hl with | [_, _, _, _], _ => rfl) a_opened l_opened c_opened k_opened
  have A__law_cell : At K mg "_law_cell" s__law_cell ["_law_script", "_law_k"] := at_mk X G (fun _ _ _ _ _ _ us hl => match us, hl with | [_, _], _ => rfl) a__law_cell l__law_cell c__law_cell k__law_cell
  have A__law_mix : At K mg "_law_mix" s__law_mix ["_law_script", "_law_k"] := at_mk X G (fun _ _ _ _ _ _ us hl => match us, hl with | [_, _], _ => rfl) a__law_mix l__law_mix c__law_mix k__law_mix
  have A__law_draw : At K mg "_law_draw" s__law_draw ["_law_script", "_law_town", "_law_many"] := at_mk X G (fun _ _ _ _ _ _ us hl => match us, hl with | [_, _, _], _ => rfl) a__law_draw l__law_draw c__law_draw k__law_draw
  have A__law_pick : At K mg "_law_pick" s__law_pick ["_law_script", "_law_town", "_law_some"] := at_mk X G (fun _ _ _ _ _ _ us hl => match us, hl with | [_, _, _], _ => rfl) a__law_pick l__law_pick c__law_pick k__law_pick
  have A__law_word : At K mg "_law_word" s__law_word ["_law_script", "_law_town"] := at_mk X G (fun _ _ _ _ _ _ us hl => match us, hl with | [_, _], _ => rfl) a__law_word l__law_word c__law_word k__law_word
  have A__law_value : At K mg "_law_value" s__law_value ["_law_script", "_law_town", "_law_kind"] := at_mk X G (fun _ _ _ _ _ _ us hl => match us, hl with | [_, _, _], _ => rfl) a__law_value l__law_value c__law_value k__law_value
  have A__law_mark : At K mg "_law_mark" s__law_mark ["_law_path"] := at_mk X G (fun _ _ _ _ _ _ us hl => match us, hl with | [_], _ => rfl) a__law_mark l__law_mark c__law_mark k__law_mark
  have A__law_heads : At K mg "_law_heads" s__law_heads ["_law_paths"] := at_mk X G (fun _ _ _ _ _ _ us hl => match us, hl with | [_], _ => rfl) a__law_heads l__law_heads c__law_heads k__law_heads
  have A__law_made : At K mg "_law_made" s__law_made ["_law_value_here", "_law_key"] := at_mk X G (fun _ _ _ _ _ _ us hl => match us, hl with | [_, _], _ => rfl) a__law_made l__law_made c__law_made k__law_made
  have A__law_rows_of : At K mg "_law_rows_of" s__law_rows_of ["_law_script", "_law_town"] := at_mk X G (fun _ _ _ _ _ _ us hl => match us, hl with | [_, _], _ => rfl) a__law_rows_of l__law_rows_of c__law_rows_of k__law_rows_of
  refine ⟨PySem.W.fnOf "law" "law" (defArgs s_law) (defBody s_law) (defScope s_law) .none kV_law dc_law pm_law an_law cd_law ct_law, fun s v => .of_eq rfl, fun base _ _ => ?_⟩
  have D_is_whole := ok_is_whole (P := l.prog) (w := w) (base := base) T_ A_is_whole 
  have D_is_word := ok_is_word (P := l.prog) (w := w) (base := base) T_ A_is_word 
  have D_place_of := ok_place_of (P := l.prog) (w := w) (base := base) T_ A_place_of 
  have D_rank := ok_rank (P := l.prog) (w := w) (base := base) T_ A_rank 
  have D_begins := ok_begins (P := l.prog) (w := w) (base := base) T_ A_begins 
  have D__law_cell := ok__law_cell (P := l.prog) (w := w) (base := base) T_ A__law_cell 
  have D__law_mark := ok__law_mark (P := l.prog) (w := w) (base := base) T_ A__law_mark 
  have D__law_made := ok__law_made (P := l.prog) (w := w) (base := base) T_ A__law_made 
  have D_is_value := ok_is_value (P := l.prog) (w := w) (base := base) T_ A_is_value D_is_whole D_is_word
  have D_are_columns := ok_are_columns (P := l.prog) (w := w) (base := base) T_ A_are_columns D_is_word
  have D_kind_of := ok_kind_of (P := l.prog) (w := w) (base := base) T_ A_kind_of D_is_word D_place_of
  have D_ranked := ok_ranked (P := l.prog) (w := w) (base := base) T_ A_ranked D_rank
  have D_key_in := ok_key_in (P := l.prog) (w := w) (base := base) T_ A_key_in D_place_of
  have D_counts := ok_counts (P := l.prog) (w := w) (base := base) T_ A_counts D_place_of
  have D_members := ok_members (P := l.prog) (w := w) (base := base) T_ A_members D_begins
  have D__law_mix := ok__law_mix (P := l.prog) (w := w) (base := base) T_ A__law_mix D__law_cell
  have D__law_heads := ok__law_heads (P := l.prog) (w := w) (base := base) T_ A__law_heads D__law_mark
  have D_look_columns := ok_look_columns (P := l.prog) (w := w) (base := base) T_ A_look_columns D_are_columns
  have D_look_row := ok_look_row (P := l.prog) (w := w) (base := base) T_ A_look_row D_is_value
  have D_is_key := ok_is_key (P := l.prog) (w := w) (base := base) T_ A_is_key D_is_whole D_kind_of
  have D_is_sum := ok_is_sum (P := l.prog) (w := w) (base := base) T_ A_is_sum D_kind_of
  have D_is_sift := ok_is_sift (P := l.prog) (w := w) (base := base) T_ A_is_sift D_is_value D_is_whole D_kind_of
  have D_path_in := ok_path_in (P := l.prog) (w := w) (base := base) T_ A_path_in D_key_in
  have D_with_heads := ok_with_heads (P := l.prog) (w := w) (base := base) T_ A_with_heads D_ranked
  have D__law_draw := ok__law_draw (P := l.prog) (w := w) (base := base) T_ A__law_draw D__law_mix
  have D_look_table := ok_look_table (P := l.prog) (w := w) (base := base) T_ A_look_table D_look_columns D_look_row
  have D_are_all := ok_are_all (P := l.prog) (w := w) (base := base) T_ A_are_all D_is_key D_is_sift D_is_sum
  have D_counted := ok_counted (P := l.prog) (w := w) (base := base) T_ A_counted D_counts D_path_in
  have D__law_pick := ok__law_pick (P := l.prog) (w := w) (base := base) T_ A__law_pick D__law_draw
  have D_look_plan := ok_look_plan (P := l.prog) (w := w) (base := base) T_ A_look_plan D_are_all D_is_key D_is_sift D_is_sum D_look_columns
  have D_sides := ok_sides (P := l.prog) (w := w) (base := base) T_ A_sides D_counted D_with_heads
  have D__law_word := ok__law_word (P := l.prog) (w := w) (base := base) T_ A__law_word D__law_draw D__law_pick
  have D_look_all := ok_look_all (P := l.prog) (w := w) (base := base) T_ A_look_all D_look_plan D_look_table
  have D_look_place := ok_look_place (P := l.prog) (w := w) (base := base) T_ A_look_place D_sides
  have D__law_value := ok__law_value (P := l.prog) (w := w) (base := base) T_ A__law_value D__law_draw D__law_pick D__law_word
  have D_heads := ok_heads (P := l.prog) (w := w) (base := base) T_ A_heads D_look_all D_sides
  have D_opened := ok_opened (P := l.prog) (w := w) (base := base) T_ A_opened D_counted D_look_all D_look_place D_members
  have D__law_rows_of := ok__law_rows_of (P := l.prog) (w := w) (base := base) T_ A__law_rows_of D__law_draw D__law_pick D__law_value
  exact (ok_law (P := l.prog) (w := w) (base := base) T_ (fun_mk (st := s_law) l_law c_law k_law) D__law_draw D__law_heads D__law_made D__law_pick D__law_rows_of D_heads D_opened).imp fun vs H Q E z => row_of law_true_k04 vs H Q E z
end VL
open PySem PySem.W PyProof.Rows in
set_option maxRecDepth 100000 in
set_option maxHeartbeats 0 in
theorem PySem.Challenge.cw_sumsheets_k04_whole_keys_holds : PySem.Challenge.rw_sumsheets_k04_whole_keys.Holds := by
  w_on; o_law; k_head; (case hw => w_witness2)
  k_fill
  refine VL.row_walk (l := PySem.Challenge.rw_sumsheets_k04_whole_keys) (k := 8) rfl rfl ⟨rfl, by decide, by decide⟩ (fun w h Y => PySem.W.kIn_of Y) ?F
  case F =>
    intro w mg fa h KX G hmg
    refine' VL.all_mk KX G hmg ?a_is_whole ?l_is_whole ?c_is_whole ?k_is_whole ?a_is_word ?l_is_word ?c_is_word ?k_is_word ?a_is_value ?l_is_value ?c_is_value ?k_is_value ?a_are_columns ?l_are_columns ?c_are_columns ?k_are_columns ?a_look_columns ?l_look_columns ?c_look_columns ?k_look_columns ?a_look_row ?l_look_row ?c_look_row ?k_look_row ?a_look_table ?l_look_table ?c_look_table ?k_look_table ?a_place_of ?l_place_of ?c_place_of ?k_place_of ?a_kind_of ?l_kind_of ?c_kind_of ?k_kind_of ?a_rank ?l_rank ?c_rank ?k_rank ?a_ranked ?l_ranked ?c_ranked ?k_ranked ?a_is_key ?l_is_key ?c_is_key ?k_is_key ?a_is_sum ?l_is_sum ?c_is_sum ?k_is_sum ?a_is_sift ?l_is_sift ?c_is_sift ?k_is_sift ?a_are_all ?l_are_all ?c_are_all ?k_are_all ?a_look_plan ?l_look_plan ?c_look_plan ?k_look_plan ?a_key_in ?l_key_in ?c_key_in ?k_key_in ?a_path_in ?l_path_in ?c_path_in ?k_path_in ?a_counts ?l_counts ?c_counts ?k_counts ?a_look_all ?l_look_all ?c_look_all ?k_look_all ?a_counted ?l_counted ?c_counted ?k_counted ?a_with_heads ?l_with_heads ?c_with_heads ?k_with_heads ?a_sides ?l_sides ?c_sides ?k_sides ?a_heads ?l_heads ?c_heads ?k_heads ?a_begins ?l_begins ?c_begins ?k_begins ?a_members ?l_members ?c_members ?k_members ?a_look_place ?l_look_place ?c_look_place ?k_look_place ?a_opened ?l_opened ?c_opened ?k_opened ?a__law_cell ?l__law_cell ?c__law_cell ?k__law_cell ?a__law_mix ?l__law_mix ?c__law_mix ?k__law_mix ?a__law_draw ?l__law_draw ?c__law_draw ?k__law_draw ?a__law_pick ?l__law_pick ?c__law_pick ?k__law_pick ?a__law_word ?l__law_word ?c__law_word ?k__law_word ?a__law_value ?l__law_value ?c__law_value ?k__law_value ?a__law_mark ?l__law_mark ?c__law_mark ?k__law_mark ?a__law_heads ?l__law_heads ?c__law_heads ?k__law_heads ?a__law_made ?l__law_made ?c__law_made ?k__law_made ?a__law_rows_of ?l__law_rows_of ?c__law_rows_of ?k__law_rows_of ?a_law ?l_law ?c_law ?k_law ?aC_BadTable ?xC_BadTable ?kC_BadTable ?bC_BadTable ?tC_BadTable ?aC_BadRow ?xC_BadRow ?kC_BadRow ?bC_BadRow ?tC_BadRow ?aC_BadPlan ?xC_BadPlan ?kC_BadPlan ?bC_BadPlan ?tC_BadPlan ?aC_NoPlace ?xC_NoPlace ?kC_NoPlace ?bC_NoPlace ?tC_NoPlace ?v_SMALL ?v_MOST_COLUMNS ?v_MOST_ROWS ?v_MOST_WORD ?v_MOST_NUMBER ?v_KINDS ?w_KINDS ?v_MOST_KEYS ?v_MOST_SUMS ?v_MOST_SIFTS ?v_OF_NUMBERS ?w_OF_NUMBERS ?v_SHARES ?w_SHARES ?z_len ?z_all ?z_any ?z_abs ?z_max ?z_min ?z_sum ?z_sorted ?z_int ?z_bool ?z_str ?z_list ?z_tuple ?z_range ?z_set ?z_isinstance ?z_zip ?z_dict
    (case a_is_whole => k_is)
    (case l_is_whole => k_is)
    (case c_is_whole => k_is)
    (case k_is_whole => k_is)
    (case a_is_word => k_is)
    (case l_is_word => k_is)
    (case c_is_word => k_is)
    (case k_is_word => k_is)
    (case a_is_value => k_is)
    (case l_is_value => k_is)
    (case c_is_value => k_is)
    (case k_is_value => k_is)
    (case a_are_columns => k_is)
    (case l_are_columns => k_is)
    (case c_are_columns => k_is)
    (case k_are_columns => k_is)
    (case a_look_columns => k_is)
    (case l_look_columns => k_is)
    (case c_look_columns => k_is)
    (case k_look_columns => k_is)
    (case a_look_row => k_is)
    (case l_look_row => k_is)
    (case c_look_row => k_is)
    (case k_look_row => k_is)
    (case a_look_table => k_is)
    (case l_look_table => k_is)
    (case c_look_table => k_is)
    (case k_look_table => k_is)
    (case a_place_of => k_is)
    (case l_place_of => k_is)
    (case c_place_of => k_is)
    (case k_place_of => k_is)
    (case a_kind_of => k_is)
    (case l_kind_of => k_is)
    (case c_kind_of => k_is)
    (case k_kind_of => k_is)
    (case a_rank => k_is)
    (case l_rank => k_is)
    (case c_rank => k_is)
    (case k_rank => k_is)
    (case a_ranked => k_is)
    (case l_ranked => k_is)
    (case c_ranked => k_is)
    (case k_ranked => k_is)
    (case a_is_key => k_is)
    (case l_is_key => k_is)
    (case c_is_key => k_is)
    (case k_is_key => k_is)
    (case a_is_sum => k_is)
    (case l_is_sum => k_is)
    (case c_is_sum => k_is)
    (case k_is_sum => k_is)
    (case a_is_sift => k_is)
    (case l_is_sift => k_is)
    (case c_is_sift => k_is)
    (case k_is_sift => k_is)
    (case a_are_all => k_is)
    (case l_are_all => k_is)
    (case c_are_all => k_is)
    (case k_are_all => k_is)
    (case a_look_plan => k_is)
    (case l_look_plan => k_is)
    (case c_look_plan => k_is)
    (case k_look_plan => k_is)
    (case a_key_in => k_is)
    (case l_key_in => k_is)
    (case c_key_in => k_is)
    (case k_key_in => k_is)
    (case a_path_in => k_is)
    (case l_path_in => k_is)
    (case c_path_in => k_is)
    (case k_path_in => k_is)
    (case a_counts => k_is)
    (case l_counts => k_is)
    (case c_counts => k_is)
    (case k_counts => k_is)
    (case a_look_all => k_is)
    (case l_look_all => k_is)
    (case c_look_all => k_is)
    (case k_look_all => k_is)
    (case a_counted => k_is)
    (case l_counted => k_is)
    (case c_counted => k_is)
    (case k_counted => k_is)
    (case a_with_heads => k_is)
    (case l_with_heads => k_is)
    (case c_with_heads => k_is)
    (case k_with_heads => k_is)
    (case a_sides => k_is)
    (case l_sides => k_is)
    (case c_sides => k_is)
    (case k_sides => k_is)
    (case a_heads => k_is)
    (case l_heads => k_is)
    (case c_heads => k_is)
    (case k_heads => k_is)
    (case a_begins => k_is)
    (case l_begins => k_is)
    (case c_begins => k_is)
    (case k_begins => k_is)
    (case a_members => k_is)
    (case l_members => k_is)
    (case c_members => k_is)
    (case k_members => k_is)
    (case a_look_place => k_is)
    (case l_look_place => k_is)
    (case c_look_place => k_is)
    (case k_look_place => k_is)
    (case a_opened => k_is)
    (case l_opened => k_is)
    (case c_opened => k_is)
    (case k_opened => k_is)
    (case a__law_cell => k_is)
    (case l__law_cell => k_is)
    (case c__law_cell => k_is)
    (case k__law_cell => k_is)
    (case a__law_mix => k_is)
    (case l__law_mix => k_is)
    (case c__law_mix => k_is)
    (case k__law_mix => k_is)
    (case a__law_draw => k_is)
    (case l__law_draw => k_is)
    (case c__law_draw => k_is)
    (case k__law_draw => k_is)
    (case a__law_pick => k_is)
    (case l__law_pick => k_is)
    (case c__law_pick => k_is)
    (case k__law_pick => k_is)
    (case a__law_word => k_is)
    (case l__law_word => k_is)
    (case c__law_word => k_is)
    (case k__law_word => k_is)
    (case a__law_value => k_is)
    (case l__law_value => k_is)
    (case c__law_value => k_is)
    (case k__law_value => k_is)
    (case a__law_mark => k_is)
    (case l__law_mark => k_is)
    (case c__law_mark => k_is)
    (case k__law_mark => k_is)
    (case a__law_heads => k_is)
    (case l__law_heads => k_is)
    (case c__law_heads => k_is)
    (case k__law_heads => k_is)
    (case a__law_made => k_is)
    (case l__law_made => k_is)
    (case c__law_made => k_is)
    (case k__law_made => k_is)
    (case a__law_rows_of => k_is)
    (case l__law_rows_of => k_is)
    (case c__law_rows_of => k_is)
    (case k__law_rows_of => k_is)
    (case a_law => k_is)
    (case l_law => k_is)
    (case c_law => k_is)
    (case k_law => k_is)
    (case aC_BadTable => k_is)
    (case xC_BadTable => k_exc)
    (case kC_BadTable => k_is)
    (case bC_BadTable => k_is)
    (case tC_BadTable => k_is)
    (case aC_BadRow => k_is)
    (case xC_BadRow => k_exc)
    (case kC_BadRow => k_is)
    (case bC_BadRow => k_is)
    (case tC_BadRow => k_is)
    (case aC_BadPlan => k_is)
    (case xC_BadPlan => k_exc)
    (case kC_BadPlan => k_is)
    (case bC_BadPlan => k_is)
    (case tC_BadPlan => k_is)
    (case aC_NoPlace => k_is)
    (case xC_NoPlace => k_exc)
    (case kC_NoPlace => k_is)
    (case bC_NoPlace => k_is)
    (case tC_NoPlace => k_is)
    (case v_SMALL => k_is)
    (case v_MOST_COLUMNS => k_is)
    (case v_MOST_ROWS => k_is)
    (case v_MOST_WORD => k_is)
    (case v_MOST_NUMBER => k_is)
    (case v_KINDS => k_is)
    (case w_KINDS => k_is)
    (case v_MOST_KEYS => k_is)
    (case v_MOST_SUMS => k_is)
    (case v_MOST_SIFTS => k_is)
    (case v_OF_NUMBERS => k_is)
    (case w_OF_NUMBERS => k_is)
    (case v_SHARES => k_is)
    (case w_SHARES => k_is)
    (case z_len => k_is)
    (case z_all => k_is)
    (case z_any => k_is)
    (case z_abs => k_is)
    (case z_max => k_is)
    (case z_min => k_is)
    (case z_sum => k_is)
    (case z_sorted => k_is)
    (case z_int => k_is)
    (case z_bool => k_is)
    (case z_str => k_is)
    (case z_list => k_is)
    (case z_tuple => k_is)
    (case z_range => k_is)
    (case z_set => k_is)
    (case z_isinstance => k_is)
    (case z_zip => k_is)
    (case z_dict => k_is)
