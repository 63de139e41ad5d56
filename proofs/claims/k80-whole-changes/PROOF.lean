import PyProof.Rows.All
import Wide.All
import OpenK.AllK
import Wide.FinOn
import HandS.ForMost
import HandS.ForExc
import HandS.Deep
import HandS.Walk
import HandS.TupAny
import HandS.IsInst
import HandS.Wide
import HandS.TupMul
import HandS.AnyAll
import KE.DataEq
import KE.DataFind
import KE.DataCmp
import KE.DataMinMax
import KE.SortData
import HandS.Conv
import HandS.Remove
import HandS.Strs
import KE.KDictCopyH
import HandS.SetFor
import HandS.Codes
import PySem.Challenge.RW_sumsheets_k80_whole_changes
set_option Elab.async false
set_option linter.all false
set_option maxRecDepth 100000
set_option maxHeartbeats 4000000
/-! V0: the value layer: what a def of the program computes, as a plain function over data (a mirror), with no heap in sight. -/
namespace VL
open PySem PySem.Spec PyProof.Rows L2

/-! ### slots and outcomes of a mirror -/
inductive Sl where
  | un | val (d : PyData) | own (ds : List PyData) | bor (ds : List PyData) | scr (ns : List Int) | fn (n : Nat)
abbrev R := List Sl
inductive Oc (α : Type) where
  | ok (a : α) (ρ : R) | ex (c : Nat) (ρ : R) | no
def Oc.bind {α β : Type} : Oc α → (α → R → Oc β) → Oc β
  | .ok a ρ, f => f a ρ
  | .ex c ρ, _ => .ex c ρ
  | .no, _ => .no
def Oc.opt {α : Type} : Option α → R → Oc α
  | some a, ρ => .ok a ρ
  | none, _ => .no
def Oc.noex {α : Type} : Oc α → Oc α
  | .ex _ _ => .no
  | o => o
abbrev ME := R → Oc PyData
abbrev MT := R → Oc Bool
abbrev ML := R → Oc (List PyData)
abbrev Mir := List Sl → Oc PyData
structure VT where
  fa : Nat → Addr
  ea : Nat → Addr

/-! ### the part of the heap that stands still -/
open Classical in
noncomputable def fz (O : Addr → Prop) (H : Hp) : Hp := fun b => if O b then none else H b
theorem fz_in {O : Addr → Prop} {H : Hp} {b : Addr} (h : O b) : fz O H b = none := by
  unfold fz; rw [if_pos h]
theorem fz_out {O : Addr → Prop} {H : Hp} {b : Addr} (h : ¬ O b) : fz O H b = H b := by
  unfold fz; rw [if_neg h]
theorem fz_some {O : Addr → Prop} {H : Hp} {b : Addr} {o : HO} (h : fz O H b = some o) : ¬ O b ∧ H b = some o := by
  by_cases c : O b
  · rw [fz_in c] at h; cases h
  · rw [fz_out c] at h; exact ⟨c, h⟩
theorem fz_less {O O' : Addr → Prop} {H : Hp} (h : ∀ b, O' b → O b) : Same (fz O H) (fz O' H) := fun b o e => by
  obtain ⟨n, e⟩ := fz_some e
  rw [fz_out fun z => n (h b z)]; exact e
theorem fz_grow {O : Addr → Prop} {H H' : Hp} (h : Same H H') : Same (fz O H) (fz O H') := fun b o e => by
  obtain ⟨n, e⟩ := fz_some e
  rw [fz_out n]; exact h b o e
theorem fz_le {O : Addr → Prop} {H : Hp} : Same (fz O H) H := fun b o e => (fz_some e).2
theorem seqT_same {K : PySem.W.Frag} {H H' : Hp} {a : Addr} {xs : List V} (e : Same H H') (h : SqT K H a xs) : SqT K H' a xs := by
  rcases h with (h | ⟨o, h⟩) | h
  · exact .inl (.inl (e _ _ h))
  · exact .inl (.inr ⟨o, e _ _ h⟩)
  · exact .inr h

/-! ### what data a value stands for -/
mutual
inductive Rp (K : PySem.W.Frag) (F : Hp) : V → PyData → Prop
  | non : Rp K F .non .none
  | bl (b : Bool) : Rp K F (.bl b) (.bool b)
  | int (i : Int) : Rp K F (.int i) (.int i)
  | str (x : Str) : Rp K F (.str x) (.str x)
  | lst {a : Addr} {xs : List V} {ds : List PyData} : F a = some (.lst xs) → RpAll K F xs ds → Rp K F (.ref a) (.list ds)
  | tup {a : Addr} {xs : List V} {ds : List PyData} : SqT K F a xs → RpAll K F xs ds → Rp K F (.ref a) (.tuple ds)
inductive RpAll (K : PySem.W.Frag) (F : Hp) : List V → List PyData → Prop
  | nil : RpAll K F [] []
  | cons {v : V} {vs : List V} {d : PyData} {ds : List PyData} : Rp K F v d → RpAll K F vs ds → RpAll K F (v :: vs) (d :: ds)
end
section
variable {K : PySem.W.Frag} {F F' : Hp}
mutual
theorem Rp.mono (e : Same F F') : ∀ (d : PyData) {v : V}, Rp K F v d → Rp K F' v d
  | .none, _, h => by cases h; exact .non
  | .bool b, _, h => by cases h; exact .bl b
  | .int i, _, h => by cases h; exact .int i
  | .str x, _, h => by cases h; exact .str x
  | .list ds, _, h => by
    cases h with
    | lst h1 h2 => exact .lst (e _ _ h1) (RpAll.mono e ds h2)
  | .tuple ds, _, h => by
    cases h with
    | tup h1 h2 => exact .tup (seqT_same e h1) (RpAll.mono e ds h2)
  | .dict _, _, h => by cases h
theorem RpAll.mono (e : Same F F') : ∀ (ds : List PyData) {vs : List V}, RpAll K F vs ds → RpAll K F' vs ds
  | [], _, h => by cases h; exact .nil
  | d :: ds, _, h => by
    cases h with
    | cons h1 h2 => exact .cons (Rp.mono e d h1) (RpAll.mono e ds h2)
end
mutual
theorem Rp.dp : ∀ (d : PyData) {v : V}, Rp K F v d → Dp K F v d
  | .none, _, h => by cases h; exact .non
  | .bool b, _, h => by cases h; exact .bl b
  | .int i, _, h => by cases h; exact .int i
  | .str x, _, h => by cases h; exact .str x
  | .list ds, _, h => by
    cases h with
    | lst h1 h2 => exact .lst (SqL.of h1) (RpAll.dp ds h2)
  | .tuple ds, _, h => by
    cases h with
    | tup h1 h2 => exact .tup h1 (RpAll.dp ds h2)
  | .dict _, _, h => by cases h
theorem RpAll.dp : ∀ (ds : List PyData) {vs : List V}, RpAll K F vs ds → DpAll K F vs ds
  | [], _, h => by cases h; exact .nil
  | d :: ds, _, h => by
    cases h with
    | cons h1 h2 => exact .cons (Rp.dp d h1) (RpAll.dp ds h2)
end
theorem RpAll.length : ∀ {vs : List V} {ds : List PyData}, RpAll K F vs ds → vs.length = ds.length
  | _, _, .nil => rfl
  | _, _, .cons _ t => congrArg (· + 1) (RpAll.length t)
theorem RpAll.get : ∀ {vs : List V} {ds : List PyData} {i : Nat} {d : PyData}, RpAll K F vs ds → ds[i]? = some d → ∃ v, vs[i]? = some v ∧ Rp K F v d
  | _, _, _, _, .nil, e => by simp at e
  | _, _, 0, _, .cons r _, e => by simp at e; subst e; exact ⟨_, rfl, r⟩
  | _, _, i + 1, d, .cons _ t, e => by
    obtain ⟨v, h1, h2⟩ := RpAll.get (i := i) (d := d) t (by simpa using e)
    exact ⟨v, by simpa using h1, h2⟩
theorem RpAll.get' : ∀ {vs : List V} {ds : List PyData} {i : Nat} {v : V}, RpAll K F vs ds → vs[i]? = some v → ∃ d, ds[i]? = some d ∧ Rp K F v d
  | _, _, _, _, .nil, e => by simp at e
  | _, _, 0, _, .cons r _, e => by simp at e; subst e; exact ⟨_, rfl, r⟩
  | _, _, i + 1, v, .cons _ t, e => by
    obtain ⟨d, h1, h2⟩ := RpAll.get' (i := i) (v := v) t (by simpa using e)
    exact ⟨d, by simpa using h1, h2⟩
theorem RpAll.append : ∀ {vs ws : List V} {ds es : List PyData}, RpAll K F vs ds → RpAll K F ws es → RpAll K F (vs ++ ws) (ds ++ es)
  | _, _, _, _, .nil, s => s
  | _, _, _, _, .cons r t, s => .cons r (RpAll.append t s)
theorem RpAll.take : ∀ {vs : List V} {ds : List PyData} (n : Nat), RpAll K F vs ds → RpAll K F (vs.take n) (ds.take n)
  | _, _, 0, _ => .nil
  | _, _, _ + 1, .nil => .nil
  | _, _, n + 1, .cons r t => .cons r (RpAll.take n t)
theorem RpAll.drop : ∀ {vs : List V} {ds : List PyData} (n : Nat), RpAll K F vs ds → RpAll K F (vs.drop n) (ds.drop n)
  | _, _, 0, r => r
  | _, _, _ + 1, .nil => .nil
  | _, _, n + 1, .cons _ t => RpAll.drop n t
theorem RpAll.erase : ∀ {vs : List V} {ds : List PyData} (n : Nat), RpAll K F vs ds → RpAll K F (vs.eraseIdx n) (ds.eraseIdx n)
  | _, _, _, .nil => .nil
  | _, _, 0, .cons _ t => t
  | _, _, n + 1, .cons r t => .cons r (RpAll.erase n t)
theorem RpAll.set {v : V} {d : PyData} (r : Rp K F v d) : ∀ {vs : List V} {ds : List PyData} (n : Nat), RpAll K F vs ds → RpAll K F (vs.set n v) (ds.set n d)
  | _, _, _, .nil => .nil
  | _, _, 0, .cons _ t => .cons r t
  | _, _, n + 1, .cons q t => .cons q (RpAll.set r n t)
theorem RpAll.ints : ∀ {ns : List Int}, RpAll K F (ns.map V.int) (ns.map PyData.int)
  | [] => .nil
  | n :: ns => .cons (.int n) RpAll.ints
theorem RpAll.strs : ∀ {ns : List Str}, RpAll K F (ns.map V.str) (ns.map PyData.str)
  | [] => .nil
  | n :: ns => .cons (.str n) RpAll.strs
theorem RpAll.reverse {vs : List V} {ds : List PyData} (h : RpAll K F vs ds) : RpAll K F vs.reverse ds.reverse := by
  induction ds generalizing vs with
  | nil => cases h; exact .nil
  | cons d ds ih =>
    cases h with
    | cons r t =>
      rw [List.reverse_cons, List.reverse_cons]
      exact RpAll.append (ih t) (.cons r .nil)
theorem RpAll.rep {vs : List V} {ds : List PyData} (h : RpAll K F vs ds) : ∀ k : Nat, RpAll K F (List.replicate k vs).flatten (List.replicate k ds).flatten
  | 0 => .nil
  | k + 1 => by
    rw [List.replicate_succ, List.replicate_succ, List.flatten_cons, List.flatten_cons]
    exact RpAll.append h (RpAll.rep h k)
end

/-! ### the state -/
def ownAt (σ : L2.St) (ρ : R) (i : Nat) (a : Addr) : Prop := σ[i]? = some (some (.ref a)) ∧ ∃ ds, ρ[i]? = some (.own ds) ∨ ρ[i]? = some (.bor ds)
def Oa (hid : Addr → Prop) (σ : L2.St) (ρ : R) : Addr → Prop := fun b => hid b ∨ ∃ i, ownAt σ ρ i b
noncomputable abbrev Fz (hid : Addr → Prop) (σ : L2.St) (ρ : R) (H : Hp) : Hp := fz (Oa hid σ ρ) H
inductive SlV (K : PySem.W.Frag) (T : VT) (F H : Hp) : Option V → Sl → Prop
  | un (o : Option V) : SlV K T F H o .un
  | val {v : V} {d : PyData} : Rp K F v d → SlV K T F H (some v) (.val d)
  | own {a : Addr} {xs : List V} {ds : List PyData} : H a = some (.lst xs) → RpAll K F xs ds → SlV K T F H (some (.ref a)) (.own ds)
  | bor {a : Addr} {xs : List V} {ds : List PyData} : H a = some (.lst xs) → RpAll K F xs ds → SlV K T F H (some (.ref a)) (.bor ds)
  | scr {a : Addr} {ns : List Int} : SqL K F a (ns.map V.int) → SlV K T F H (some (.ref a)) (.scr ns)
  | fn (n : Nat) : SlV K T F H (some (.ref (T.fa n))) (.fn n)
structure SR (K : PySem.W.Frag) (T : VT) (hid : Addr → Prop) (B : L2.St) (H : Hp) (σ : L2.St) (ρ : R) : Prop where
  len : σ.length = ρ.length
  rel : ∀ (i : Nat) (s : Sl), ρ[i]? = some s → ∃ o, σ[i]? = some o ∧ SlV K T (Fz hid σ ρ H) H o s
  one : ∀ (i j : Nat) (a : Addr), ownAt σ ρ i a → ownAt σ ρ j a → i = j
  sep : ∀ (i : Nat) (a : Addr), ownAt σ ρ i a → ¬ hid a
  hh : ∀ b, hid b → ∃ o, H b = some o
  bor : ∀ (i : Nat) (ds : List PyData), ρ[i]? = some (.bor ds) → B[i]? = σ[i]?
structure Ext (hid : Addr → Prop) (σ : L2.St) (ρ : R) (H : Hp) (σ' : L2.St) (ρ' : R) (H' : Hp) : Prop where
  same : Same (Fz hid σ ρ H) (Fz hid σ' ρ' H')
  keep : ∀ b, hid b → H' b = H b
section
variable {K : PySem.W.Frag} {T : VT} {hid : Addr → Prop} {B : L2.St} {H H' H1 H2 : Hp} {σ σ1 σ2 : L2.St} {ρ ρ1 ρ2 : R}
theorem Ext.refl : Ext hid σ ρ H σ ρ H := ⟨Same.refl _, fun _ _ => rfl⟩
theorem Ext.trans (a : Ext hid σ ρ H σ1 ρ1 H1) (b : Ext hid σ1 ρ1 H1 σ2 ρ2 H2) : Ext hid σ ρ H σ2 ρ2 H2 :=
  ⟨a.same.trans b.same, fun c h => (b.keep c h).trans (a.keep c h)⟩
theorem SlV.mono {F F' : Hp} {o : Option V} {s : Sl} (h : SlV K T F H o s) (e : Same F F') (e2 : Same H H') : SlV K T F' H' o s := by
  cases h with
  | un => exact .un _
  | val r => exact .val (r.mono e)
  | own h r => exact .own (e2 _ _ h) (r.mono e)
  | bor h r => exact .bor (e2 _ _ h) (r.mono e)
  | scr h => exact .scr (e.seq h)
  | fn n => exact .fn n
theorem SR.cell (S : SR K T hid B H σ ρ) {i : Nat} {a : Addr} (h : ownAt σ ρ i a) : ∃ xs ds, H a = some (.lst xs) ∧ RpAll K (Fz hid σ ρ H) xs ds ∧ (ρ[i]? = some (.own ds) ∨ ρ[i]? = some (.bor ds)) := by
  obtain ⟨h1, ds, h2⟩ := h
  rcases h2 with h2 | h2
  · obtain ⟨o, e, r⟩ := S.rel i _ h2
    rw [h1] at e
    cases e
    cases r with
    | own h r => exact ⟨_, _, h, r, .inl h2⟩
  · obtain ⟨o, e, r⟩ := S.rel i _ h2
    rw [h1] at e
    cases e
    cases r with
    | bor h r => exact ⟨_, _, h, r, .inr h2⟩
theorem SR.dom (S : SR K T hid B H σ ρ) : ∀ b, Oa hid σ ρ b → ∃ o, H b = some o := fun b h => by
  rcases h with h | ⟨i, h⟩
  · exact S.hh b h
  · obtain ⟨xs, _, e, _⟩ := S.cell h
    exact ⟨_, e⟩
theorem SR.grow (S : SR K T hid B H σ ρ) (h : Same H H') : SR K T hid B H' σ ρ :=
  ⟨S.len, fun i s e => let ⟨o, a, r⟩ := S.rel i s e; ⟨o, a, r.mono (fz_grow h) h⟩, S.one, S.sep, fun b z => let ⟨o, e⟩ := S.hh b z; ⟨o, h _ _ e⟩, S.bor⟩
theorem SR.ext (S : SR K T hid B H σ ρ) (h : Same H H') : Ext hid σ ρ H σ ρ H' :=
  ⟨fz_grow h, fun b z => by
    obtain ⟨o, e⟩ := S.hh b z
    rw [e, h _ _ e]⟩
theorem SR.lt (S : SR K T hid B H σ ρ) {i : Nat} {s : Sl} (h : ρ[i]? = some s) : i < σ.length := by
  obtain ⟨o, e, _⟩ := S.rel i s h
  exact (List.getElem?_eq_some_iff.mp e).1
theorem Oa_of {b : Addr} {i : Nat} (h : ownAt σ ρ i b) : Oa hid σ ρ b := .inr ⟨i, h⟩

/-- how the own places change when one slot is set to what is no own list -/
theorem ownAt_set {o : Option V} {s : Sl} {i j : Nat} {a : Addr} (hs : ∀ ds, s ≠ .own ds ∧ s ≠ .bor ds) (h : ownAt (σ.set i o) (ρ.set i s) j a) : j ≠ i ∧ ownAt σ ρ j a := by
  obtain ⟨h1, ds, h2⟩ := h
  by_cases e : j = i
  · subst e
    exfalso
    rw [List.getElem?_set] at h2
    rw [if_pos rfl] at h2
    by_cases l : j < ρ.length
    · rw [if_pos l] at h2
      rcases h2 with h2 | h2
      · exact (hs ds).1 (Option.some.inj h2)
      · exact (hs ds).2 (Option.some.inj h2)
    · rw [if_neg l] at h2
      rcases h2 with h2 | h2 <;> cases h2
  · have e' : i ≠ j := fun z => e z.symm
    rw [List.getElem?_set_ne e'] at h1 h2
    exact ⟨e, h1, ds, h2⟩
/-- a slot is set to a value, or to nothing -/
theorem SR.put (S : SR K T hid B H σ ρ) {i : Nat} {o : Option V} {s : Sl} (hs : ∀ ds, s ≠ .own ds ∧ s ≠ .bor ds) (r : SlV K T (Fz hid σ ρ H) H o s) :
    SR K T hid B H (σ.set i o) (ρ.set i s) ∧ Ext hid σ ρ H (σ.set i o) (ρ.set i s) H := by
  have less : ∀ b, Oa hid (σ.set i o) (ρ.set i s) b → Oa hid σ ρ b := fun b h => by
    rcases h with h | ⟨j, h⟩
    · exact .inl h
    · exact .inr ⟨j, (ownAt_set hs h).2⟩
  have sm : Same (Fz hid σ ρ H) (Fz hid (σ.set i o) (ρ.set i s) H) := fz_less less
  refine ⟨⟨by simp [S.len], fun j t e => ?_, fun j k a h1 h2 => S.one j k a (ownAt_set hs h1).2 (ownAt_set hs h2).2, fun j a h => S.sep j a (ownAt_set hs h).2, S.hh, fun j ds e => ?_⟩, sm, fun _ _ => rfl⟩
  · by_cases c : i = j
    · subst c
      rw [List.getElem?_set, if_pos rfl] at e
      by_cases l : i < ρ.length
      · rw [if_pos l] at e
        cases e
        refine ⟨o, by rw [List.getElem?_set, if_pos rfl, if_pos (by rw [S.len]; exact l)], r.mono sm (Same.refl _)⟩
      · rw [if_neg l] at e
        cases e
    · rw [List.getElem?_set_ne c] at e
      obtain ⟨u, e1, r1⟩ := S.rel j t e
      exact ⟨u, by rw [List.getElem?_set_ne c]; exact e1, r1.mono sm (Same.refl _)⟩
  · by_cases c : i = j
    · subst c
      rw [List.getElem?_set, if_pos rfl] at e
      split at e
      · exact absurd (Option.some.inj e) (hs ds).2
      · cases e
    · rw [List.getElem?_set_ne c] at e ⊢
      exact S.bor j ds e
/-- an own list is let go: it is a value from now on -/
theorem SR.freeze (S : SR K T hid B H σ ρ) {i : Nat} {ds : List PyData} (h : ρ[i]? = some (.own ds)) :
    ∃ v, σ[i]? = some (some v) ∧ SR K T hid B H σ (ρ.set i (.val (.list ds))) ∧ Ext hid σ ρ H σ (ρ.set i (.val (.list ds))) H ∧ Rp K (Fz hid σ (ρ.set i (.val (.list ds))) H) v (.list ds) := by
  obtain ⟨o, e, r⟩ := S.rel i _ h
  cases r with
  | own h1 h2 =>
    rename_i a xs
    have es : σ.set i (some (.ref a)) = σ := by
      refine List.ext_getElem? fun k => ?_
      by_cases c : i = k
      · subst c
        rw [List.getElem?_set, if_pos rfl, if_pos (List.getElem?_eq_some_iff.mp e).1, e]
      · rw [List.getElem?_set_ne c]
    have hs : ∀ es, Sl.val (.list ds) ≠ .own es ∧ Sl.val (.list ds) ≠ .bor es := fun _ => ⟨by simp, by simp⟩
    have less : ∀ b, Oa hid σ (ρ.set i (.val (.list ds))) b → Oa hid σ ρ b := fun b z => by
      rcases z with z | ⟨j, z⟩
      · exact .inl z
      · rw [← es] at z
        exact .inr ⟨j, (ownAt_set hs z).2⟩
    have sm : Same (Fz hid σ ρ H) (Fz hid σ (ρ.set i (.val (.list ds))) H) := fz_less less
    have own : ownAt σ ρ i a := ⟨e, ds, .inl h⟩
    have out : ¬ Oa hid σ (ρ.set i (.val (.list ds))) a := fun z => by
      rcases z with z | ⟨j, z⟩
      · exact S.sep i a own z
      · rw [← es] at z
        obtain ⟨n, z⟩ := ownAt_set hs z
        exact n (S.one j i a z own)
    have rp : Rp K (Fz hid σ (ρ.set i (.val (.list ds))) H) (.ref a) (.list ds) := .lst ((fz_out out).trans h1) (h2.mono sm)
    refine ⟨.ref a, e, ⟨by simp [S.len], fun j t q => ?_, fun j k b z1 z2 => ?_, fun j b z => ?_, S.hh, fun j es' q => ?_⟩, ⟨sm, fun _ _ => rfl⟩, rp⟩
    · by_cases c : i = j
      · subst c
        rw [List.getElem?_set, if_pos rfl] at q
        split at q
        · cases q
          exact ⟨_, e, .val rp⟩
        · cases q
      · rw [List.getElem?_set_ne c] at q
        obtain ⟨u, e1, r1⟩ := S.rel j t q
        exact ⟨u, e1, r1.mono sm (Same.refl _)⟩
    · rw [← es] at z1 z2
      exact S.one j k b (ownAt_set hs z1).2 (ownAt_set hs z2).2
    · rw [← es] at z
      exact S.sep j b (ownAt_set hs z).2
    · by_cases c : i = j
      · subst c
        rw [List.getElem?_set, if_pos rfl] at q
        split at q
        · cases q
        · cases q
      · rw [List.getElem?_set_ne c] at q
        exact S.bor j es' q
/-- what is own, borrowed or not: its list is changed in its place -/
def Sl.mut : Sl → List PyData → Option Sl
  | .own _, ds => some (.own ds)
  | .bor _, ds => some (.bor ds)
  | _, _ => none
def Sl.held : Sl → Option (List PyData)
  | .own ds => some ds
  | .bor ds => some ds
  | _ => none
theorem SR.own_of (S : SR K T hid B H σ ρ) {i : Nat} {s : Sl} {ds : List PyData} (h : ρ[i]? = some s) (hd : s.held = some ds) :
    ∃ a xs, σ[i]? = some (some (.ref a)) ∧ ownAt σ ρ i a ∧ H a = some (.lst xs) ∧ RpAll K (Fz hid σ ρ H) xs ds := by
  obtain ⟨o, e, r⟩ := S.rel i _ h
  cases r with
  | own h1 h2 => cases hd; exact ⟨_, _, e, ⟨e, _, .inl h⟩, h1, h2⟩
  | bor h1 h2 => cases hd; exact ⟨_, _, e, ⟨e, _, .inr h⟩, h1, h2⟩
  | un => cases hd
  | val => cases hd
  | scr => cases hd
  | fn => cases hd
theorem ownAt_mut {s s' : Sl} {ds : List PyData} {i j : Nat} {a : Addr} (h : ρ[i]? = some s) (hm : s.mut ds = some s') : ownAt σ (ρ.set i s') j a ↔ ownAt σ ρ j a := by
  have lt := (List.getElem?_eq_some_iff.mp h).1
  unfold ownAt
  refine and_congr_right fun _ => ?_
  by_cases c : i = j
  · subst c
    rw [List.getElem?_set, if_pos rfl, if_pos lt, h]
    cases s <;> simp [Sl.mut] at hm <;> subst hm <;> simp
  · rw [List.getElem?_set_ne c]
theorem SR.upd (S : SR K T hid B H σ ρ) {i : Nat} {s s' : Sl} {a : Addr} {ys : List V} {es : List PyData} (h : ρ[i]? = some s) (hm : s.mut es = some s') (ho : ownAt σ ρ i a) (hr : RpAll K (Fz hid σ ρ H) ys es) :
    SR K T hid B (L2.upd H a (.lst ys)) σ (ρ.set i s') ∧ Ext hid σ ρ H σ (ρ.set i s') (L2.upd H a (.lst ys)) := by
  have lt := (List.getElem?_eq_some_iff.mp h).1
  have eo : Oa hid σ (ρ.set i s') = Oa hid σ ρ := by
    funext b
    exact propext (or_congr_right (exists_congr fun j => ownAt_mut h hm))
  have ef : Fz hid σ (ρ.set i s') (L2.upd H a (.lst ys)) = Fz hid σ ρ H := by
    show fz (Oa hid σ (ρ.set i s')) _ = fz (Oa hid σ ρ) H
    rw [eo]
    funext b
    by_cases c : Oa hid σ ρ b
    · rw [fz_in c, fz_in c]
    · rw [fz_out c, fz_out c, upd_ne (show b ≠ a from fun z => c (z ▸ Oa_of ho))]
  refine ⟨⟨by simp [S.len], fun j t q => ?_, fun j k b z1 z2 => S.one j k b ((ownAt_mut h hm).mp z1) ((ownAt_mut h hm).mp z2), fun j b z => S.sep j b ((ownAt_mut h hm).mp z), fun b z => ?_, fun j fs q => ?_⟩, ⟨by rw [ef]; exact Same.refl _, fun b z => upd_ne (show b ≠ a from fun c => S.sep i a ho (c ▸ z))⟩⟩
  · rw [ef]
    by_cases c : i = j
    · subst c
      rw [List.getElem?_set, if_pos rfl, if_pos lt] at q
      cases q
      refine ⟨_, ho.1, ?_⟩
      cases s <;> simp [Sl.mut] at hm <;> subst hm
      · exact .own upd_same hr
      · exact .bor upd_same hr
    · rw [List.getElem?_set_ne c] at q
      obtain ⟨o, e, r⟩ := S.rel j t q
      refine ⟨o, e, ?_⟩
      cases r with
      | un => exact .un _
      | val r => exact .val r
      | scr r => exact .scr r
      | fn n => exact .fn n
      | own h1 h2 =>
        have nb : _ ≠ a := fun z => c (S.one i j a ho ⟨z ▸ e, _, .inl q⟩)
        exact .own (by rw [upd_ne nb]; exact h1) h2
      | bor h1 h2 =>
        have nb : _ ≠ a := fun z => c (S.one i j a ho ⟨z ▸ e, _, .inr q⟩)
        exact .bor (by rw [upd_ne nb]; exact h1) h2
  · obtain ⟨o, e⟩ := S.hh b z
    refine ⟨o, ?_⟩
    have n : b ≠ a := fun c => S.sep i a ho (c ▸ z)
    rw [upd_ne n]
    exact e
  · by_cases c : i = j
    · subst c
      rw [List.getElem?_set, if_pos rfl, if_pos lt] at q
      cases s <;> simp [Sl.mut] at hm <;> subst hm
      · cases q
      · exact S.bor i _ h
    · rw [List.getElem?_set_ne c] at q
      exact S.bor j fs q
end
end VL

set_option Elab.async false
set_option linter.all false
set_option maxRecDepth 100000
set_option maxHeartbeats 4000000
/-! V1: the readings that a mirror gives, and the rules of expressions, tests, argument lists. -/
namespace VL
open PySem PySem.Spec PyProof.Rows L2

/-! ### outcomes over a state -/
def Res (K : PySem.W.Frag) (T : VT) (W : WX) (hid : Addr → Prop) (B σ : L2.St) (ρ : R) (H : Hp) {α : Type} (o : Oc α) (k : α → R → Hp → Prop) : Prop :=
  match o with
  | .ok a ρ' => ∀ H', SR K T hid B H' σ ρ' → Ext hid σ ρ H σ ρ' H' → k a ρ' H'
  | .ex c ρ' => ∀ H', SR K T hid B H' σ ρ' → Ext hid σ ρ H σ ρ' H' → W (.ref (T.ea c)) none σ H'
  | .no => False
section
variable {K : PySem.W.Frag} {T : VT} {W : WX} {hid : Addr → Prop} {B σ : L2.St} {ρ ρ1 : R} {H H1 : Hp} {α β : Type}
theorem Res.here {a : α} {k : α → R → Hp → Prop} (S : SR K T hid B H σ ρ) (h : Res K T W hid B σ ρ H (.ok a ρ) k) : k a ρ H := h H S Ext.refl
theorem Res.step {o : Oc α} {k : α → R → Hp → Prop} (E : Ext hid σ ρ H σ ρ1 H1) (h : Res K T W hid B σ ρ H o k) : Res K T W hid B σ ρ1 H1 o k := by
  cases o with
  | ok a ρ' => exact fun H' S' E' => h H' S' (E.trans E')
  | ex c ρ' => exact fun H' S' E' => h H' S' (E.trans E')
  | no => exact h
theorem Res.imp {o : Oc α} {k k' : α → R → Hp → Prop} (h : Res K T W hid B σ ρ H o k) (hk : ∀ a ρ' H', SR K T hid B H' σ ρ' → Ext hid σ ρ H σ ρ' H' → k a ρ' H' → k' a ρ' H') : Res K T W hid B σ ρ H o k' := by
  cases o with
  | ok a ρ' => exact fun H' S' E' => hk a ρ' H' S' E' (h H' S' E')
  | ex c ρ' => exact h
  | no => exact h
theorem Res.bind {o : Oc α} {g : α → R → Oc β} {k : β → R → Hp → Prop} (h : Res K T W hid B σ ρ H (o.bind g) k) :
    Res K T W hid B σ ρ H o fun a ρ1 H1 => Res K T W hid B σ ρ1 H1 (g a ρ1) k := by
  cases o with
  | ok a ρ' => exact fun H' S' E' => Res.step E' h
  | ex c ρ' => exact h
  | no => exact h
theorem Res.opt {o : Option α} {k : α → R → Hp → Prop} (S : SR K T hid B H σ ρ) (h : Res K T W hid B σ ρ H (Oc.opt o ρ) k) : ∃ a, o = some a ∧ ∀ H', Same H H' → k a ρ H' := by
  cases o with
  | none => exact h.elim
  | some a => exact ⟨a, rfl, fun H' e => h H' (S.grow e) (S.ext e)⟩
theorem Res.noex {o : Oc α} {k : α → R → Hp → Prop} {W' : WX} (h : Res K T W hid B σ ρ H o.noex k) : Res K T W' hid B σ ρ H o k := by
  cases o with
  | ok a ρ' => exact h
  | ex c ρ' => exact h.elim
  | no => exact h
end

/-! ### readings -/
section
variable (K : PySem.W.Frag) (T : VT) (W : WX)
def rdE (f : ME) : TE := fun σ H Q => ∃ hid B ρ, SR K T hid B H σ ρ ∧ Res K T W hid B σ ρ H (f ρ) fun d ρ' H' => ∀ v, Rp K (Fz hid σ ρ' H') v d → Q v H'
def rdT (f : MT) : TT := fun σ H Q => ∃ hid B ρ, SR K T hid B H σ ρ ∧ Res K T W hid B σ ρ H (f ρ) fun b _ H' => Q b H'
/-- a list that is new: nobody else has it -/
def rdL (f : ML) : TE := fun σ H Q => ∃ hid B ρ, SR K T hid B H σ ρ ∧ Res K T W hid B σ ρ H (f ρ) fun ds ρ' H' => ∀ a xs, H' a = none → RpAll K (Fz hid σ ρ' H') xs ds → Q (.ref a) (L2.upd H' a (.lst xs))
/-- a list of arguments, all of them values -/
def rdD (f : ML) : TA := fun σ H Q => ∃ hid B ρ, SR K T hid B H σ ρ ∧ Res K T W hid B σ ρ H (f ρ) fun ds ρ' H' => ∀ vs, RpAll K (Fz hid σ ρ' H') vs ds → Q vs H'
end
theorem _root_.L2.PE.weak {X : Cx} {e : Expr} {t t' : TE} (h : PE X e t) (w : ∀ σ H Q, t' σ H Q → t σ H Q) : PE X e t' := ⟨fun pins s σ H Q I q => h.run pins s σ H Q I (w σ H Q q)⟩
theorem _root_.L2.PT.weak {X : Cx} {e : Expr} {t t' : TT} (h : PT X e t) (w : ∀ σ H Q, t' σ H Q → t σ H Q) : PT X e t' := ⟨fun pins s σ H Q I q => h.run pins s σ H Q I (w σ H Q q)⟩
theorem _root_.L2.PW.weak {X : Cx} {e : Expr} {t t' : TT} (h : PW X e t) (w : ∀ σ H Q, t' σ H Q → t σ H Q) : PW X e t' := ⟨fun wh pins s σ H Q I q => h.run wh pins s σ H Q I (w σ H Q q)⟩
theorem _root_.L2.PA.weak {X : Cx} {e : List Expr} {t t' : TA} (h : PA X e t) (w : ∀ σ H Q, t' σ H Q → t σ H Q) : PA X e t' := ⟨fun ps pins s σ H Q I q => h.run ps pins s σ H Q I (w σ H Q q)⟩
theorem _root_.L2.PS.weak {X : Cx} {e : Stmt} {t t' : TS} (h : PS X e t) (w : ∀ D σ H, t' D σ H → t D σ H) : PS X e t' := ⟨fun pins s σ H D I q => h.run pins s σ H D I (w D σ H q)⟩
theorem _root_.L2.PSs.weak {X : Cx} {e : List Stmt} {t t' : TS} (h : PSs X e t) (w : ∀ D σ H, t' D σ H → t D σ H) : PSs X e t' := ⟨fun pins s σ H D I q => h.run pins s σ H D I (w D σ H q)⟩
theorem _root_.L2.PG.weak {X : Cx} {e : Expr} {t t' : TG} (h : PG X e t) (w : ∀ v σ H Q, t' v σ H Q → t v σ H Q) : PG X e t' :=
  ⟨fun pins s σ H v u Q I r q => h.run pins s σ H v u Q I r (w v σ H Q q)⟩
theorem _root_.L2.PI.weak {X : Cx} {tg e : Expr} {t t' : TI} (h : PI X tg e t) (w : ∀ σ H Q, t' σ H Q → t σ H Q) : PI X tg e t' := ⟨fun pins s σ H Q I q => h.run pins s σ H Q I (w σ H Q q)⟩

abbrev XE (X : Cx) (T : VT) (W : WX) (e : Expr) (f : ME) : Prop := PE X e (rdE X.K T W f)
abbrev XT (X : Cx) (T : VT) (W : WX) (e : Expr) (f : MT) : Prop := PT X e (rdT X.K T W f)
abbrev XW (X : Cx) (T : VT) (W : WX) (e : Expr) (f : MT) : Prop := PW X e (rdT X.K T W f)
abbrev XL (X : Cx) (T : VT) (W : WX) (e : Expr) (f : ML) : Prop := PE X e (rdL X.K T W f)
abbrev XD (X : Cx) (T : VT) (W : WX) (es : List Expr) (f : ML) : Prop := PA X es (rdD X.K T W f)

/-! ### what an operation does with data, the heap only growing -/
def Pure1 (K : PySem.W.Frag) (r : V → Hp → VK → Prop) (op : PyData → Option PyData) : Prop :=
  ∀ (O : Addr → Prop) (H : Hp) (x : V) (d res : PyData) (Q : VK), (∀ b, O b → ∃ o, H b = some o) → Rp K (fz O H) x d → op d = some res → (∀ v H', Same H H' → Rp K (fz O H') v res → Q v H') → r x H Q
def Pure2 (K : PySem.W.Frag) (r : R2) (op : PyData → PyData → Option PyData) : Prop :=
  ∀ (O : Addr → Prop) (H : Hp) (x y : V) (d e res : PyData) (Q : VK), (∀ b, O b → ∃ o, H b = some o) → Rp K (fz O H) x d → Rp K (fz O H) y e → op d e = some res → (∀ v H', Same H H' → Rp K (fz O H') v res → Q v H') → r x y H Q
def PureN (K : PySem.W.Frag) (r : List V → Hp → VK → Prop) (op : List PyData → Option PyData) : Prop :=
  ∀ (O : Addr → Prop) (H : Hp) (xs : List V) (ds : List PyData) (res : PyData) (Q : VK), (∀ b, O b → ∃ o, H b = some o) → RpAll K (fz O H) xs ds → op ds = some res → (∀ v H', Same H H' → Rp K (fz O H') v res → Q v H') → r xs H Q
/-- .. that makes a new list -/
def PureL (K : PySem.W.Frag) (r : List V → Hp → VK → Prop) (op : List PyData → Option (List PyData)) : Prop :=
  ∀ (O : Addr → Prop) (H : Hp) (xs : List V) (ds res : List PyData) (Q : VK), (∀ b, O b → ∃ o, H b = some o) → RpAll K (fz O H) xs ds → op ds = some res →
    (∀ H' a ys, Same H H' → H' a = none → RpAll K (fz O H') ys res → Q (.ref a) (L2.upd H' a (.lst ys))) → r xs H Q

/-! ### mirrors of expressions -/
def mVar (i : Nat) : ME := fun ρ => match ρ[i]? with
  | some (.val d) => .ok d ρ
  | _ => .no
/-- an own list is read, and given away -/
def mFrz (i : Nat) : ME := fun ρ => match ρ[i]? with
  | some (.own ds) => .ok (.list ds) (ρ.set i (.val (.list ds)))
  | _ => .no
def mC (d : PyData) : ME := fun ρ => .ok d ρ
def m1 (op : PyData → Option PyData) (f : ME) : ME := fun ρ => (f ρ).bind fun d ρ1 => Oc.opt (op d) ρ1
def m2 (op : PyData → PyData → Option PyData) (f g : ME) : ME := fun ρ => (f ρ).bind fun d ρ1 => (g ρ1).bind fun e ρ2 => Oc.opt (op d e) ρ2
def mN (op : List PyData → Option PyData) (f : ML) : ME := fun ρ => (f ρ).bind fun ds ρ1 => Oc.opt (op ds) ρ1
def mNL (op : List PyData → Option (List PyData)) (f : ML) : ML := fun ρ => (f ρ).bind fun ds ρ1 => Oc.opt (op ds) ρ1
def mNil : ML := fun ρ => .ok [] ρ
def mCons (f : ME) (g : ML) : ML := fun ρ => (f ρ).bind fun d ρ1 => (g ρ1).bind fun ds ρ2 => .ok (d :: ds) ρ2
def mLst (f : ML) : ME := fun ρ => (f ρ).bind fun ds ρ1 => .ok (.list ds) ρ1
def fits (n : Nat) : Bool := decide (n ≤ 16777216)
def mTup (f : ML) : ME := fun ρ => (f ρ).bind fun ds ρ1 => if fits ds.length then .ok (.tuple ds) ρ1 else .no
def mDsp (f : ML) : ML := fun ρ => (f ρ).bind fun ds ρ1 => if fits ds.length then .ok ds ρ1 else .no
def mB (f : ME) : MT := fun ρ => (f ρ).bind fun d ρ1 => match d with
  | .bool b => .ok b ρ1
  | _ => .no
def truD : PyData → Option Bool
  | .none => some false
  | .bool b => some b
  | .int i => some (i != 0)
  | .str x => if fits x.length then some ((x.length : Int) != 0) else none
  | .list ds => some (!ds.isEmpty)
  | .tuple ds => some (!ds.isEmpty)
  | .dict _ => none
def mTru (f : ME) : MT := fun ρ => (f ρ).bind fun d ρ1 => Oc.opt (truD d) ρ1
def mAnd (f g : MT) : MT := fun ρ => (f ρ).bind fun b ρ1 => if b = true then g ρ1 else .ok false ρ1
def mOr (f g : MT) : MT := fun ρ => (f ρ).bind fun b ρ1 => if b = true then .ok true ρ1 else g ρ1
def mNot (f : MT) : MT := fun ρ => (f ρ).bind fun b ρ1 => .ok (!b) ρ1
def mIf (c : MT) (f g : ME) : ME := fun ρ => (c ρ).bind fun b ρ1 => if b = true then f ρ1 else g ρ1
/-- a test's answer as a value -/
def mV (c : MT) : ME := fun ρ => (c ρ).bind fun b ρ1 => .ok (.bool b) ρ1
def mChain (op op' : PyData → PyData → Option PyData) (f g h : ME) : ME := fun ρ => (f ρ).bind fun d ρ1 => (g ρ1).bind fun e ρ2 => match op d e with
  | some (.bool true) => (h ρ2).bind fun c ρ3 => Oc.opt (op' e c) ρ3
  | some (.bool false) => .ok (.bool false) ρ2
  | _ => .no

section
variable {X : Cx} {T : VT} {W : WX}
theorem sz_fits {n : Nat} (h : fits n = true) : n ≤ sizeLine := by rw [sizeLine_eq]; exact of_decide_eq_true h
/-! #### names, constants -/
theorem xv (i : Nat) {x : Str} {pos : Pos} (hN : X.N[i]? = some x := by rfl) (hv : Vis X.env.scope x := by first | exact Or.inl rfl | exact Or.inr (Or.inl rfl) | exact Or.inr (Or.inr rfl)) (hd : (x == ("__debug__" : Str)) = false := by decide)
    (hcd : (x == ("__classdict__" : Str)) = false := by decide) : XE X T W (.Name x pos) (mVar i) := (pe_var hN hv hd hcd).weak fun σ H Q ⟨hid, B, ρ, S, r⟩ => by
  unfold mVar at r
  split at r
  · rename_i d e
    obtain ⟨o, e1, r1⟩ := S.rel i _ e
    cases r1 with
    | val r1 => exact ⟨_, e1, Res.here S r _ r1⟩
  · exact r.elim
theorem xfrz (i : Nat) {x : Str} {pos : Pos} (hN : X.N[i]? = some x := by rfl) (hv : Vis X.env.scope x := by first | exact Or.inl rfl | exact Or.inr (Or.inl rfl) | exact Or.inr (Or.inr rfl)) (hd : (x == ("__debug__" : Str)) = false := by decide)
    (hcd : (x == ("__classdict__" : Str)) = false := by decide) : XE X T W (.Name x pos) (mFrz i) := (pe_var hN hv hd hcd).weak fun σ H Q ⟨hid, B, ρ, S, r⟩ => by
  unfold mFrz at r
  split at r
  · rename_i ds e
    obtain ⟨v, e1, S1, E1, r1⟩ := S.freeze e
    exact ⟨_, e1, r H S1 E1 v r1⟩
  · exact r.elim
theorem xc {e : Expr} {v : V} {d : PyData} (h : PE X e (tC v)) (hr : ∀ F, Rp X.K F v d) : XE X T W e (mC d) := h.weak fun σ H Q ⟨hid, B, ρ, S, r⟩ => Res.here S r v (hr _)
theorem xint {i j pos} : XE X T W (.Constant (.int i) j pos) (mC (.int i)) := xc pe_int fun _ => .int i
theorem xbl {i j pos} : XE X T W (.Constant (.bool i) j pos) (mC (.bool i)) := xc pe_bl fun _ => .bl i
theorem xnon {j pos} : XE X T W (.Constant .none j pos) (mC .none) := xc pe_non fun _ => .non
theorem xstr {i j pos} : XE X T W (.Constant (.str i) j pos) (mC (.str i)) := xc pe_str fun _ => .str i
theorem xglob {x : Str} {v : V} {u : Value} {pos : Pos} {d : PyData} (hg : Gl X x) (hm : X.mg x = some u) (rv : RelV v u) (hr : ∀ F, Rp X.K F v d) (hd : (x == ("__debug__" : Str)) = false := by decide) : XE X T W (.Name x pos) (mC d) :=
  xc (pe_glob hg hm rv hd) hr

/-! #### operations -/
variable {a b c : Expr} {f g h : ME} {pos : Pos}
theorem rd2 {r : R2} {op : PyData → PyData → Option PyData} (hp : Pure2 X.K r op) {σ : L2.St} {H : Hp} {Q : VK} (q : rdE X.K T W (m2 op f g) σ H Q) : tOp r (rdE X.K T W f) (rdE X.K T W g) σ H Q := by
  obtain ⟨hid, B, ρ, S, q⟩ := q
  refine ⟨hid, B, ρ, S, (Res.bind q).imp fun d ρ1 H1 S1 E1 q1 x rx => ⟨hid, B, ρ1, S1, (Res.bind q1).imp fun e ρ2 H2 S2 E2 q2 y ry => ?_⟩⟩
  obtain ⟨res, hres, q3⟩ := Res.opt S2 q2
  exact hp _ H2 x y d e res Q S2.dom (rx.mono E2.same) ry hres fun v H' e2 rv => q3 H' e2 v rv
theorem rd1 {r : V → Hp → VK → Prop} {op : PyData → Option PyData} (hp : Pure1 X.K r op) {σ : L2.St} {H : Hp} {Q : VK} (q : rdE X.K T W (m1 op f) σ H Q) : rdE X.K T W f σ H fun x H1 => r x H1 Q := by
  obtain ⟨hid, B, ρ, S, q⟩ := q
  refine ⟨hid, B, ρ, S, (Res.bind q).imp fun d ρ1 H1 S1 E1 q1 x rx => ?_⟩
  obtain ⟨res, hres, q3⟩ := Res.opt S1 q1
  exact hp _ H1 x d res Q S1.dom rx hres fun v H' e2 rv => q3 H' e2 v rv
theorem rdN {r : List V → Hp → VK → Prop} {op : List PyData → Option PyData} {fs : ML} (hp : PureN X.K r op) {σ : L2.St} {H : Hp} {Q : VK} (q : rdE X.K T W (mN op fs) σ H Q) : rdD X.K T W fs σ H fun xs H1 => r xs H1 Q := by
  obtain ⟨hid, B, ρ, S, q⟩ := q
  refine ⟨hid, B, ρ, S, (Res.bind q).imp fun d ρ1 H1 S1 E1 q1 x rx => ?_⟩
  obtain ⟨res, hres, q3⟩ := Res.opt S1 q1
  exact hp _ H1 x d res Q S1.dom rx hres fun v H' e2 rv => q3 H' e2 v rv
theorem rdNL {r : List V → Hp → VK → Prop} {op : List PyData → Option (List PyData)} {fs : ML} (hp : PureL X.K r op) {σ : L2.St} {H : Hp} {Q : VK} (q : rdL X.K T W (mNL op fs) σ H Q) : rdD X.K T W fs σ H fun xs H1 => r xs H1 Q := by
  obtain ⟨hid, B, ρ, S, q⟩ := q
  refine ⟨hid, B, ρ, S, (Res.bind q).imp fun d ρ1 H1 S1 E1 q1 x rx => ?_⟩
  obtain ⟨res, hres, q3⟩ := Res.opt S1 q1
  exact hp _ H1 x d res Q S1.dom rx hres fun H2 a ys sm ha hy => q3 H2 sm a ys ha hy
theorem xop {o : Operator} {r : R2} {op : PyData → PyData → Option PyData} (ho : OpR X (binaryOp o) r) (hp : Pure2 X.K r op) (ha : XE X T W a f) (hb : XE X T W b g) : XE X T W (.BinOp a o b pos) (m2 op f g) :=
  (pe_op ho ha hb).weak fun σ H Q q => rd2 hp q
theorem xun {o : UnaryOp} {r : V → Hp → VK → Prop} {op : PyData → Option PyData} (ho : UnR X (unaryOp o) r) (hp : Pure1 X.K r op) (ha : XE X T W a f) : XE X T W (.UnaryOp o a pos) (m1 op f) :=
  (pe_un ho ha).weak fun σ H Q q => rd1 hp q
theorem xcmp {o : CmpOp} {r : R2} {op : PyData → PyData → Option PyData} (ho : OpR X (compareOp o) r) (hp : Pure2 X.K r op) (ha : XE X T W a f) (hb : XE X T W b g) (hm : behindInMarks o b = false) : XE X T W (.Compare a [o] [b] pos) (m2 op f g) :=
  (pe_cmpR ho ha hb hm).weak fun σ H Q q => rd2 hp q
theorem rdB {σ : L2.St} {H : Hp} {Q : Bool → Hp → Prop} (q : rdT X.K T W (mB f) σ H Q) : rdE X.K T W f σ H fun x H' => ∃ k, x = .bl k ∧ Q k H' := by
  obtain ⟨hid, B, ρ, S, q⟩ := q
  refine ⟨hid, B, ρ, S, (Res.bind q).imp fun d ρ1 H1 S1 E1 q1 x rx => ?_⟩
  cases d with
  | bool k =>
    cases rx
    exact ⟨k, rfl, Res.here S1 q1⟩
  | _ => exact q1.elim
theorem tcmp {o : CmpOp} {r : R2} {op : PyData → PyData → Option PyData} (ho : OpR X (compareOp o) r) (hp : Pure2 X.K r op) (ha : XE X T W a f) (hb : XE X T W b g) (hm : behindInMarks o b = false) : XT X T W (.Compare a [o] [b] pos) (mB (m2 op f g)) :=
  (pt_cmpR ho ha hb hm).weak fun σ H Q q => by
    have := rdB q
    exact rd2 hp this
theorem tval {e : Expr} (he : XE X T W e f) (hw : ∀ whole, isTrue e X.env whole = (do let v ← whole; standAt e.pos; holding [v] (truthy v)) := by intro _; rfl) : XT X T W e (mB f) :=
  (pt_val he hw).weak fun σ H Q q => rdB q
theorem ttru {e : Expr} (he : XE X T W e f) (hw : ∀ whole, isTrue e X.env whole = (do let v ← whole; standAt e.pos; holding [v] (truthy v)) := by intro _; rfl) : XT X T W e (mTru f) :=
  (pt_truth he hw).weak fun σ H Q q => by
    obtain ⟨hid, B, ρ, S, q⟩ := q
    refine ⟨hid, B, ρ, S, (Res.bind q).imp fun d ρ1 H1 S1 E1 q1 x rx => ?_⟩
    obtain ⟨k, hk, q2⟩ := Res.opt S1 q1
    refine ⟨k, ?_, q2 H1 (Same.refl _)⟩
    cases d with
    | none => cases rx; cases hk; rfl
    | bool b => cases rx; cases hk; rfl
    | int i => cases rx; cases hk; rfl
    | str z =>
      cases rx
      simp only [truD] at hk
      split at hk
      · rename_i hz
        cases hk
        exact ⟨sz_fits hz, rfl⟩
      · cases hk
    | list ds =>
      cases rx with
      | lst h1 h2 =>
        cases hk
        refine .inl ⟨_, SqL.of (fz_le _ _ h1), ?_⟩
        cases h2 <;> rfl
    | tuple ds =>
      cases rx with
      | tup h1 h2 =>
        cases hk
        refine .inr (.inl ⟨_, seqT_same fz_le h1, ?_⟩)
        cases h2 <;> rfl
    | dict _ => cases rx
/-! #### and, or, not, if .. else -/
variable {tf tg : MT} {rest : List Expr}
theorem wand1 (ha : XT X T W a tf) : XW X T W (.BoolOp .And [a] pos) tf := pw_and1 ha
theorem wor1 (ha : XT X T W a tf) : XW X T W (.BoolOp .Or [a] pos) tf := pw_or1 ha
theorem wand (ha : XT X T W a tf) (hb : XW X T W (.BoolOp .And (b :: rest) pos) tg) : XW X T W (.BoolOp .And (a :: b :: rest) pos) (mAnd tf tg) :=
  (pw_and ha hb).weak fun σ H Q ⟨hid, B, ρ, S, q⟩ => ⟨hid, B, ρ, S, (Res.bind q).imp fun k ρ1 H1 S1 E1 q1 => by
    cases k with
    | true => exact (if_pos rfl).mpr ⟨hid, B, ρ1, S1, q1⟩
    | false => exact (if_neg Bool.false_ne_true).mpr (Res.here S1 q1)⟩
theorem wor (ha : XT X T W a tf) (hb : XW X T W (.BoolOp .Or (b :: rest) pos) tg) : XW X T W (.BoolOp .Or (a :: b :: rest) pos) (mOr tf tg) :=
  (pw_or ha hb).weak fun σ H Q ⟨hid, B, ρ, S, q⟩ => ⟨hid, B, ρ, S, (Res.bind q).imp fun k ρ1 H1 S1 E1 q1 => by
    cases k with
    | true => exact (if_pos rfl).mpr (Res.here S1 q1)
    | false => exact (if_neg Bool.false_ne_true).mpr ⟨hid, B, ρ1, S1, q1⟩⟩
theorem tw {e : Expr} (h : XW X T W e tf) : XT X T W e tf := h.pt
theorem tnot (ha : XT X T W a tf) : XT X T W (.UnaryOp .Not a pos) (mNot tf) :=
  (pt_not ha).weak fun σ H Q ⟨hid, B, ρ, S, q⟩ => ⟨hid, B, ρ, S, (Res.bind q).imp fun k ρ1 H1 S1 E1 q1 => Res.here S1 q1⟩
theorem xif {tc : MT} (hc : XT X T W c tc) (ha : XE X T W a f) (hb : XE X T W b g) : XE X T W (.IfExp c a b pos) (mIf tc f g) :=
  (pe_ifExp hc ha hb).weak fun σ H Q ⟨hid, B, ρ, S, q⟩ => ⟨hid, B, ρ, S, (Res.bind q).imp fun k ρ1 H1 S1 E1 q1 => by
    cases k with
    | true => exact (if_pos rfl).mpr ⟨hid, B, ρ1, S1, q1⟩
    | false => exact (if_neg Bool.false_ne_true).mpr ⟨hid, B, ρ1, S1, q1⟩⟩
theorem xone {op} (ha : XE X T W a f) : XE X T W (.BoolOp op [a] pos) f := pe_one ha
def mAndV (f g : ME) : ME := fun ρ => (f ρ).bind fun d ρ1 => match d with
  | .bool true => g ρ1
  | .bool false => .ok (.bool false) ρ1
  | _ => .no
def mOrV (f g : ME) : ME := fun ρ => (f ρ).bind fun d ρ1 => match d with
  | .bool true => .ok (.bool true) ρ1
  | .bool false => g ρ1
  | _ => .no
def mNotV (f : ME) : ME := fun ρ => (f ρ).bind fun d ρ1 => match d with
  | .bool b => .ok (.bool (!b)) ρ1
  | _ => .no
theorem xand (ha : XE X T W a f) (hb : XE X T W (.BoolOp .And (b :: rest) pos) g) : XE X T W (.BoolOp .And (a :: b :: rest) pos) (mAndV f g) :=
  (pe_and ha hb).weak fun σ H Q ⟨hid, B, ρ, S, q⟩ => ⟨hid, B, ρ, S, (Res.bind q).imp fun d ρ1 H1 S1 E1 q1 x rx => by
    cases d with
    | bool k =>
      cases rx
      refine ⟨k, rfl, ?_⟩
      cases k with
      | true => exact (if_pos rfl).mpr ⟨hid, B, ρ1, S1, q1⟩
      | false => exact (if_neg Bool.false_ne_true).mpr (Res.here S1 q1 _ (.bl _))
    | _ => exact q1.elim⟩
theorem xor (ha : XE X T W a f) (hb : XE X T W (.BoolOp .Or (b :: rest) pos) g) : XE X T W (.BoolOp .Or (a :: b :: rest) pos) (mOrV f g) :=
  (pe_or ha hb).weak fun σ H Q ⟨hid, B, ρ, S, q⟩ => ⟨hid, B, ρ, S, (Res.bind q).imp fun d ρ1 H1 S1 E1 q1 x rx => by
    cases d with
    | bool k =>
      cases rx
      refine ⟨k, rfl, ?_⟩
      cases k with
      | true => exact (if_pos rfl).mpr (Res.here S1 q1 _ (.bl _))
      | false => exact (if_neg Bool.false_ne_true).mpr ⟨hid, B, ρ1, S1, q1⟩
    | _ => exact q1.elim⟩
theorem xnot (ha : XE X T W a f) : XE X T W (.UnaryOp .Not a pos) (mNotV f) :=
  (pe_not ha).weak fun σ H Q ⟨hid, B, ρ, S, q⟩ => ⟨hid, B, ρ, S, (Res.bind q).imp fun d ρ1 H1 S1 E1 q1 x rx => by
    cases d with
    | bool k =>
      cases rx
      exact ⟨k, rfl, Res.here S1 q1 _ (.bl _)⟩
    | _ => exact q1.elim⟩
/-! #### chains -/
theorem rdChain {r r' : R2} {op op' : PyData → PyData → Option PyData} (hp : Pure2 X.K r op) (hp' : Pure2 X.K r' op') (hb1 : ∀ d e res, op d e = some res → ∃ k, res = .bool k) {σ : L2.St} {H : Hp} {Q : VK} (q : rdE X.K T W (mChain op op' f g h) σ H Q) : tChain r r' (rdE X.K T W f) (rdE X.K T W g) (rdE X.K T W h) σ H Q := by
  obtain ⟨hid, B, ρ, S, q⟩ := q
  refine ⟨hid, B, ρ, S, (Res.bind q).imp fun d ρ1 H1 S1 E1 q1 x rx => ⟨hid, B, ρ1, S1, (Res.bind q1).imp fun e ρ2 H2 S2 E2 q2 y ry => ?_⟩⟩
  cases hop : op d e with
  | none => rw [hop] at q2; exact q2.elim
  | some res =>
    obtain ⟨k, rfl⟩ := hb1 _ _ _ hop
    rw [hop] at q2
    refine hp _ H2 x y d e _ _ S2.dom (rx.mono E2.same) ry hop fun v H' e2 rv => ?_
    cases rv
    refine ⟨k, rfl, ?_⟩
    have S3 := S2.grow e2
    have E3 := S2.ext e2
    cases k with
    | true =>
      refine (if_pos rfl).mpr ⟨hid, B, ρ2, S3, (Res.bind (Res.step E3 q2)).imp fun c ρ3 H3 S4 E4 q4 z rz => ?_⟩
      obtain ⟨res, hres, q5⟩ := Res.opt S4 q4
      exact hp' _ H3 y z e c res Q S4.dom ((ry.mono E3.same).mono E4.same) rz hres fun v H' e2 rv => q5 H' e2 v rv
    | false => exact (if_neg Bool.false_ne_true).mpr (q2 H' S3 E3 _ (.bl _))
theorem xchain {o o' : CmpOp} {r r' : R2} {op op' : PyData → PyData → Option PyData} (ho : OpR X (compareOp o) r) (ho' : OpR X (compareOp o') r') (hp : Pure2 X.K r op) (hp' : Pure2 X.K r' op') (hb1 : ∀ d e res, op d e = some res → ∃ k, res = .bool k)
    (ha : XE X T W a f) (hb : XE X T W b g) (hc : XE X T W c h) (hm : lastMarks [o, o'] [b, c] = false) : XE X T W (.Compare a [o, o'] [b, c] pos) (mChain op op' f g h) :=
  (pe_chain ho ho' ha hb hc hm).weak fun σ H Q q => rdChain hp hp' hb1 q
/-! #### argument lists, displays -/
variable {es : List Expr} {fs : ML}
theorem dnil : XD X T W [] mNil := pa_nil.weak fun σ H Q ⟨hid, B, ρ, S, q⟩ => Res.here S q [] .nil
theorem dcons (ha : XE X T W a f) (hr : XD X T W es fs) (hs : starEach (a :: es) X.env = (false, eval a X.env) :: starEach es X.env := by rfl) : XD X T W (a :: es) (mCons f fs) :=
  (pa_cons ha hr hs).weak fun σ H Q ⟨hid, B, ρ, S, q⟩ => ⟨hid, B, ρ, S, (Res.bind q).imp fun d ρ1 H1 S1 E1 q1 x rx => ⟨hid, B, ρ1, S1, (Res.bind q1).imp fun ds ρ2 H2 S2 E2 q2 xs rxs =>
    Res.here S2 q2 (x :: xs) (.cons (rx.mono E2.same) rxs)⟩⟩
theorem tup_new {K : PySem.W.Frag} {O : Addr → Prop} {H : Hp} {vs : List V} {ds : List PyData} {p : Addr} (hO : ∀ b, O b → ∃ o, H b = some o) (hp : H p = none) (r : RpAll K (fz O H) vs ds) :
    Same H (L2.upd H p (.tup vs)) ∧ Rp K (fz O (L2.upd H p (.tup vs))) (.ref p) (.tuple ds) := by
  have sm : Same H (L2.upd H p (.tup vs)) := fun b o e => by rw [upd_ne (ne_of_none e hp)]; exact e
  have no : ¬ O p := fun z => by
    obtain ⟨o, e⟩ := hO p z
    rw [hp] at e
    cases e
  exact ⟨sm, .tup (SqT.of ((fz_out no).trans upd_same)) (r.mono (fz_grow sm))⟩
theorem lst_new {K : PySem.W.Frag} {O : Addr → Prop} {H : Hp} {vs : List V} {ds : List PyData} {p : Addr} (hO : ∀ b, O b → ∃ o, H b = some o) (hp : H p = none) (r : RpAll K (fz O H) vs ds) :
    Same H (L2.upd H p (.lst vs)) ∧ Rp K (fz O (L2.upd H p (.lst vs))) (.ref p) (.list ds) := by
  have sm : Same H (L2.upd H p (.lst vs)) := fun b o e => by rw [upd_ne (ne_of_none e hp)]; exact e
  have no : ¬ O p := fun z => by
    obtain ⟨o, e⟩ := hO p z
    rw [hp] at e
    cases e
  exact ⟨sm, .lst ((fz_out no).trans upd_same) (r.mono (fz_grow sm))⟩
theorem xtup {x1} (hd : XD X T W es fs) : XE X T W (.Tuple es x1 pos) (mTup fs) :=
  (pe_tup hd).weak fun σ H Q ⟨hid, B, ρ, S, q⟩ => ⟨hid, B, ρ, S, (Res.bind q).imp fun ds ρ1 H1 S1 E1 q1 xs rxs => by
    by_cases z : fits ds.length = true
    · rw [if_pos z] at q1
      refine ⟨by rw [rxs.length]; exact sz_fits z, fun p hp => ?_⟩
      obtain ⟨sm, r⟩ := tup_new S1.dom hp rxs
      exact q1 _ (S1.grow sm) (S1.ext sm) _ r
    · rw [if_neg z] at q1
      exact q1.elim⟩
theorem ldsp (hd : XD X T W es fs) : XL X T W (.List es pos) (mDsp fs) :=
  (pe_lst hd).weak fun σ H Q ⟨hid, B, ρ, S, q⟩ => ⟨hid, B, ρ, S, (Res.bind q).imp fun ds ρ1 H1 S1 E1 q1 xs rxs => by
    by_cases z : fits ds.length = true
    · rw [if_pos z] at q1
      exact ⟨by rw [rxs.length]; exact sz_fits z, fun p hp => Res.here S1 q1 p xs hp rxs⟩
    · rw [if_neg z] at q1
      exact q1.elim⟩
/-- a new list as a value -/
theorem xl {e : Expr} (hl : XL X T W e fs) : XE X T W e (mLst fs) :=
  hl.weak fun σ H Q ⟨hid, B, ρ, S, q⟩ => ⟨hid, B, ρ, S, (Res.bind q).imp fun ds ρ1 H1 S1 E1 q1 p xs hp rxs => by
    obtain ⟨sm, r⟩ := lst_new S1.dom hp rxs
    exact q1 _ (S1.grow sm) (S1.ext sm) _ r⟩
/-! #### built-ins -/
variable {x : Str} {p : Pos} {id Ty : String} {r : List V → Hp → VK → Prop}
theorem xcb {op : List PyData → Option PyData} (hc : CallR X (.builtin id) r) (hp : PureN X.K r op) (hg : Gl X x) (hm : X.mg x = none) (hv : bootBuiltins x = some (.builtin id)) (ha : XD X T W (a :: es) fs) (hn : x ≠ "__name__" := by decide) (hdb : (x == ("__debug__" : Str)) = false := by decide)
    (he : starEach (a :: es) X.env = (false, eval a X.env) :: starEach es X.env := by rfl) (hpl : (backTo pos (starEach es X.env)).any (·.1) = false := by rfl) : XE X T W (.Call (.Name x p) (a :: es) [] pos) (mN op fs) :=
  (pe_callB hc hg hm hv ha hn hdb he hpl).weak fun σ H Q q => rdN hp q
theorem xct {op : List PyData → Option PyData} (hc : CallR X (.type Ty) r) (hp : PureN X.K r op) (hg : Gl X x) (hm : X.mg x = none) (hv : bootBuiltins x = some (.type Ty)) (ha : XD X T W (a :: es) fs) (hn : x ≠ "__name__" := by decide) (hdb : (x == ("__debug__" : Str)) = false := by decide)
    (he : starEach (a :: es) X.env = (false, eval a X.env) :: starEach es X.env := by rfl) (hpl : (backTo pos (starEach es X.env)).any (·.1) = false := by rfl) : XE X T W (.Call (.Name x p) (a :: es) [] pos) (mN op fs) :=
  (pe_callTy hc hg hm hv ha hn hdb he hpl).weak fun σ H Q q => rdN hp q
theorem lcb {op : List PyData → Option (List PyData)} (hc : CallR X (.builtin id) r) (hp : PureL X.K r op) (hg : Gl X x) (hm : X.mg x = none) (hv : bootBuiltins x = some (.builtin id)) (ha : XD X T W (a :: es) fs) (hn : x ≠ "__name__" := by decide) (hdb : (x == ("__debug__" : Str)) = false := by decide)
    (he : starEach (a :: es) X.env = (false, eval a X.env) :: starEach es X.env := by rfl) (hpl : (backTo pos (starEach es X.env)).any (·.1) = false := by rfl) : XL X T W (.Call (.Name x p) (a :: es) [] pos) (mNL op fs) :=
  (pe_callB hc hg hm hv ha hn hdb he hpl).weak fun σ H Q q => rdNL hp q
theorem lct {op : List PyData → Option (List PyData)} (hc : CallR X (.type Ty) r) (hp : PureL X.K r op) (hg : Gl X x) (hm : X.mg x = none) (hv : bootBuiltins x = some (.type Ty)) (ha : XD X T W (a :: es) fs) (hn : x ≠ "__name__" := by decide) (hdb : (x == ("__debug__" : Str)) = false := by decide)
    (he : starEach (a :: es) X.env = (false, eval a X.env) :: starEach es X.env := by rfl) (hpl : (backTo pos (starEach es X.env)).any (·.1) = false := by rfl) : XL X T W (.Call (.Name x p) (a :: es) [] pos) (mNL op fs) :=
  (pe_callTy hc hg hm hv ha hn hdb he hpl).weak fun σ H Q q => rdNL hp q
end
end VL

set_option Elab.async false
set_option linter.all false
set_option maxRecDepth 100000
set_option maxHeartbeats 4000000
/-! V2: statements, targets, what is walked, loops, comprehensions. -/
namespace VL
open PySem PySem.Spec PyProof.Rows L2

inductive Fl where
  | nx | rt (d : PyData) | bk | ct
abbrev MS := R → Oc Fl
def ResS (K : PySem.W.Frag) (T : VT) (W : WX) (hid : Addr → Prop) (B σ : L2.St) (ρ : R) (H : Hp) (o : Oc Fl) (D : Ends) : Prop :=
  match o with
  | .ok .nx ρ' => ∀ σ' H', SR K T hid B H' σ' ρ' → Ext hid σ ρ H σ' ρ' H' → D.nx σ' H'
  | .ok (.rt d) ρ' => ∀ σ' H' v, SR K T hid B H' σ' ρ' → Ext hid σ ρ H σ' ρ' H' → Rp K (Fz hid σ' ρ' H') v d → D.rt v H'
  | .ok .bk ρ' => ∀ σ' H', SR K T hid B H' σ' ρ' → Ext hid σ ρ H σ' ρ' H' → D.bk σ' H'
  | .ok .ct ρ' => ∀ σ' H', SR K T hid B H' σ' ρ' → Ext hid σ ρ H σ' ρ' H' → D.ct σ' H'
  | .ex c ρ' => ∀ σ' H', SR K T hid B H' σ' ρ' → Ext hid σ ρ H σ' ρ' H' → W (.ref (T.ea c)) none σ' H'
  | .no => False
def rdS (K : PySem.W.Frag) (T : VT) (W : WX) (m : MS) : TS := fun D σ H => ∃ hid B ρ, SR K T hid B H σ ρ ∧ ResS K T W hid B σ ρ H (m ρ) D
abbrev XS (X : Cx) (T : VT) (W : WX) (st : Stmt) (m : MS) : Prop := PS X st (rdS X.K T W m)
abbrev XSs (X : Cx) (T : VT) (W : WX) (st : List Stmt) (m : MS) : Prop := PSs X st (rdS X.K T W m)
section
variable {K : PySem.W.Frag} {T : VT} {W : WX} {hid : Addr → Prop} {B σ σ1 : L2.St} {ρ ρ1 : R} {H H1 : Hp} {α β : Type}
theorem ResS.step {o : Oc Fl} {D : Ends} (E : Ext hid σ ρ H σ1 ρ1 H1) (h : ResS K T W hid B σ ρ H o D) : ResS K T W hid B σ1 ρ1 H1 o D := by
  cases o with
  | ok a ρ' =>
    cases a with
    | nx => exact fun σ' H' S' E' => h σ' H' S' (E.trans E')
    | rt d => exact fun σ' H' v S' E' => h σ' H' v S' (E.trans E')
    | bk => exact fun σ' H' S' E' => h σ' H' S' (E.trans E')
    | ct => exact fun σ' H' S' E' => h σ' H' S' (E.trans E')
  | ex c ρ' => exact fun σ' H' S' E' => h σ' H' S' (E.trans E')
  | no => exact h
/-- an expression's outcome, then a statement's -/
theorem ResS.bindE {o : Oc α} {g : α → R → Oc Fl} {D : Ends} (h : ResS K T W hid B σ ρ H (o.bind g) D) :
    Res K T W hid B σ ρ H o fun a ρ1 H1 => ResS K T W hid B σ ρ1 H1 (g a ρ1) D := by
  cases o with
  | ok a ρ' => exact fun H' S' E' => ResS.step E' h
  | ex c ρ' => exact fun H' S' E' => h σ H' S' E'
  | no => exact h
/-- a statement's outcome, then another's -/
theorem ResS.bindS {o : Oc Fl} {g : Fl → R → Oc Fl} {D D' : Ends} (h : ResS K T W hid B σ ρ H (o.bind g) D)
    (hn : ∀ ρ1 σ1 H1, SR K T hid B H1 σ1 ρ1 → Ext hid σ ρ H σ1 ρ1 H1 → ResS K T W hid B σ1 ρ1 H1 (g .nx ρ1) D → D'.nx σ1 H1)
    (hr : ∀ d ρ1 σ1 H1 v, SR K T hid B H1 σ1 ρ1 → Ext hid σ ρ H σ1 ρ1 H1 → Rp K (Fz hid σ1 ρ1 H1) v d → ResS K T W hid B σ1 ρ1 H1 (g (.rt d) ρ1) D → D'.rt v H1)
    (hb : ∀ ρ1 σ1 H1, SR K T hid B H1 σ1 ρ1 → Ext hid σ ρ H σ1 ρ1 H1 → ResS K T W hid B σ1 ρ1 H1 (g .bk ρ1) D → D'.bk σ1 H1)
    (hc : ∀ ρ1 σ1 H1, SR K T hid B H1 σ1 ρ1 → Ext hid σ ρ H σ1 ρ1 H1 → ResS K T W hid B σ1 ρ1 H1 (g .ct ρ1) D → D'.ct σ1 H1) : ResS K T W hid B σ ρ H o D' := by
  cases o with
  | ok a ρ' =>
    cases a with
    | nx => exact fun σ' H' S' E' => hn ρ' σ' H' S' E' (ResS.step E' h)
    | rt d => exact fun σ' H' v S' E' r => hr d ρ' σ' H' v S' E' r (ResS.step E' h)
    | bk => exact fun σ' H' S' E' => hb ρ' σ' H' S' E' (ResS.step E' h)
    | ct => exact fun σ' H' S' E' => hc ρ' σ' H' S' E' (ResS.step E' h)
  | ex c ρ' => exact h
  | no => exact h
theorem ResS.here {D : Ends} (S : SR K T hid B H σ ρ) (h : ResS K T W hid B σ ρ H (.ok .nx ρ) D) : D.nx σ H := h σ H S Ext.refl
end

/-! ### mirrors of statements -/
def mNx : MS := fun ρ => .ok .nx ρ
def mSeq (m n : MS) : MS := fun ρ => (m ρ).bind fun fl ρ1 => match fl with
  | .nx => n ρ1
  | fl => .ok fl ρ1
def mRet (f : ME) : MS := fun ρ => (f ρ).bind fun d ρ1 => .ok (.rt d) ρ1
def mRetN : MS := fun ρ => .ok (.rt .none) ρ
def mDrop (f : ME) : MS := fun ρ => (f ρ).bind fun _ ρ1 => .ok .nx ρ1
def mBreak : MS := fun ρ => .ok .bk ρ
def mCont : MS := fun ρ => .ok .ct ρ
def mIfS (c : MT) (m n : MS) : MS := fun ρ => (c ρ).bind fun b ρ1 => if b = true then m ρ1 else n ρ1
def mSet (i : Nat) (f : ME) : MS := fun ρ => (f ρ).bind fun d ρ1 => .ok .nx (ρ1.set i (.val d))
def mSetO (i : Nat) (f : ML) : MS := fun ρ => (f ρ).bind fun ds ρ1 => if i < ρ1.length then .ok .nx (ρ1.set i (.own ds)) else .no
def mSet2 (i j : Nat) (f g : ME) : MS := fun ρ => (f ρ).bind fun d ρ1 => (g ρ1).bind fun e ρ2 => .ok .nx ((ρ2.set i (.val d)).set j (.val e))
def mRaise (c : Nat) : MS := fun ρ => .ex c ρ
abbrev MG := PyData → R → Option R
def gNm (i : Nat) : MG := fun d ρ => some (ρ.set i (.val d))
def gSeq : List MG → List PyData → R → Option R
  | [], [], ρ => some ρ
  | g :: gs, d :: ds, ρ => (g d ρ).bind (gSeq gs ds)
  | _, _, _ => none
def gTp (gs : List MG) : MG := fun d ρ => match d with
  | .tuple ds => gSeq gs ds ρ
  | _ => none
def mAsg (g : MG) (f : ME) : MS := fun ρ => (f ρ).bind fun d ρ1 => Oc.opt (g d ρ1) ρ1 |>.bind fun ρ2 _ => .ok .nx ρ2

section
variable {K : PySem.W.Frag} {T : VT} {hid : Addr → Prop} {B σ σ' : L2.St} {ρ ρ' : R} {H : Hp}
/-- a new list goes into a slot, and stays its own -/
theorem SR.putOwn (S : SR K T hid B H σ ρ) {i : Nat} {a : Addr} {xs : List V} {ds : List PyData} (hi : i < ρ.length) (ha : H a = none) (hr : RpAll K (Fz hid σ ρ H) xs ds) :
    SR K T hid B (L2.upd H a (.lst xs)) (σ.set i (some (.ref a))) (ρ.set i (.own ds)) ∧ Ext hid σ ρ H (σ.set i (some (.ref a))) (ρ.set i (.own ds)) (L2.upd H a (.lst xs)) := by
  have iσ : i < σ.length := by rw [S.len]; exact hi
  have cases' : ∀ j b, ownAt (σ.set i (some (.ref a))) (ρ.set i (.own ds)) j b → (j = i ∧ b = a) ∨ (j ≠ i ∧ ownAt σ ρ j b) := fun j b h => by
    obtain ⟨h1, es, h2⟩ := h
    by_cases c : j = i
    · subst c
      rw [List.getElem?_set, if_pos rfl, if_pos iσ] at h1
      cases h1
      exact .inl ⟨rfl, rfl⟩
    · have c' : i ≠ j := fun z => c z.symm
      rw [List.getElem?_set_ne c'] at h1 h2
      exact .inr ⟨c, h1, es, h2⟩
  have nO : ∀ b, Oa hid σ ρ b → b ≠ a := fun b h z => by
    obtain ⟨o, e⟩ := S.dom b h
    rw [z, ha] at e
    cases e
  have sm : Same (Fz hid σ ρ H) (Fz hid (σ.set i (some (.ref a))) (ρ.set i (.own ds)) (L2.upd H a (.lst xs))) := fun b o e => by
    obtain ⟨n, e⟩ := fz_some e
    have nb : b ≠ a := ne_of_none e ha
    have no : ¬ Oa hid (σ.set i (some (.ref a))) (ρ.set i (.own ds)) b := fun z => by
      rcases z with z | ⟨j, z⟩
      · exact n (.inl z)
      · rcases cases' j b z with ⟨_, z⟩ | ⟨_, z⟩
        · exact nb z
        · exact n (.inr ⟨j, z⟩)
    exact (fz_out no).trans ((upd_ne nb).trans e)
  have sm2 : Same H (L2.upd H a (.lst xs)) := fun b o e => by rw [upd_ne (ne_of_none e ha)]; exact e
  refine ⟨⟨by simp [S.len], fun j s e => ?_, fun j k b h1 h2 => ?_, fun j b h => ?_, fun b h => ?_, fun j es e => ?_⟩, sm, fun b h => upd_ne (nO b (.inl h))⟩
  · by_cases c : i = j
    · subst c
      rw [List.getElem?_set, if_pos rfl, if_pos hi] at e
      cases e
      exact ⟨_, by rw [List.getElem?_set, if_pos rfl, if_pos iσ], .own upd_same (hr.mono sm)⟩
    · rw [List.getElem?_set_ne c] at e
      obtain ⟨o, e1, r⟩ := S.rel j s e
      exact ⟨o, by rw [List.getElem?_set_ne c]; exact e1, r.mono sm sm2⟩
  · rcases cases' j b h1 with ⟨e1, e2⟩ | ⟨e1, q1⟩
    · rcases cases' k b h2 with ⟨e3, _⟩ | ⟨_, q2⟩
      · rw [e1, e3]
      · exact absurd e2 (nO b (.inr ⟨k, q2⟩))
    · rcases cases' k b h2 with ⟨_, e2⟩ | ⟨_, q2⟩
      · exact absurd e2 (nO b (.inr ⟨j, q1⟩))
      · exact S.one j k b q1 q2
  · rcases cases' j b h with ⟨_, e2⟩ | ⟨_, q⟩
    · exact fun z => nO b (.inl z) e2
    · exact S.sep j b q
  · obtain ⟨o, e⟩ := S.hh b h
    exact ⟨o, sm2 _ _ e⟩
  · by_cases c : i = j
    · subst c
      rw [List.getElem?_set, if_pos rfl, if_pos hi] at e
      cases e
    · rw [List.getElem?_set_ne c] at e ⊢
      exact S.bor j es e
def Sl.plain : Sl → Bool
  | .own _ => false
  | .bor _ => false
  | _ => true
theorem Sl.plain_not {s : Sl} (h : s.plain = true) : ∀ ds, s ≠ .own ds ∧ s ≠ .bor ds := fun ds => by
  cases s <;> simp [Sl.plain] at h ⊢
/-- slots that are no own lists are exchanged -/
theorem SR.swap (S : SR K T hid B H σ ρ) (hl : σ'.length = ρ'.length)
    (h : ∀ (i : Nat) (s : Sl), ρ'[i]? = some s → (ρ[i]? = some s ∧ σ'[i]? = σ[i]?) ∨ (s.plain = true ∧ (∀ t, ρ[i]? = some t → t.plain = true) ∧ ∃ o, σ'[i]? = some o ∧ SlV K T (Fz hid σ ρ H) H o s))
    (hlen : ρ.length ≤ ρ'.length) : SR K T hid B H σ' ρ' ∧ Oa hid σ' ρ' = Oa hid σ ρ := by
  have hown : ∀ i a, ownAt σ' ρ' i a ↔ ownAt σ ρ i a := fun i a => by
    constructor
    · rintro ⟨h1, ds, h2⟩
      rcases h2 with h2 | h2
      · rcases h i _ h2 with ⟨q1, q2⟩ | ⟨q, _⟩
        · exact ⟨by rw [← q2]; exact h1, ds, .inl q1⟩
        · cases q
      · rcases h i _ h2 with ⟨q1, q2⟩ | ⟨q, _⟩
        · exact ⟨by rw [← q2]; exact h1, ds, .inr q1⟩
        · cases q
    · rintro ⟨h1, ds, h2⟩
      have lt : i < ρ.length := by
        rcases h2 with h2 | h2 <;> exact (List.getElem?_eq_some_iff.mp h2).1
      have e : ∃ s, ρ'[i]? = some s := ⟨_, List.getElem?_eq_getElem (Nat.lt_of_lt_of_le lt hlen)⟩
      obtain ⟨s, e⟩ := e
      rcases h i s e with ⟨q1, q2⟩ | ⟨_, q, _⟩
      · refine ⟨by rw [q2]; exact h1, ds, ?_⟩
        rcases h2 with h2 | h2
        · rw [q1] at h2
          rw [e]
          exact .inl h2
        · rw [q1] at h2
          rw [e]
          exact .inr h2
      · rcases h2 with h2 | h2
        · exact absurd (q _ h2) (by simp [Sl.plain])
        · exact absurd (q _ h2) (by simp [Sl.plain])
  have eo : Oa hid σ' ρ' = Oa hid σ ρ := by
    funext b
    exact propext (or_congr_right (exists_congr fun i => hown i b))
  refine ⟨⟨hl, fun i s e => ?_, fun i j a h1 h2 => S.one i j a ((hown i a).mp h1) ((hown j a).mp h2), fun i a z => S.sep i a ((hown i a).mp z), S.hh, fun i ds e => ?_⟩, eo⟩
  · show ∃ o, σ'[i]? = some o ∧ SlV K T (fz (Oa hid σ' ρ') H) H o s
    rw [eo]
    rcases h i s e with ⟨q1, q2⟩ | ⟨_, _, q⟩
    · obtain ⟨o, e1, r⟩ := S.rel i s q1
      exact ⟨o, q2.trans e1, r⟩
    · exact q
  · rcases h i _ e with ⟨q1, q2⟩ | ⟨q, _⟩
    · rw [q2]
      exact S.bor i ds q1
    · cases q
end

section
variable {X : Cx} {T : VT} {W : WX} {st : Stmt} {sts : List Stmt} {m n : MS} {f g : ME} {fs : ML} {a b e : Expr} {pos : Pos}
theorem snil : XSs X T W [] mNx := pss_nil.weak fun D σ H ⟨hid, B, ρ, S, q⟩ => ResS.here S q
theorem sone (h : XS X T W st m) : XSs X T W [st] m := pss_one h
theorem scons (h1 : XS X T W st m) (h2 : XSs X T W sts n) : XSs X T W (st :: sts) (mSeq m n) :=
  (pss_cons h1 h2).weak fun D σ H ⟨hid, B, ρ, S, q⟩ => ⟨hid, B, ρ, S, ResS.bindS q (fun ρ1 σ1 H1 S1 _ q1 => ⟨hid, B, ρ1, S1, q1⟩) (fun d ρ1 σ1 H1 v S1 _ r q1 => q1 σ1 H1 v S1 Ext.refl r)
    (fun ρ1 σ1 H1 S1 _ q1 => q1 σ1 H1 S1 Ext.refl) (fun ρ1 σ1 H1 S1 _ q1 => q1 σ1 H1 S1 Ext.refl)⟩
theorem spass : XS X T W (.Pass pos) mNx := ps_pass.weak fun D σ H ⟨hid, B, ρ, S, q⟩ => ResS.here S q
theorem sbreak : XS X T W (.Break pos) mBreak := ps_break.weak fun D σ H ⟨hid, B, ρ, S, q⟩ => q σ H S Ext.refl
theorem scontinue : XS X T W (.Continue pos) mCont := ps_continue.weak fun D σ H ⟨hid, B, ρ, S, q⟩ => q σ H S Ext.refl
theorem sret (h : XE X T W e f) : XS X T W (.Return (some e) pos) (mRet f) :=
  (ps_ret h).weak fun D σ H ⟨hid, B, ρ, S, q⟩ => ⟨hid, B, ρ, S, (ResS.bindE q).imp fun d ρ1 H1 S1 E1 q1 v r => q1 σ H1 v S1 Ext.refl r⟩
theorem sretN : XS X T W (.Return none pos) mRetN := ps_retN.weak fun D σ H ⟨hid, B, ρ, S, q⟩ => q σ H .non S Ext.refl .non
theorem sexpr (h : XE X T W e f) (hs : swapsWith e none pos.line X.env = pure false := by rfl) : XS X T W (.Expr e pos) (mDrop f) :=
  (ps_expr h hs).weak fun D σ H ⟨hid, B, ρ, S, q⟩ => ⟨hid, B, ρ, S, (ResS.bindE q).imp fun d ρ1 H1 S1 E1 q1 v r => q1 σ H1 S1 Ext.refl⟩
theorem sif {c : Expr} {xs ys : List Stmt} {tc : MT} (hc : XT X T W c tc) (ha : XSs X T W xs m) (hb : XSs X T W ys n) : XS X T W (.If c xs ys pos) (mIfS tc m n) :=
  (ps_if hc ha hb).weak fun D σ H ⟨hid, B, ρ, S, q⟩ => ⟨hid, B, ρ, S, (ResS.bindE q).imp fun k ρ1 H1 S1 E1 q1 => by
    cases k with
    | true => exact (if_pos rfl).mpr ⟨hid, B, ρ1, S1, q1⟩
    | false => exact (if_neg Bool.false_ne_true).mpr ⟨hid, B, ρ1, S1, q1⟩⟩
theorem sset (i : Nat) {x : Str} {pos' : Pos} (hN : X.N.Nodup) (he : XE X T W e f) (hi : X.N[i]? = some x := by rfl) (hx : Loc X.env.scope x := by first | exact Or.inl rfl | exact Or.inr rfl)
    (hs : swapsWith e (some (.Name x pos')) pos.line X.env = pure false := by rfl) (hf : X.fn x = true ∨ X.env.scope.names.lookup x = some .local := by first | exact .inl rfl | exact .inr rfl) : XS X T W (.Assign [.Name x pos'] e pos) (mSet i f) :=
  (ps_set hN hi hx he hs hf).weak fun D σ H ⟨hid, B, ρ, S, q⟩ => ⟨hid, B, ρ, S, (ResS.bindE q).imp fun d ρ1 H1 S1 E1 q1 v r => by
    obtain ⟨S2, E2⟩ := S1.put (i := i) (Sl.plain_not (s := .val d) rfl) (.val r)
    exact q1 _ _ S2 E2⟩
end

/-! ### targets -/
def rdG (K : PySem.W.Frag) (T : VT) (ts : List Nat) (g : MG) : TG := fun v σ H Q => ∃ hid B ρ d ρ', SR K T hid B H σ ρ ∧ Rp K (Fz hid σ ρ H) v d ∧ g d ρ = some ρ' ∧
  ∀ σ', SR K T hid B H σ' ρ' → Ext hid σ ρ H σ' ρ' H → σ'.length = σ.length → (∀ j : Nat, j ∉ ts → σ'[j]? = σ[j]?) → Q σ' H
def rdGs (K : PySem.W.Frag) (T : VT) (ts : List Nat) (gs : List MG) : TGs := fun vs σ H Q => ∃ hid B ρ ds ρ', SR K T hid B H σ ρ ∧ RpAll K (Fz hid σ ρ H) vs ds ∧ gSeq gs ds ρ = some ρ' ∧
  ∀ σ', SR K T hid B H σ' ρ' → Ext hid σ ρ H σ' ρ' H → σ'.length = σ.length → (∀ j : Nat, j ∉ ts → σ'[j]? = σ[j]?) → Q σ' H
abbrev XG (X : Cx) (T : VT) (e : Expr) (ts : List Nat) (g : MG) : Prop := PG X e (rdG X.K T ts g)
abbrev XGs (X : Cx) (T : VT) (es : List Expr) (ts : List Nat) (gs : List MG) : Prop := PGs X es (rdGs X.K T ts gs)
theorem _root_.L2.PGs.weak {X : Cx} {es : List Expr} {t t' : TGs} (h : PGs X es t) (w : ∀ vs σ H Q, t' vs σ H Q → t vs σ H Q) : PGs X es t' :=
  ⟨fun pins s σ H vs us Q I r q => h.run pins s σ H vs us Q I r (w vs σ H Q q)⟩
section
variable {X : Cx} {T : VT} {W : WX} {pos : Pos}
theorem gnm (i : Nat) {x : Str} (hN : X.N.Nodup) (hi : X.N[i]? = some x := by rfl) (hx : Loc X.env.scope x := by first | exact Or.inl rfl | exact Or.inr rfl)
    (hf : X.fn x = true ∨ X.env.scope.names.lookup x = some .local := by first | exact .inl rfl | exact .inr rfl) : XG X T (.Name x pos) [i] (gNm i) :=
  (pg_name hN hi hx hf).weak fun v σ H Q ⟨hid, B, ρ, d, ρ', S, r, e, q⟩ => by
    cases e
    obtain ⟨S2, E2⟩ := S.put (i := i) (Sl.plain_not (s := .val d) rfl) (.val r)
    exact q _ S2 E2 (List.length_set ..) fun j hj => List.getElem?_set_ne fun z => hj (by simp [z])
theorem gsnil : XGs X T [] [] [] := pgs_nil.weak fun vs σ H Q ⟨hid, B, ρ, ds, ρ', S, r, e, q⟩ => by
  cases r with
  | nil =>
    cases e
    exact ⟨rfl, q σ S Ext.refl rfl fun _ _ => rfl⟩
  | cons r rs => cases e
theorem gscons {e : Expr} {es : List Expr} {ts us : List Nat} {g : MG} {gs : List MG} (h1 : XG X T e ts g) (h2 : XGs X T es us gs)
    (hs : (assignEach (e :: es) X.env).map (·.2) = assign e X.env :: (assignEach es X.env).map (·.2) := by rfl) : XGs X T (e :: es) (ts ++ us) (g :: gs) :=
  (pgs_cons h1 h2 hs).weak fun vs σ H Q ⟨hid, B, ρ, ds, ρ', S, r, e, q⟩ => by
    cases r with
    | nil => cases e
    | @cons v vs d ds r rs =>
      have e' : (g d ρ).bind (gSeq gs ds) = some ρ' := e
      cases h : g d ρ with
      | none => rw [h] at e'; cases e'
      | some ρ1 =>
        rw [h] at e'
        refine ⟨_, _, rfl, hid, B, ρ, d, ρ1, S, r, h, fun σ1 S1 E1 l1 k1 => ⟨hid, B, ρ1, ds, ρ', S1, rs.mono E1.same, e', fun σ2 S2 E2 l2 k2 => q σ2 S2 (E1.trans E2) (l2.trans l1) fun j hj => ?_⟩⟩
        rw [k2 j fun z => hj (List.mem_append_right _ z), k1 j fun z => hj (List.mem_append_left _ z)]
theorem gSeq_length : ∀ {gs : List MG} {ds : List PyData} {ρ ρ' : R}, gSeq gs ds ρ = some ρ' → ds.length = gs.length
  | [], [], _, _, _ => rfl
  | g :: gs, d :: ds, ρ, ρ', h => by
    have h' : (g d ρ).bind (gSeq gs ds) = some ρ' := h
    cases e : g d ρ with
    | none => rw [e] at h'; cases h'
    | some ρ1 =>
      rw [e] at h'
      exact congrArg (· + 1) (gSeq_length h')
  | [], _ :: _, _, _, h => by cases h
  | _ :: _, [], _, _, h => by cases h
theorem gtup {es : List Expr} {k : Nat} {ts : List Nat} {gs : List MG} (hc : X.calm = true) (h : XGs X T es ts gs) (hn : (assignEach es X.env).length = gs.length := by rfl)
    (hst : (assignEach es X.env).findIdx? (·.1) = none := by rfl) : XG X T (.Tuple es k pos) ts (gTp gs) :=
  (pg_tup hc h hn hst).weak fun v σ H Q ⟨hid, B, ρ, d, ρ', S, r, e, q⟩ => by
    cases d with
    | tuple ds =>
      cases r with
      | tup h1 h2 =>
        have e : gSeq gs ds ρ = some ρ' := e
        exact ⟨_, _, rfl, seqT_same fz_le h1, by rw [h2.length]; exact gSeq_length e, hid, B, ρ, ds, ρ', S, h2, e, q⟩
    | _ => cases e
theorem sasg {tg e : Expr} {ts : List Nat} {g : MG} {f : ME} (he : XE X T W e f) (hg : XG X T tg ts g) (hs : swapsWithSole [tg] e pos.line X.env = pure false := by rfl) (hw : swappedStores [tg] e X.env = pure none := by rfl)
    (h1 : (assignEach [tg] X.env).map (·.2) = [assign tg X.env] := by rfl) : XS X T W (.Assign [tg] e pos) (mAsg g f) :=
  (ps_asg he hg hs hw h1).weak fun D σ H ⟨hid, B, ρ, S, q⟩ => ⟨hid, B, ρ, S, (ResS.bindE q).imp fun d ρ1 H1 S1 E1 q1 v r => by
    cases h : g d ρ1 with
    | none => rw [h] at q1; exact q1.elim
    | some ρ2 =>
      rw [h] at q1
      exact ⟨hid, B, ρ1, d, ρ2, S1, r, h, fun σ' S' E' _ _ => q1 σ' H1 S' E'⟩⟩
theorem spar (i j : Nat) {x y : Str} {a b : Expr} {f g : ME} {px py pt : Pos} {kt k2 pt2} (hc : X.calm = true) (hN : X.N.Nodup) (ha : XE X T W a f) (hb : XE X T W b g) (hi : X.N[i]? = some x := by rfl) (hj : X.N[j]? = some y := by rfl) (hij : i ≠ j := by decide)
    (hx : X.env.scope.names.lookup x = some .local := by rfl) (hy : X.env.scope.names.lookup y = some .local := by rfl)
    (hw : swappedStores [.Tuple [.Name x px, .Name y py] kt pt] (.Tuple [a, b] k2 pt2) X.env = pure (some [x, y]) := by rfl)
    (hs : swapsWithSole [.Tuple [.Name x px, .Name y py] kt pt] (.Tuple [a, b] k2 pt2) pos.line X.env = pure false := by rfl)
    (he1 : starEach [a, b] X.env = (false, eval a X.env) :: starEach [b] X.env := by rfl) (he2 : starEach [b] X.env = (false, eval b X.env) :: starEach [] X.env := by rfl) :
    XS X T W (.Assign [.Tuple [.Name x px, .Name y py] kt pt] (.Tuple [a, b] k2 pt2) pos) (mSet2 i j f g) :=
  (ps_par hc hN hi hj hij hx hy (pa_cons ha (pa_cons hb pa_nil he2) he1) hw hs).weak fun D σ H ⟨hid, B, ρ, S, q⟩ =>
    ⟨hid, B, ρ, S, (ResS.bindE q).imp fun d ρ1 H1 S1 E1 q1 v r => ⟨hid, B, ρ1, S1, (ResS.bindE q1).imp fun e ρ2 H2 S2 E2 q2 w r2 => ⟨v, w, rfl, by
      obtain ⟨S3, E3⟩ := S2.put (i := i) (Sl.plain_not (s := .val d) rfl) (.val (r.mono E2.same))
      obtain ⟨S4, E4⟩ := S3.put (i := j) (Sl.plain_not (s := .val e) rfl) (.val (r2.mono E3.same))
      exact q2 _ _ S4 (E3.trans E4)⟩⟩⟩
/-- name = a new list, which stays its own -/
theorem ssetO (i : Nat) {x : Str} {pos' : Pos} {e : Expr} {fs : ML} (hN : X.N.Nodup) (he : XL X T W e fs) (hi : X.N[i]? = some x := by rfl) (hx : Loc X.env.scope x := by first | exact Or.inl rfl | exact Or.inr rfl)
    (hs : swapsWith e (some (.Name x pos')) pos.line X.env = pure false := by rfl) (hf : X.fn x = true ∨ X.env.scope.names.lookup x = some .local := by first | exact .inl rfl | exact .inr rfl) : XS X T W (.Assign [.Name x pos'] e pos) (mSetO i fs) :=
  (ps_set hN hi hx he hs hf).weak fun D σ H ⟨hid, B, ρ, S, q⟩ => ⟨hid, B, ρ, S, (ResS.bindE q).imp fun ds ρ1 H1 S1 E1 q1 a xs ha r => by
    by_cases z : i < ρ1.length
    · rw [if_pos z] at q1
      obtain ⟨S2, E2⟩ := S1.putOwn z ha r
      exact q1 _ _ S2 E2
    · rw [if_neg z] at q1
      exact q1.elim⟩
end

/-! ### what is walked -/
def ItOk (K : PySem.W.Frag) (F0 P : Hp) (J : It) (ds : List PyData) : Prop :=
  Walk J ds.length (fun H => Same P H) fun i H x H' => Same H H' ∧ ∀ (O : Addr → Prop) (d : PyData), ds[i]? = some d → (∀ b, O b → ∃ o, H b = some o) → Same F0 (fz O H) → Rp K (fz O H') x d
def rdI (K : PySem.W.Frag) (T : VT) (W : WX) (f : ML) : TI := fun σ H Rk => ∃ hid B ρ, SR K T hid B H σ ρ ∧ Res K T W hid B σ ρ H (f ρ) fun ds ρ' H' => ∀ J, ItOk K (Fz hid σ ρ' H') (Fz hid σ ρ' H') J ds → Rk J H'
abbrev XI (X : Cx) (T : VT) (W : WX) (tg e : Expr) (f : ML) : Prop := PI X tg e (rdI X.K T W f)
section
variable {X : Cx} {tg l : Expr} {tl : TE} {T : VT} {W : WX}
theorem pi_any (hl : PE X l tl) : PI X tg l fun σ H Rk => tl σ H fun x H1 => (∃ a, x = .ref a ∧ (∃ xs, SqL X.K H1 a xs) ∧ Rk (Itl X.K a) H1) ∨ ∃ a, x = .ref a ∧ (∃ xs, SqT X.K H1 a xs) ∧ Rk (Itt X.K a) H1 := by
  constructor
  intro pins s σ H Rk I h
  refine thn (hl.run pins s σ H _ I h) fun v s1 ⟨x, H1, I1, r1, q1⟩ => ?_
  rcases q1 with ⟨a, rfl, ⟨xs, hq⟩, q⟩ | ⟨a, rfl, ⟨xs, hq⟩, q⟩
  · cases r1
    obtain ⟨its, rv, p, hz⟩ := I1.list hq
    refine wpAny_pyIter_list p.isList ⟨s1.heap.objs.size, [s1.heap.objs.size], _, _, H1, rfl, I1.kept (t' := s1.toks) fun b o e => Heap.get?_push_of_some _ e, turn_list a _, ⟨_, Heap.get?_push_size _ rfl, rfl, rfl⟩, fun b hb => ?_, q⟩
    rw [List.mem_singleton.mp hb]
    exact I1.fpOk (Nat.le_refl _) I1.fresh
  · cases r1
    obtain ⟨its, rv, p, hz⟩ := I1.tuple hq
    refine wpAny_pyIter_tuple (show s1.heap.IsTuple a its.toArray from p) ⟨s1.heap.objs.size, [s1.heap.objs.size], _, _, H1, rfl, I1.kept (t' := s1.toks) fun b o e => Heap.get?_push_of_some _ e, turn_tuple a _, ⟨_, Heap.get?_push_size _ rfl, rfl, rfl⟩, fun b hb => ?_, q⟩
    rw [List.mem_singleton.mp hb]
    exact I1.fpOk (Nat.le_refl _) I1.fresh
def seqD : PyData → Option (List PyData)
  | .list ds => some ds
  | .tuple ds => some ds
  | _ => none
def mIt (f : ME) : ML := fun ρ => (f ρ).bind fun d ρ1 => Oc.opt (seqD d) ρ1
theorem itl_ok {K : PySem.W.Frag} {F0 : Hp} {a : Addr} {xs : List V} {ds : List PyData} (h1 : F0 a = some (.lst xs)) (h2 : RpAll K F0 xs ds) : ItOk K F0 F0 (Itl K a) ds := by
  show Walk _ ds.length _ _
  rw [← h2.length]
  refine walk_list.mono (fun H e => SqL.of (e _ _ h1)) fun i H x H' hi hG ⟨e1, e2⟩ => ?_
  subst e1
  refine ⟨Same.refl _, fun O d hd hO hF => ?_⟩
  obtain ⟨v, e3, r⟩ := h2.get hd
  rw [e2] at e3
  cases e3
  exact r.mono hF
theorem itt_ok {K : PySem.W.Frag} {F0 : Hp} {a : Addr} {xs : List V} {ds : List PyData} (h1 : SqT K F0 a xs) (h2 : RpAll K F0 xs ds) : ItOk K F0 F0 (Itt K a) ds := by
  show Walk _ ds.length _ _
  rw [← h2.length]
  refine walk_tup.mono (fun H e => seqT_same e h1) fun i H x H' hi hG ⟨e1, e2⟩ => ?_
  subst e1
  refine ⟨Same.refl _, fun O d hd hO hF => ?_⟩
  obtain ⟨v, e3, r⟩ := h2.get hd
  rw [e2] at e3
  cases e3
  exact r.mono hF
theorem iany {f : ME} (h : XE X T W l f) : XI X T W tg l (mIt f) := (pi_any h).weak fun σ H Rk ⟨hid, B, ρ, S, q⟩ => ⟨hid, B, ρ, S, (Res.bind q).imp fun d ρ1 H1 S1 E1 q1 x rx => by
  obtain ⟨ds, hd, q2⟩ := Res.opt S1 q1
  have q3 := q2 H1 (Same.refl _)
  cases rx with
  | lst h1 h2 =>
    cases hd
    exact .inl ⟨_, rfl, ⟨_, SqL.of (fz_le _ _ h1)⟩, q3 _ (itl_ok h1 h2)⟩
  | tup h1 h2 =>
    cases hd
    exact .inr ⟨_, rfl, ⟨_, seqT_same fz_le h1⟩, q3 _ (itt_ok h1 h2)⟩
  | _ => cases hd⟩
/-- sign by sign -/
def signsD : PyData → Option (List PyData)
  | .str x => some (x.cps.toList.map fun c => .str ⟨#[c]⟩)
  | _ => none
def mItS (f : ME) : ML := fun ρ => (f ρ).bind fun d ρ1 => Oc.opt (signsD d) ρ1
theorem istr {f : ME} (h : XE X T W l f) : XI X T W tg l (mItS f) := (pi_str h).weak fun σ H Rk ⟨hid, B, ρ, S, q⟩ => ⟨hid, B, ρ, S, (Res.bind q).imp fun d ρ1 H1 S1 E1 q1 x rx => by
  obtain ⟨ds, hd, q2⟩ := Res.opt S1 q1
  have q3 := q2 H1 (Same.refl _)
  cases rx with
  | str z =>
    cases hd
    refine ⟨z, rfl, q3 _ ?_⟩
    show Walk _ (List.length _) _ _
    rw [List.length_map, Array.length_toList]
    refine walk_str.mono (fun _ _ => trivial) fun i H x H' hi hG ⟨e1, c, e2, e3⟩ => ?_
    subst e1 e3
    refine ⟨Same.refl _, fun O d hd hO hF => ?_⟩
    rw [List.getElem?_map, Array.getElem?_toList, e2] at hd
    cases hd
    exact .str _
  | _ => cases hd⟩
def rng1 (i : Int) : Bool := decide (i.natAbs ≤ 4611686018427387903)
theorem rng1_ok {i : Int} (h : rng1 i = true) : -(2 ^ 62) ≤ i ∧ i < 2 ^ 62 := by
  have z : i.natAbs ≤ 4611686018427387903 := of_decide_eq_true h
  constructor <;> omega
def rngD (lo : Int) (n : Nat) : List PyData := (List.range n).map fun i => .int (lo + (i : Nat))
def range1D : List PyData → Option (List PyData)
  | [.int j] => if rng1 j then some (rngD 0 j.toNat) else none
  | _ => none
def range2D : List PyData → Option (List PyData)
  | [.int i, .int j] => if rng1 i && rng1 j then some (rngD i (j - i).toNat) else none
  | _ => none
def mItA (op : List PyData → Option (List PyData)) (fs : ML) : ML := fun ρ => (fs ρ).bind fun ds ρ1 => Oc.opt (op ds) ρ1
theorem range1_of {K : PySem.W.Frag} {F : Hp} {ds es : List PyData} {xs : List V} (h : range1D ds = some es) (r : RpAll K F xs ds) : ∃ j : Int, xs = [.int j] ∧ (-(2 ^ 62) ≤ j ∧ j < 2 ^ 62) ∧ es = rngD 0 j.toNat := by
  unfold range1D at h
  split at h
  · split at h
    · rename_i j hj
      cases h
      cases r with
      | cons r1 r2 => cases r1; cases r2; exact ⟨_, rfl, rng1_ok hj, rfl⟩
    · cases h
  · cases h
theorem range2_of {K : PySem.W.Frag} {F : Hp} {ds es : List PyData} {xs : List V} (h : range2D ds = some es) (r : RpAll K F xs ds) :
    ∃ i j : Int, xs = [.int i, .int j] ∧ (-(2 ^ 62) ≤ i ∧ i < 2 ^ 62 ∧ -(2 ^ 62) ≤ j ∧ j < 2 ^ 62) ∧ es = rngD i (j - i).toNat := by
  unfold range2D at h
  split at h
  · split at h
    · rename_i i j hj
      cases h
      obtain ⟨h1, h2⟩ := (Bool.and_eq_true _ _).mp hj
      cases r with
      | cons r1 r2 =>
        cases r1
        cases r2 with
        | cons r3 r4 =>
          cases r3; cases r4
          exact ⟨_, _, rfl, ⟨(rng1_ok h1).1, (rng1_ok h1).2, rng1_ok h2⟩, rfl⟩
    · cases h
  · cases h
theorem itr_ok {K : PySem.W.Frag} {F0 : Hp} (lo : Int) (n : Nat) : ItOk K F0 F0 (Itr lo n) (rngD lo n) := by
  show Walk _ (List.length _) _ _
  have e : (rngD lo n).length = n := by simp [rngD]
  rw [e]
  refine walk_range.mono (fun _ _ => trivial) fun i H x H' hi hG ⟨e1, e2⟩ => ?_
  subst e1 e2
  refine ⟨Same.refl _, fun O d hd hO hF => ?_⟩
  unfold rngD at hd
  rw [List.getElem?_map, List.getElem?_range hi] at hd
  cases hd
  exact .int _
variable {a b : Expr} {fs : ML} {p pos : Pos}
theorem irng1 (hg : Gl X "range") (hm : X.mg "range" = none) (ha : XD X T W [a] fs) (hs : starEach [a] X.env = [(false, eval a X.env)] := by rfl) : XI X T W tg (.Call (.Name "range" p) [a] [] pos) (mItA range1D fs) :=
  (pi_range1 hg hm ha hs).weak fun σ H Rk ⟨hid, B, ρ, S, q⟩ => ⟨hid, B, ρ, S, (Res.bind q).imp fun ds ρ1 H1 S1 E1 q1 xs rxs => by
    obtain ⟨es, hd, q2⟩ := Res.opt S1 q1
    obtain ⟨j, rfl, hj, rfl⟩ := range1_of hd rxs
    exact ⟨_, rfl, hj.1, hj.2, q2 H1 (Same.refl _) _ (itr_ok 0 _)⟩⟩
theorem irng2 (hg : Gl X "range") (hm : X.mg "range" = none) (ha : XD X T W [a, b] fs) (hs : starEach [a, b] X.env = [(false, eval a X.env), (false, eval b X.env)] := by rfl) (hs2 : starEach [b] X.env = [(false, eval b X.env)] := by rfl) :
    XI X T W tg (.Call (.Name "range" p) [a, b] [] pos) (mItA range2D fs) :=
  (pi_range2 hg hm ha hs hs2).weak fun σ H Rk ⟨hid, B, ρ, S, q⟩ => ⟨hid, B, ρ, S, (Res.bind q).imp fun ds ρ1 H1 S1 E1 q1 xs rxs => by
    obtain ⟨es, hd, q2⟩ := Res.opt S1 q1
    obtain ⟨i, j, rfl, hj, rfl⟩ := range2_of hd rxs
    exact ⟨_, _, rfl, hj, q2 H1 (Same.refl _) _ (itr_ok i _)⟩⟩
end

/-! ### loops -/
def loopS (g : MG) (m : MS) : List PyData → MS
  | [], ρ => .ok .nx ρ
  | d :: ds, ρ => match g d ρ with
    | none => .no
    | some ρ1 => (m ρ1).bind fun fl ρ2 => match fl with
      | .nx => loopS g m ds ρ2
      | .ct => loopS g m ds ρ2
      | .bk => .ok .nx ρ2
      | .rt d => .ok (.rt d) ρ2
def mFor (fs : ML) (g : MG) (m : MS) : MS := fun ρ => (fs ρ).bind fun ds ρ1 => loopS g m ds ρ1
def whileS (c : MT) (m : MS) : Nat → MS
  | 0, _ => .no
  | n + 1, ρ => (c ρ).bind fun b ρ1 => if b = true then (m ρ1).bind fun fl ρ2 => match fl with
      | .nx => whileS c m n ρ2
      | .ct => whileS c m n ρ2
      | .bk => .ok .nx ρ2
      | .rt d => .ok (.rt d) ρ2
    else .ok .nx ρ1
open Classical in
noncomputable def mWhile (c : MT) (m : MS) : MS := fun ρ => if h : ∃ n, whileS c m n ρ ≠ .no then whileS c m (Classical.choose h) ρ else .no
section
variable {X : Cx} {T : VT} {W : WX} {pos : Pos}
theorem sfor {tg iter : Expr} {body : List Stmt} {ts : List Nat} {fs : ML} {g : MG} {m : MS} (hp : PassesOwn (model X.prog X.w) X.A X.env X.xe) (hc : X.calm = true) (hi : XI X T W tg iter fs) (hg : XG X T tg ts g) (hb : XSs X T W body m)
    (hs : ∀ x, foldedSetIterable iter X.env x = pure x := by intro _; rfl) : XS X T W (.For tg iter body [] pos) (mFor fs g m) :=
  (ps_for hp hc hi hg hb hs).weak fun D σ H ⟨hid, B, ρ, S, q⟩ => ⟨hid, B, ρ, S, (ResS.bindE q).imp fun ds ρ1 H1 S1 E1 q1 J hJ => by
    refine for_it hJ (fun i σ' H' => ∃ ρ', SR X.K T hid B H' σ' ρ' ∧ Ext hid σ ρ1 H1 σ' ρ' H' ∧ ResS X.K T W hid B σ' ρ' H' (loopS g m (ds.drop i) ρ') D) ⟨ρ1, S1, Ext.refl, q1⟩ (fun i σ' H' _ ⟨ρ', _, E', _⟩ => E'.same.trans fz_le) ?_ ?_
    · rintro i x σ' H' H2 hi ⟨ρ', S', E', q'⟩ ⟨sm, hy⟩
      have hd : ds[i]? = some ds[i] := List.getElem?_eq_getElem hi
      have rx := hy (Oa hid σ' ρ') _ hd S'.dom E'.same
      rw [List.drop_eq_getElem_cons hi] at q'
      have q'' : ResS X.K T W hid B σ' ρ' H' (match g ds[i] ρ' with
        | none => .no
        | some ρ1 => (m ρ1).bind fun fl ρ2 => match fl with
          | .nx => loopS g m (ds.drop (i + 1)) ρ2
          | .ct => loopS g m (ds.drop (i + 1)) ρ2
          | .bk => .ok .nx ρ2
          | .rt d => .ok (.rt d) ρ2) D := q'
      cases hgd : g ds[i] ρ' with
      | none => rw [hgd] at q''; exact q''.elim
      | some ρ2 =>
        rw [hgd] at q''
        have S2 := S'.grow sm
        have E2 := S'.ext sm
        refine ⟨hid, B, ρ', _, ρ2, S2, rx, hgd, fun σ2 S3 E3 _ _ => ⟨hid, B, ρ2, S3, ?_⟩⟩
        have E4 := (E'.trans E2).trans E3
        refine ResS.bindS (ResS.step (E2.trans E3) q'') (fun ρ4 σ4 H4 S4 E5 q4 => ?_) (fun d ρ4 σ4 H4 v S4 E5 r q4 => ?_) (fun ρ4 σ4 H4 S4 E5 q4 => ?_) (fun ρ4 σ4 H4 S4 E5 q4 => ?_)
        · exact ⟨ρ4, S4, E4.trans E5, q4⟩
        · exact q4 σ4 H4 v S4 Ext.refl r
        · exact ResS.here S4 q4
        · exact ⟨ρ4, S4, E4.trans E5, q4⟩
    · rintro σ' H' ⟨ρ', S', E', q'⟩
      rw [List.drop_length] at q'
      exact ResS.here S' q'⟩
theorem swhile {c : Expr} {body : List Stmt} {tc : MT} {m : MS} (hp : PassesOwn (model X.prog X.w) X.A X.env X.xe) (hc : XT X T W c tc) (hb : XSs X T W body m) : XS X T W (.While c body [] pos) (mWhile tc m) :=
  (ps_while hp hc hb).weak fun D σ H ⟨hid, B, ρ, S, q⟩ => by
    unfold mWhile at q
    split at q
    · rename_i h
      refine ⟨fun n σ' H' => ∃ ρ', SR X.K T hid B H' σ' ρ' ∧ ResS X.K T W hid B σ' ρ' H' (whileS tc m n ρ') D, ⟨_, ρ, S, q⟩, ?_⟩
      rintro n σ' H' ⟨ρ', S', q'⟩
      cases n with
      | zero => exact q'.elim
      | succ n =>
        refine ⟨hid, B, ρ', S', (ResS.bindE q').imp fun b ρ1 H1 S1 E1 q1 => ?_⟩
        cases b with
        | false => exact (if_neg Bool.false_ne_true).mpr (ResS.here S1 q1)
        | true =>
          refine (if_pos rfl).mpr ⟨fun σ2 H2 => ∃ ρ2, SR X.K T hid B H2 σ2 ρ2 ∧ ResS X.K T W hid B σ2 ρ2 H2 (whileS tc m n ρ2) D, fun σ2 H2 w => ⟨n, Nat.lt_succ_self n, w⟩, hid, B, ρ1, S1, ?_⟩
          exact ResS.bindS q1 (fun ρ4 σ4 H4 S4 E5 q4 => ⟨ρ4, S4, q4⟩) (fun d ρ4 σ4 H4 v S4 E5 r q4 => q4 σ4 H4 v S4 Ext.refl r) (fun ρ4 σ4 H4 S4 E5 q4 => ResS.here S4 q4) (fun ρ4 σ4 H4 S4 E5 q4 => ⟨ρ4, S4, q4⟩)
    · exact q.elim
end
/-- a while's outcome by any number of turns that is enough -/
theorem whileS_mono {c : MT} {m : MS} : ∀ {n k : Nat} {ρ : R}, n ≤ k → whileS c m n ρ ≠ .no → whileS c m k ρ = whileS c m n ρ
  | 0, _, _, _, h => absurd rfl h
  | n + 1, 0, _, hk, _ => absurd hk (by omega)
  | n + 1, k + 1, ρ, hk, h => by
    have h' : (c ρ).bind (fun b ρ1 => if b = true then (m ρ1).bind fun fl ρ2 => match fl with
      | .nx => whileS c m n ρ2
      | .ct => whileS c m n ρ2
      | .bk => .ok .nx ρ2
      | .rt d => .ok (.rt d) ρ2
    else .ok .nx ρ1) ≠ .no := h
    show (c ρ).bind (fun b ρ1 => if b = true then (m ρ1).bind fun fl ρ2 => match fl with
      | .nx => whileS c m k ρ2
      | .ct => whileS c m k ρ2
      | .bk => .ok .nx ρ2
      | .rt d => .ok (.rt d) ρ2
    else .ok .nx ρ1) = (c ρ).bind (fun b ρ1 => if b = true then (m ρ1).bind fun fl ρ2 => match fl with
      | .nx => whileS c m n ρ2
      | .ct => whileS c m n ρ2
      | .bk => .ok .nx ρ2
      | .rt d => .ok (.rt d) ρ2
    else .ok .nx ρ1)
    cases hc : c ρ with
    | no => rfl
    | ex _ _ => rfl
    | ok b ρ1 =>
      rw [hc] at h'
      simp only [Oc.bind] at h' ⊢
      cases b with
      | false => rfl
      | true =>
        simp only [if_true] at h' ⊢
        cases hm : m ρ1 with
        | no => rfl
        | ex _ _ => rfl
        | ok fl ρ2 =>
          rw [hm] at h'
          simp only at h' ⊢
          cases fl with
          | nx => exact whileS_mono (by omega) h'
          | ct => exact whileS_mono (by omega) h'
          | bk => rfl
          | rt d => rfl
theorem mWhile_of {c : MT} {m : MS} {n : Nat} {ρ : R} (h : whileS c m n ρ ≠ .no) : mWhile c m ρ = whileS c m n ρ := by
  unfold mWhile
  have e : ∃ n, whileS c m n ρ ≠ .no := ⟨n, h⟩
  rw [dif_pos e]
  have h2 := Classical.choose_spec e
  rcases Nat.le_total n (Classical.choose e) with l | l
  · exact whileS_mono l h
  · exact (whileS_mono l h2).symm
end VL

set_option Elab.async false
set_option linter.all false
set_option maxRecDepth 100000
set_option maxHeartbeats 4000000
/-! V3: list comprehensions; what a def promises by its mirror; calls. -/
namespace VL
open PySem PySem.Spec PyProof.Rows L2

/-! ### list comprehensions -/
def wipeR (ρ : R) : List Nat → R
  | [] => ρ
  | v :: vs => (wipeR ρ vs).set v .un
def wipeOk (ρ : R) (vs : List Nat) : Bool := vs.all fun v => match ρ[v]? with
  | some s => s.plain
  | none => true
def restR (ρ0 ρ : R) : List Nat → R
  | [] => ρ
  | v :: vs => (restR ρ0 ρ vs).set v (ρ0.getD v .un)
def lcLoop (g : MG) (t : MT) (f : ME) (vs : List Nat) : List PyData → R → List PyData → Oc (List PyData)
  | [], ρ, acc => .ok acc ρ
  | d :: ds, ρ, acc => match g d ρ with
    | none => .no
    | some ρ1 => (t ρ1).bind fun b ρ2 => if b = true then (f ρ2).bind fun y ρ3 => if fits (acc.length + 1) && wipeOk ρ3 vs then lcLoop g t f vs ds (wipeR ρ3 vs) (acc ++ [y]) else .no
      else if wipeOk ρ2 vs then lcLoop g t f vs ds (wipeR ρ2 vs) acc else .no
def mLc (fs : ML) (g : MG) (t : MT) (f : ME) (vs : List Nat) : ML := fun ρ => (fs ρ).bind fun ds ρ1 =>
  if wipeOk ρ1 vs then (lcLoop g t f vs ds (wipeR ρ1 vs) []).noex.bind fun ys ρ2 => .ok ys (restR ρ1 ρ2 vs) else .no
abbrev W0 : WX := fun _ _ _ _ => False
theorem wipeR_length (ρ : R) : ∀ vs, (wipeR ρ vs).length = ρ.length
  | [] => rfl
  | v :: vs => by unfold wipeR; rw [List.length_set, wipeR_length ρ vs]
theorem restR_length (ρ0 ρ : R) : ∀ vs, (restR ρ0 ρ vs).length = ρ.length
  | [] => rfl
  | v :: vs => by unfold restR; rw [List.length_set, restR_length ρ0 ρ vs]
theorem wipeR_out (ρ : R) {i : Nat} : ∀ {vs : List Nat}, i ∉ vs → (wipeR ρ vs)[i]? = ρ[i]?
  | [], _ => rfl
  | v :: vs, h => by
    unfold wipeR
    rw [List.getElem?_set_ne fun z => h (by simp [z])]
    exact wipeR_out ρ fun z => h (List.mem_cons_of_mem _ z)
theorem wipeR_in (ρ : R) {i : Nat} : ∀ {vs : List Nat}, i ∈ vs → i < ρ.length → (wipeR ρ vs)[i]? = some .un
  | v :: vs, h, l => by
    unfold wipeR
    by_cases c : v = i
    · subst c
      rw [List.getElem?_set, if_pos rfl, if_pos (by rw [wipeR_length]; exact l)]
    · rw [List.getElem?_set_ne c]
      exact wipeR_in ρ ((List.mem_cons.mp h).resolve_left fun z => c z.symm) l
theorem restR_out (ρ0 ρ : R) {i : Nat} : ∀ {vs : List Nat}, i ∉ vs → (restR ρ0 ρ vs)[i]? = ρ[i]?
  | [], _ => rfl
  | v :: vs, h => by
    unfold restR
    rw [List.getElem?_set_ne fun z => h (by simp [z])]
    exact restR_out ρ0 ρ fun z => h (List.mem_cons_of_mem _ z)
theorem restR_in (ρ0 ρ : R) {i : Nat} : ∀ {vs : List Nat}, i ∈ vs → i < ρ.length → (restR ρ0 ρ vs)[i]? = some (ρ0.getD i .un)
  | v :: vs, h, l => by
    unfold restR
    by_cases c : v = i
    · subst c
      rw [List.getElem?_set, if_pos rfl, if_pos (by rw [restR_length]; exact l)]
    · rw [List.getElem?_set_ne c]
      exact restR_in ρ0 ρ ((List.mem_cons.mp h).resolve_left fun z => c z.symm) l
theorem wipe_out' {σ : L2.St} {i : Nat} : ∀ {vs : List Nat}, i ∉ vs → (wipe σ vs)[i]? = σ[i]?
  | [], _ => rfl
  | v :: vs, h => by
    unfold wipe
    rw [List.getElem?_set_ne fun z => h (by simp [z])]
    exact wipe_out' fun z => h (List.mem_cons_of_mem _ z)
theorem wipe_in {σ : L2.St} {i : Nat} : ∀ {vs : List Nat}, i ∈ vs → i < σ.length → (wipe σ vs)[i]? = some none
  | v :: vs, h, l => by
    unfold wipe
    by_cases c : v = i
    · subst c
      rw [List.getElem?_set, if_pos rfl, if_pos (by rw [wipe_length]; exact l)]
    · rw [List.getElem?_set_ne c]
      exact wipe_in ((List.mem_cons.mp h).resolve_left fun z => c z.symm) l
theorem wipe_eq {σ σ2 : L2.St} {vs : List Nat} (hl : σ2.length = σ.length) (h : ∀ j : Nat, j ∉ vs → σ2[j]? = σ[j]?) : wipe σ2 vs = wipe σ vs := by
  refine List.ext_getElem? fun i => ?_
  by_cases c : i ∈ vs
  · by_cases l : i < σ.length
    · rw [wipe_in c l, wipe_in c (by rw [hl]; exact l)]
    · rw [List.getElem?_eq_none (by rw [wipe_length]; omega), List.getElem?_eq_none (by rw [wipe_length]; omega)]
  · rw [wipe_out' c, wipe_out' c, h i c]
theorem wipe_wipe (σ : L2.St) (vs : List Nat) : wipe (wipe σ vs) vs = wipe σ vs := wipe_eq (wipe_length _ _) fun j h => wipe_out' h
section
variable {K : PySem.W.Frag} {T : VT} {hid : Addr → Prop} {B σ : L2.St} {ρ ρ0 : R} {H : Hp} {D : Addr} {xs : List V}
/-- the slots of a block's own names are forgotten -/
theorem SR.wiped (S : SR K T hid B H σ ρ) {vs : List Nat} (h : ∀ (v : Nat) (s : Sl), v ∈ vs → ρ[v]? = some s → s.plain = true) : SR K T hid B H (wipe σ vs) (wipeR ρ vs) ∧ Oa hid (wipe σ vs) (wipeR ρ vs) = Oa hid σ ρ := by
  refine S.swap (by rw [wipe_length, wipeR_length]; exact S.len) (fun i s e => ?_) (by rw [wipeR_length]; exact Nat.le_refl _)
  have lt : i < ρ.length := by
    have q := (List.getElem?_eq_some_iff.mp e).1
    rw [wipeR_length] at q
    exact q
  by_cases c : i ∈ vs
  · rw [wipeR_in ρ c lt] at e
    cases e
    exact .inr ⟨rfl, fun t ht => h i t c ht, _, wipe_in c (by rw [S.len]; exact lt), .un _⟩
  · rw [wipeR_out ρ c] at e
    exact .inl ⟨e, wipe_out' c⟩
/-- a list that is being made is out of sight -/
def hidD (hid : Addr → Prop) (D : Addr) : Addr → Prop := fun b => hid b ∨ b = D
theorem Oa_hidD : Oa (hidD hid D) σ ρ = fun b => Oa hid σ ρ b ∨ b = D := by
  funext b
  refine propext ⟨fun h => ?_, fun h => ?_⟩
  · rcases h with (h | h) | h
    · exact .inl (.inl h)
    · exact .inr h
    · exact .inl (.inr h)
  · rcases h with (h | h) | h
    · exact .inl (.inl h)
    · exact .inr h
    · exact .inl (.inr h)
theorem Fz_hidD {o : HO} (hD : H D = none) : Fz (hidD hid D) σ ρ (L2.upd H D o) = Fz hid σ ρ H := by
  show fz _ _ = fz _ _
  rw [Oa_hidD]
  funext b
  by_cases c : b = D
  · subst c
    rw [fz_in (.inr rfl)]
    by_cases q : Oa hid σ ρ b
    · rw [fz_in q]
    · rw [fz_out q, hD]
  · by_cases q : Oa hid σ ρ b
    · rw [fz_in q, fz_in (.inl q)]
    · rw [fz_out q, fz_out fun z => z.elim q c, upd_ne c]
theorem SR.hide (S : SR K T hid B H σ ρ) {o : HO} (hD : H D = none) : SR K T (hidD hid D) B (L2.upd H D o) σ ρ := by
  have nO : ∀ b, Oa hid σ ρ b → b ≠ D := fun b h z => by
    obtain ⟨u, e⟩ := S.dom b h
    rw [z, hD] at e
    cases e
  have sm : Same H (L2.upd H D o) := fun b u e => by rw [upd_ne (ne_of_none e hD)]; exact e
  refine ⟨S.len, fun i s e => ?_, S.one, fun i a h z => ?_, fun b h => ?_, S.bor⟩
  · obtain ⟨u, e1, r⟩ := S.rel i s e
    refine ⟨u, e1, ?_⟩
    rw [Fz_hidD hD]
    exact r.mono (Same.refl _) sm
  · rcases z with z | z
    · exact S.sep i a h z
    · exact nO a (.inr ⟨i, h⟩) z
  · rcases h with h | h
    · obtain ⟨u, e⟩ := S.hh b h
      exact ⟨u, sm _ _ e⟩
    · subst h
      exact ⟨o, upd_same⟩
open Classical in
noncomputable def cut (H : Hp) (D : Addr) : Hp := fun b => if b = D then none else H b
theorem cut_at : cut H D D = none := by unfold cut; rw [if_pos rfl]
theorem cut_ne {b : Addr} (h : b ≠ D) : cut H D b = H b := by unfold cut; rw [if_neg h]
theorem upd_cut {o : HO} : L2.upd (cut H D) D o = L2.upd H D o := by
  funext b
  by_cases c : b = D
  · subst c; rw [upd_same, upd_same]
  · rw [upd_ne c, upd_ne c, cut_ne c]
theorem upd_self {o : HO} (h : H D = some o) : L2.upd H D o = H := by
  funext b
  by_cases c : b = D
  · subst c; rw [upd_same, h]
  · rw [upd_ne c]
theorem Fz_cut {o : HO} (hD : H D = some o) : Fz (hidD hid D) σ ρ H = Fz hid σ ρ (cut H D) := by
  have e : Fz (hidD hid D) σ ρ (L2.upd (cut H D) D o) = Fz hid σ ρ (cut H D) := Fz_hidD cut_at
  rw [upd_cut, upd_self hD] at e
  exact e
theorem SR.unhide (S : SR K T (hidD hid D) B H σ ρ) (hn : ¬ hid D) : SR K T hid B (cut H D) σ ρ := by
  obtain ⟨o, hD⟩ := S.hh D (.inr rfl)
  refine ⟨S.len, fun i s e => ?_, S.one, fun i a h z => S.sep i a h (.inl z), fun b h => ?_, S.bor⟩
  · obtain ⟨u, e1, r⟩ := S.rel i s e
    refine ⟨u, e1, ?_⟩
    rw [← Fz_cut hD]
    cases r with
    | un => exact .un _
    | val r => exact .val r
    | scr r => exact .scr r
    | fn n => exact .fn n
    | own h1 h2 =>
      have n : _ ≠ D := fun z => S.sep i _ ⟨e1, _, .inl e⟩ (.inr z)
      exact .own (by rw [cut_ne n]; exact h1) h2
    | bor h1 h2 =>
      have n : _ ≠ D := fun z => S.sep i _ ⟨e1, _, .inr e⟩ (.inr z)
      exact .bor (by rw [cut_ne n]; exact h1) h2
  · obtain ⟨u, e⟩ := S.hh b (.inl h)
    exact ⟨u, (cut_ne (show b ≠ D from fun z => hn (z ▸ h))).trans e⟩
end
section
variable {X : Cx} {T : VT} {W : WX} {pos : Pos}
theorem llc {tg iter elt : Expr} {ifs : List Expr} {scope : Scope} {ts : List Nat} {fs : ML} {g : MG} {t : MT} {f : ME} (own : List (Str × Nat)) (hc : X.calm = true) (hN : X.N.Nodup) (hi : XI X T W tg iter fs) (ok : BlkOk X.N X.env.scope scope own)
    (hg : ∀ (s : Shared) (H : Hp) (C : Addr) (cl : List (Str × Addr)) (fp : List Addr), XG (X.blk s H scope (compEnvC scope cl C X.env) fp) T tg ts g)
    (ht : ∀ (s : Shared) (H : Hp) (C : Addr) (cl : List (Str × Addr)) (fp : List Addr), PTs (X.blk s H scope (compEnvC scope cl C X.env) fp) ifs (rdT X.K T W0 t))
    (he : ∀ (s : Shared) (H : Hp) (C : Addr) (cl : List (Str × Addr)) (fp : List Addr), XE (X.blk s H scope (compEnvC scope cl C X.env) fp) T W0 elt f) (hts : ∀ v ∈ ts, v ∈ own.map (·.2)) (hs : ∀ x, foldedSetIterable iter X.env x = pure x := by intro _; rfl) :
    XL X T W (.ListComp elt [⟨tg, iter, ifs, 0⟩] scope pos) (mLc fs g t f (own.map (·.2))) := by
  refine (pe_lc (g := rdG X.K T ts g) (tt := rdT X.K T W0 t) (te := rdE X.K T W0 f) hc hN hi ok hg ht he hs).weak fun σ H Q ⟨hid, B, ρ, S, q⟩ => ⟨hid, B, ρ, S, (Res.bind q).imp fun ds ρ1 H1 S1 E1 q1 J hJ D hD => ?_⟩
  exact llc_core (own.map (·.2)) hts S1 q1 hJ (fun b o e => .inl e) hD
where
  llc_core {K : PySem.W.Frag} {T : VT} {W : WX} {hid : Addr → Prop} {B σ : L2.St} {ρ1 : R} {H1 : Hp} {Q : VK} {ts : List Nat} {g : MG} {t : MT} {f : ME} {ds : List PyData} {J : It} {D : Addr} {P : Hp} (vs : List Nat) (hts : ∀ v ∈ ts, v ∈ vs) (S1 : SR K T hid B H1 σ ρ1)
      (q1 : Res K T W hid B σ ρ1 H1 (if wipeOk ρ1 vs then (lcLoop g t f vs ds (wipeR ρ1 vs) []).noex.bind fun ys ρ2 => .ok ys (restR ρ1 ρ2 vs) else .no) fun ds ρ' H' => ∀ a xs, H' a = none → RpAll K (Fz hid σ ρ' H') xs ds → Q (.ref a) (L2.upd H' a (.lst xs)))
      (hJ : ItOk K (Fz hid σ ρ1 H1) P J ds) (hP : ∀ b o, P b = some o → (Fz hid σ ρ1 H1) b = some o ∨ (hid b ∧ H1 b = some o)) (hD : H1 D = none) : ∃ W : Nat → Nat → Hp → Prop, (∃ m, W 0 m (L2.upd H1 D (.lst []))) ∧ ∀ i m H, W i m H →
      (J.stop i H ∧ Q (.ref D) H) ∨ (J.go i H ∧ ∃ Nx : Hp → Prop, (∀ H', Nx H' → ∃ m', m' < m ∧ W (i + 1) m' H') ∧ ∀ x H', J.yld i H x H' → rdG K T ts g x (wipe σ vs) H' fun σ2 H2 => wipe σ2 vs = wipe σ vs ∧ rdT K T W0 t σ2 H2 fun b H3 =>
        if b = true then rdE K T W0 f σ2 H3 fun y H4 => ∃ acc, H4 D = some (.lst acc) ∧ acc.length < sizeLine ∧ Nx (L2.upd H4 D (.lst (acc ++ [y]))) else Nx H3) := by
    by_cases hw : wipeOk ρ1 vs = true
    · rw [if_pos hw] at q1
      have plain : ∀ (v : Nat) (s : Sl), v ∈ vs → ρ1[v]? = some s → s.plain = true := fun v s hv e => by
        have z := List.all_eq_true.mp hw v hv
        rw [e] at z
        exact z
      obtain ⟨Sw, Ow⟩ := S1.wiped plain
      have nhD : ¬ hid D := fun z => by
        obtain ⟨o, e⟩ := S1.hh D z
        rw [hD] at e
        cases e
      have Ew : Ext hid σ ρ1 H1 (wipe σ vs) (wipeR ρ1 vs) H1 := ⟨by
        show Same (fz _ _) (fz _ _)
        rw [Ow]
        exact Same.refl _, fun _ _ => rfl⟩
      -- what is wanted behind the last turn
      let Fin : Oc (List PyData) → Prop := fun o => match o with
        | .ok ys ρ2 => ∀ H2 xs, SR K T hid B H2 (wipe σ vs) ρ2 → (∀ v s, v ∈ vs → ρ2[v]? = some s → s = .un) → Ext hid σ ρ1 H1 (wipe σ vs) ρ2 H2 → H2 D = none → RpAll K (Fz hid (wipe σ vs) ρ2 H2) xs ys → Q (.ref D) (L2.upd H2 D (.lst xs))
        | _ => False
      have fin0 : Fin (lcLoop g t f vs ds (wipeR ρ1 vs) []) := by
        cases hl : lcLoop g t f vs ds (wipeR ρ1 vs) [] with
        | no => rw [hl] at q1; exact q1.elim
        | ex c ρ' => rw [hl] at q1; exact q1.elim
        | ok ys ρ2 =>
          rw [hl] at q1
          intro H2 xs S2 un2 E2 hD2 hxs
          have ln : ρ2.length = ρ1.length := by rw [← S2.len, wipe_length, S1.len]
          obtain ⟨S3, O3⟩ := S2.swap (σ' := σ) (ρ' := restR ρ1 ρ2 vs) (by rw [restR_length, ln]; exact S1.len) (fun i s e => by
            have lt : i < ρ2.length := by
              have z := (List.getElem?_eq_some_iff.mp e).1
              rw [restR_length] at z
              exact z
            by_cases c : i ∈ vs
            · rw [restR_in ρ1 ρ2 c lt] at e
              have e1 : ρ1[i]? = some ρ1[i] := List.getElem?_eq_getElem (by omega)
              have e2 : ρ1.getD i .un = ρ1[i] := by rw [List.getD_eq_getElem?_getD, e1]; rfl
              rw [e2] at e
              cases e
              obtain ⟨o, e3, r⟩ := S1.rel i _ e1
              have pl := plain i _ c e1
              refine .inr ⟨pl, fun u hu => by rw [un2 i u c hu]; rfl, o, e3, ?_⟩
              generalize ρ1[i] = s at r pl
              cases r with
              | un => exact .un _
              | val r => exact .val (r.mono E2.same)
              | own => cases pl
              | bor => cases pl
              | scr r => exact .scr (E2.same.seq r)
              | fn n => exact .fn n
            · rw [restR_out ρ1 ρ2 c] at e
              exact .inl ⟨e, (wipe_out' c).symm⟩) (by rw [restR_length]; exact Nat.le_refl _)
          have E3 : Ext hid σ ρ1 H1 σ (restR ρ1 ρ2 vs) H2 := ⟨by
            show Same _ (fz _ _)
            rw [O3]
            exact E2.same, E2.keep⟩
          refine q1 H2 S3 E3 D xs hD2 ?_
          show RpAll K (fz _ _) _ _
          rw [O3]
          exact hxs
      have bindF : ∀ {α : Type} {o : Oc α} {k : α → R → Oc (List PyData)} {B2 σ2 : L2.St} {ρ2 : R} {H2 : Hp} {h2 : Addr → Prop}, Fin (o.bind k) → Res K T W0 h2 B2 σ2 ρ2 H2 o fun a ρ3 H3 => Fin (k a ρ3) := fun {α o k B2 σ2 ρ2 H2 h2} z => by
        cases o with
        | ok a ρ' => exact fun _ _ _ => z
        | ex c ρ' => exact z.elim
        | no => exact z
      refine lc_it hJ (fun i H' => ∃ ρ' acc xs H'', H' = L2.upd H'' D (.lst xs) ∧ H'' D = none ∧ SR K T hid B H'' (wipe σ vs) ρ' ∧ (∀ v s, v ∈ vs → ρ'[v]? = some s → s = .un) ∧ Ext hid σ ρ1 H1 (wipe σ vs) ρ' H'' ∧ RpAll K (Fz hid (wipe σ vs) ρ' H'') xs acc ∧
          Fin (lcLoop g t f vs (ds.drop i) ρ' acc)) ⟨wipeR ρ1 vs, [], [], H1, rfl, hD, Sw, fun v s hv e => ?_, Ew, .nil, fin0⟩ ?_ ?_ ?_
      · have lt : v < ρ1.length := by
          have z := (List.getElem?_eq_some_iff.mp e).1
          rw [wipeR_length] at z
          exact z
        rw [wipeR_in ρ1 hv lt] at e
        exact (Option.some.inj e).symm
      · rintro i H' hi ⟨ρ', acc, xs, H'', rfl, hD'', S', un', E', r', z⟩
        intro b o e
        have e2 : H'' b = some o := by
          rcases hP b o e with h | ⟨h, h2⟩
          · exact fz_le b o (E'.same b o h)
          · rw [E'.keep b h]
            exact h2
        rw [upd_ne (ne_of_none e2 hD'')]
        exact e2
      · rintro i x H' H3 hi ⟨ρ', acc, xs, H'', rfl, hD'', S', un', E', r', z⟩ ⟨sm, hy⟩
        have hd : ds[i]? = some ds[i] := List.getElem?_eq_getElem hi
        have Sh : SR K T (hidD hid D) B (L2.upd H'' D (.lst xs)) (wipe σ vs) ρ' := S'.hide hD''
        have F1 : Same (Fz hid σ ρ1 H1) (Fz (hidD hid D) (wipe σ vs) ρ' (L2.upd H'' D (.lst xs))) := by
          rw [Fz_hidD hD'']
          exact E'.same
        have rx := hy (Oa (hidD hid D) (wipe σ vs) ρ') _ hd Sh.dom F1
        rw [List.drop_eq_getElem_cons hi] at z
        have z' : Fin (match g ds[i] ρ' with
          | none => .no
          | some ρ1 => (t ρ1).bind fun b ρ2 => if b = true then (f ρ2).bind fun y ρ3 => if fits (acc.length + 1) && wipeOk ρ3 vs then lcLoop g t f vs (ds.drop (i + 1)) (wipeR ρ3 vs) (acc ++ [y]) else .no
            else if wipeOk ρ2 vs then lcLoop g t f vs (ds.drop (i + 1)) (wipeR ρ2 vs) acc else .no) := z
        cases hgd : g ds[i] ρ' with
        | none => rw [hgd] at z'; exact z'.elim
        | some ρ2 =>
          rw [hgd] at z'
          have S2 := Sh.grow sm
          have E2 := Sh.ext sm
          refine ⟨hidD hid D, B, ρ', _, ρ2, S2, rx, hgd, fun σ2 S3 E3 len2 ag => ?_⟩
          have we : wipe σ2 vs = wipe σ vs := by
            rw [← wipe_wipe σ vs]
            exact wipe_eq len2 fun j hj => ag j fun z => hj (hts j z)
          -- a turn's end
          have next : ∀ {ρx : R} {Hx : Hp} {acc' : List PyData} {xs' : List V}, SR K T (hidD hid D) B Hx σ2 ρx → Ext (hidD hid D) σ2 ρ2 H3 σ2 ρx Hx → wipeOk ρx vs = true → RpAll K (Fz (hidD hid D) σ2 ρx Hx) xs' acc' →
              Fin (lcLoop g t f vs (ds.drop (i + 1)) (wipeR ρx vs) acc') → ∃ ρ' acc xs H'', L2.upd Hx D (.lst xs') = L2.upd H'' D (.lst xs) ∧ H'' D = none ∧ SR K T hid B H'' (wipe σ vs) ρ' ∧ (∀ v s, v ∈ vs → ρ'[v]? = some s → s = .un) ∧ Ext hid σ ρ1 H1 (wipe σ vs) ρ' H'' ∧
                RpAll K (Fz hid (wipe σ vs) ρ' H'') xs acc ∧ Fin (lcLoop g t f vs (ds.drop (i + 1)) ρ' acc) := fun {ρx Hx acc' xs'} Sx Ex hok hr hf => by
            have plain' : ∀ (v : Nat) (s : Sl), v ∈ vs → ρx[v]? = some s → s.plain = true := fun v s hv e => by
              have z := List.all_eq_true.mp hok v hv
              rw [e] at z
              exact z
            obtain ⟨o, hDx⟩ := Sx.hh D (.inr rfl)
            obtain ⟨Sy, Oy⟩ := (Sx.unhide nhD).wiped plain'
            rw [we] at Sy Oy
            have Eall := (E2.trans E3).trans Ex
            have Fe : Fz (hidD hid D) σ2 ρx Hx = Fz hid (wipe σ vs) (wipeR ρx vs) (cut Hx D) := by
              rw [Fz_cut hDx]
              show fz _ _ = fz _ _
              rw [Oy]
            refine ⟨wipeR ρx vs, acc', xs', cut Hx D, upd_cut.symm, cut_at, Sy, fun v s hv e => ?_, ⟨?_, fun b hb => ?_⟩, ?_, hf⟩
            · have lt : v < ρx.length := by
                have z := (List.getElem?_eq_some_iff.mp e).1
                rw [wipeR_length] at z
                exact z
              rw [wipeR_in ρx hv lt] at e
              exact (Option.some.inj e).symm
            · rw [← Fe]
              exact F1.trans Eall.same
            · have nb : b ≠ D := fun z => nhD (z ▸ hb)
              rw [cut_ne nb, Eall.keep b (.inl hb), upd_ne nb]
              exact E'.keep b hb
            · rw [← Fe]
              exact hr
          have atD : ∀ {ρx : R} {Hx : Hp}, Ext (hidD hid D) σ2 ρ2 H3 σ2 ρx Hx → Hx D = some (.lst xs) := fun {ρx Hx} Ex => by
            rw [((E2.trans E3).trans Ex).keep D (.inr rfl), upd_same]
          have rxs : ∀ {ρx : R} {Hx : Hp}, Ext (hidD hid D) σ2 ρ2 H3 σ2 ρx Hx → RpAll K (Fz (hidD hid D) σ2 ρx Hx) xs acc := fun {ρx Hx} Ex => by
            refine RpAll.mono ((E2.trans E3).trans Ex).same _ ?_
            rw [Fz_hidD hD'']
            exact r'
          refine ⟨we, hidD hid D, B, ρ2, S3, (bindF z').imp fun b ρ3 H4 S4 E4 z4 => ?_⟩
          cases b with
          | true =>
            refine (if_pos rfl).mpr ⟨hidD hid D, B, ρ3, S4, (bindF z4).imp fun y ρ4 H5 S5 E5 z5 yv ry => ?_⟩
            by_cases hk : (fits (acc.length + 1) && wipeOk ρ4 vs) = true
            · rw [if_pos hk] at z5
              obtain ⟨k1, k2⟩ := (Bool.and_eq_true _ _).mp hk
              have Ex := E4.trans E5
              refine ⟨xs, atD Ex, ?_, ?_⟩
              · rw [(rxs Ex).length]
                exact sz_fits k1
              · exact next S5 Ex k2 (RpAll.append (rxs Ex) (.cons ry .nil)) z5
            · rw [if_neg hk] at z5
              exact z5.elim
          | false =>
            refine (if_neg Bool.false_ne_true).mpr ?_
            have z4 : Fin (if wipeOk ρ3 vs then lcLoop g t f vs (ds.drop (i + 1)) (wipeR ρ3 vs) acc else .no) := z4
            by_cases hk : wipeOk ρ3 vs = true
            · rw [if_pos hk] at z4
              have w := next S4 E4 hk (rxs E4) z4
              rw [upd_self (atD E4)] at w
              exact w
            · rw [if_neg hk] at z4
              exact z4.elim
      · rintro H' ⟨ρ', acc, xs, H'', rfl, hD'', S', un', E', r', z⟩
        rw [List.drop_length] at z
        exact z H'' xs S' un' E' hD'' r'
    · rw [if_neg hw] at q1
      exact q1.elim
end
end VL

set_option Elab.async false
set_option linter.all false
set_option maxRecDepth 100000
set_option maxHeartbeats 4000000
/-! V4: what a def promises by its mirror; calls; own lists read and changed. -/
namespace VL
open PySem PySem.Spec PyProof.Rows L2

/-! ### promises -/
def noOwn (as : List Sl) : Prop := ∀ (i : Nat) (ds : List PyData), as[i]? ≠ some (.own ds)
def spM (K : PySem.W.Frag) (T : VT) (m : Mir) : Sp := fun vs H Q E => ∃ (hid : Addr → Prop) (as : List Sl), SR K T hid (vs.map some) H (vs.map some) as ∧
  match m as with
  | .ok d as' => ∀ v H', SR K T hid (vs.map some) H' (vs.map some) as' → Ext hid (vs.map some) as H (vs.map some) as' H' → Rp K (Fz hid (vs.map some) as' H') v d → Q v H'
  | .ex c as' => ∀ H', SR K T hid (vs.map some) H' (vs.map some) as' → Ext hid (vs.map some) as H (vs.map some) as' H' → E (.ref (T.ea c)) none H'
  | .no => False
def Sl.fin : Sl → Sl
  | .bor ds => .bor ds
  | _ => .un
def finR : Nat → R → List Sl
  | 0, _ => []
  | n + 1, [] => .un :: finR n []
  | n + 1, s :: ρ => s.fin :: finR n ρ
theorem finR_length : ∀ (n : Nat) (ρ : R), (finR n ρ).length = n
  | 0, _ => rfl
  | n + 1, [] => congrArg (· + 1) (finR_length n [])
  | n + 1, s :: ρ => congrArg (· + 1) (finR_length n ρ)
theorem finR_get : ∀ {n : Nat} {ρ : R} {i : Nat} {s : Sl}, (finR n ρ)[i]? = some s → i < n ∧ (s = .un ∨ ∃ ds, s = .bor ds ∧ ρ[i]? = some (.bor ds))
  | 0, _, _, _, h => by simp [finR] at h
  | n + 1, [], 0, s, h => by
    simp [finR] at h
    exact ⟨Nat.succ_pos _, .inl h.symm⟩
  | n + 1, t :: ρ, 0, s, h => by
    simp [finR] at h
    refine ⟨Nat.succ_pos _, ?_⟩
    cases t <;> subst h <;> first | exact .inl rfl | exact .inr ⟨_, rfl, rfl⟩
  | n + 1, [], i + 1, s, h => by
    have q : (finR n [])[i]? = some s := by simpa [finR] using h
    obtain ⟨h1, h2⟩ := finR_get q
    refine ⟨Nat.succ_lt_succ h1, h2.imp_right fun ⟨ds, e, z⟩ => ?_⟩
    simp at z
  | n + 1, t :: ρ, i + 1, s, h => by
    have q : (finR n ρ)[i]? = some s := by simpa [finR] using h
    obtain ⟨h1, h2⟩ := finR_get q
    exact ⟨Nat.succ_lt_succ h1, h2.imp_right fun ⟨ds, e, z⟩ => ⟨ds, e, by simpa using z⟩⟩
def noOwnB (as : List Sl) : Bool := as.all fun s => match s with
  | .own _ => false
  | _ => true
/-- n parameters, k further names -/
def mFn (n k : Nat) (m : MS) : Mir := fun as => if as.length = n ∧ noOwnB as = true then match m (as ++ List.replicate k .un) with
    | .ok (.rt d) ρ => .ok d (finR n ρ)
    | .ok .nx ρ => .ok .none (finR n ρ)
    | .ok _ _ => .no
    | .ex c ρ => .ex c (finR n ρ)
    | .no => .no
  else .no
section
variable {K : PySem.W.Frag} {T : VT} {hid : Addr → Prop} {B σ : L2.St} {ρ : R} {H : Hp}
theorem SR.entry {vs : List V} {as : List Sl} {N : List Str} {k : Nat} (S : SR K T hid (vs.map some) H (vs.map some) as) (hN : N.length = vs.length + k) :
    SR K T hid (L2.start N vs) H (L2.start N vs) (as ++ List.replicate k .un) ∧ Oa hid (L2.start N vs) (as ++ List.replicate k .un) = Oa hid (vs.map some) as := by
  have ln : as.length = vs.length := by rw [← S.len, List.length_map]
  have es : L2.start N vs = vs.map some ++ List.replicate k none := by
    unfold L2.start
    rw [show N.length - vs.length = k by omega]
  have hown : ∀ i a, ownAt (vs.map some ++ List.replicate k none) (as ++ List.replicate k .un) i a ↔ ownAt (vs.map some) as i a := fun i a => by
    unfold ownAt
    by_cases c : i < vs.length
    · rw [List.getElem?_append_left (by simpa using c), List.getElem?_append_left (by omega)]
    · have e1 : (as ++ List.replicate k Sl.un)[i]? = (List.replicate k Sl.un)[i - as.length]? := List.getElem?_append_right (by omega)
      have e2 : as[i]? = none := List.getElem?_eq_none (by omega)
      rw [e1, e2]
      constructor
      · rintro ⟨_, ds, h | h⟩
        · exact absurd (List.eq_of_mem_replicate (List.mem_of_getElem? h)) (by simp)
        · exact absurd (List.eq_of_mem_replicate (List.mem_of_getElem? h)) (by simp)
      · rintro ⟨_, ds, h | h⟩ <;> cases h
  have eo : Oa hid (vs.map some ++ List.replicate k none) (as ++ List.replicate k .un) = Oa hid (vs.map some) as := by
    funext b
    exact propext (or_congr_right (exists_congr fun i => hown i b))
  rw [es]
  refine ⟨⟨by simp [ln], fun i s e => ?_, fun i j a h1 h2 => S.one i j a ((hown i a).mp h1) ((hown j a).mp h2), fun i a h => S.sep i a ((hown i a).mp h), S.hh, fun i ds e => rfl⟩, eo⟩
  show ∃ o, _ ∧ SlV K T (fz (Oa hid _ _) H) H o s
  rw [eo]
  by_cases c : i < as.length
  · rw [List.getElem?_append_left c] at e
    obtain ⟨o, e1, r⟩ := S.rel i s e
    exact ⟨o, by rw [List.getElem?_append_left (by simp; omega)]; exact e1, r⟩
  · have e1 : (as ++ List.replicate k Sl.un)[i]? = (List.replicate k Sl.un)[i - as.length]? := List.getElem?_append_right (by omega)
    rw [e1] at e
    have es : s = .un := List.eq_of_mem_replicate (List.mem_of_getElem? e)
    subst es
    have lt : i - as.length < k := by
      have z := (List.getElem?_eq_some_iff.mp e).1
      rw [List.length_replicate] at z
      exact z
    refine ⟨none, ?_, .un _⟩
    rw [List.getElem?_append_right (by simp; omega), List.getElem?_replicate]
    simp
    omega
theorem SR.leave {vs : List V} {N : List Str} {n : Nat} (S : SR K T hid (L2.start N vs) H σ ρ) (hn : vs.length = n) :
    SR K T hid (vs.map some) H (vs.map some) (finR n ρ) ∧ Same (Fz hid σ ρ H) (Fz hid (vs.map some) (finR n ρ) H) := by
  have get : ∀ (i : Nat) (s : Sl), (finR n ρ)[i]? = some s → i < n ∧ (s = .un ∨ ∃ ds, s = .bor ds ∧ ρ[i]? = some (.bor ds)) := fun i s e => finR_get e
  have st : ∀ (i : Nat), i < n → (L2.start N vs)[i]? = (vs.map some)[i]? := fun i c => by
    unfold L2.start
    rw [List.getElem?_append_left (by simp; omega)]
  have own : ∀ i a, ownAt (vs.map some) (finR n ρ) i a → ownAt σ ρ i a := fun i a ⟨h1, ds, h2⟩ => by
    rcases h2 with h2 | h2
    · obtain ⟨_, h | ⟨es, h, _⟩⟩ := get i _ h2
      · cases h
      · cases h
    · obtain ⟨c, h | ⟨es, h, h3⟩⟩ := get i _ h2
      · cases h
      · cases h
        refine ⟨?_, ds, .inr h3⟩
        rw [← S.bor i ds h3, st i c]
        exact h1
  have sm : Same (Fz hid σ ρ H) (Fz hid (vs.map some) (finR n ρ) H) := fz_less fun b h => by
    rcases h with h | ⟨i, h⟩
    · exact .inl h
    · exact .inr ⟨i, own i b h⟩
  refine ⟨⟨by rw [List.length_map, finR_length]; exact hn, fun i s e => ?_, fun i j a h1 h2 => S.one i j a (own i a h1) (own j a h2), fun i a h => S.sep i a (own i a h), S.hh, fun i ds e => rfl⟩, sm⟩
  obtain ⟨c, h | ⟨ds, h, h3⟩⟩ := get i s e
  · subst h
    have lt : i < vs.length := by omega
    exact ⟨some vs[i], by rw [List.getElem?_map, List.getElem?_eq_getElem lt]; rfl, .un _⟩
  · subst h
    obtain ⟨o, e1, r⟩ := S.rel i _ h3
    refine ⟨o, ?_, r.mono sm (Same.refl _)⟩
    rw [← st i c, S.bor i ds h3]
    exact e1
end
section
variable {P : Program} {w : World} {K : PySem.W.Frag} {T : VT} {mg : Str → Option Value} {base : Heap}
abbrev WOf (E : XK) : WX := fun cls d _ H => E cls d H
/-- THE RULE for a def: it computes what its mirror does -/
theorem fn_ok {x qual : Str} {st : Stmt} {f : Addr} {fd : FuncData} {N ps : List Str} {k : Nat} {m : MS} (F : Fun K x qual st f fd) (S : FnScope N ps (defScope st)) (kk : Nat) (hk : N.length = ps.length + kk)
    (hbody : ∀ (cdv : Value) (A : Around) (outer : List Env) (s : Shared) (H : Hp) (E : XK), Room k (A.deeper (envOfC qual (defScope st) s.heap.objs.size f cdv)) →
      XSs (cxOf (L2.CX P w) P w K mg base N qual (defScope st) f cdv A outer s H E) T (WOf E) (defBody st) m) : FnOk P w K mg base (L2.CX P w) (k + 1) f fd ps (spM K T (mFn ps.length kk m)) := by
  have len : ∀ vs H Q E, spM K T (mFn ps.length kk m) vs H Q E → vs.length = ps.length := fun vs H Q E h => by
    obtain ⟨hid, as, S0, h⟩ := h
    have l := S0.len
    rw [List.length_map] at l
    unfold mFn at h
    by_cases c : as.length = ps.length ∧ noOwnB as = true
    · omega
    · rw [if_neg c] at h
      exact h.elim
  refine F.okX S len fun cdv A outer s H vs Q E hr h => ⟨_, hbody cdv A outer s H E hr, ?_⟩
  have ln := len _ _ _ _ h
  obtain ⟨hid, as, S0, h⟩ := h
  have l := S0.len
  rw [List.length_map] at l
  obtain ⟨S1, O1⟩ := S0.entry (N := N) (k := kk) (by omega)
  show ∃ hid B ρ, SR K T hid B H (L2.start N vs) ρ ∧ ResS K T (WOf E) hid B (L2.start N vs) ρ H (m ρ) _
  refine ⟨hid, L2.start N vs, as ++ List.replicate kk .un, S1, ?_⟩
  unfold mFn at h
  by_cases c : as.length = ps.length ∧ noOwnB as = true
  · rw [if_pos c] at h
    have e0 : Fz hid (L2.start N vs) (as ++ List.replicate kk .un) H = Fz hid (vs.map some) as H := by
      show fz _ _ = fz _ _
      rw [O1]
    have ext : ∀ {σ' : L2.St} {ρ' : R} {H' : Hp}, SR K T hid (L2.start N vs) H' σ' ρ' → Ext hid (L2.start N vs) (as ++ List.replicate kk .un) H σ' ρ' H' → Same (Fz hid σ' ρ' H') (Fz hid (vs.map some) (finR ps.length ρ') H') →
        Ext hid (vs.map some) as H (vs.map some) (finR ps.length ρ') H' := fun {σ' ρ' H'} S' E' sm => ⟨by rw [← e0]; exact E'.same.trans sm, E'.keep⟩
    cases hm : m (as ++ List.replicate kk .un) with
    | no => rw [hm] at h; exact h.elim
    | ex cc ρ' =>
      rw [hm] at h
      intro σ' H' S' E'
      obtain ⟨S2, sm⟩ := S'.leave ln
      exact h H' S2 (ext S' E' sm)
    | ok fl ρ' =>
      rw [hm] at h
      cases fl with
      | bk => exact h.elim
      | ct => exact h.elim
      | nx =>
        intro σ' H' S' E'
        obtain ⟨S2, sm⟩ := S'.leave ln
        exact h .non H' S2 (ext S' E' sm) .non
      | rt d =>
        intro σ' H' v S' E' r
        obtain ⟨S2, sm⟩ := S'.leave ln
        exact h v H' S2 (ext S' E' sm) (r.mono sm)
  · rw [if_neg c] at h
    exact h.elim
end
end VL

set_option Elab.async false
set_option linter.all false
set_option maxRecDepth 100000
set_option maxHeartbeats 4000000
/-! V5: calls of the program's own defs, their lists handed over. -/
namespace VL
open PySem PySem.Spec PyProof.Rows L2

inductive AV where
  | v (d : PyData) | b (j : Nat) | r (j : Nat)
abbrev MA := R → Oc (List AV)
def AVr (K : PySem.W.Frag) (hid : Addr → Prop) (σ : L2.St) (ρ : R) (H : Hp) (x : V) : AV → Prop
  | .v d => Rp K (Fz hid σ ρ H) x d
  | .b j => σ[j]? = some (some x)
  | .r j => σ[j]? = some (some x)
def Sl.isRef : Sl → Bool
  | .scr _ => true
  | .fn _ => true
  | _ => false
def toSl (ρ : R) : List AV → Option (List Sl)
  | [] => some []
  | .v d :: as => (toSl ρ as).map (.val d :: ·)
  | .b j :: as => match ρ[j]? with
    | some (.own ds) => (toSl ρ as).map (.bor ds :: ·)
    | some (.bor ds) => (toSl ρ as).map (.bor ds :: ·)
    | _ => none
  | .r j :: as => match ρ[j]? with
    | some (.scr ns) => (toSl ρ as).map (.scr ns :: ·)
    | some (.fn n) => (toSl ρ as).map (.fn n :: ·)
    | _ => none
def bs : List AV → List Nat
  | [] => []
  | .b j :: as => j :: bs as
  | .v _ :: as => bs as
  | .r _ :: as => bs as
def back : List AV → List Sl → R → Option R
  | [], _, ρ => some ρ
  | .b j :: avs, .bor ds :: as, ρ => match ρ[j]? with
    | some (.own _) => back avs as (ρ.set j (.own ds))
    | some (.bor _) => back avs as (ρ.set j (.bor ds))
    | _ => none
  | .v _ :: avs, _ :: as, ρ => back avs as ρ
  | .r _ :: avs, _ :: as, ρ => back avs as ρ
  | _, _, _ => none
def mCall (m : Mir) (fa : MA) : ME := fun ρ => (fa ρ).bind fun avs ρ1 => if (bs avs).Nodup then match toSl ρ1 avs with
    | none => .no
    | some as => match m as with
      | .ok d as' => match back avs as' ρ1 with
        | some ρ2 => .ok d ρ2
        | none => .no
      | .ex c as' => match back avs as' ρ1 with
        | some ρ2 => .ex c ρ2
        | none => .no
      | .no => .no
  else .no
def mANil : MA := fun ρ => .ok [] ρ
def mAv (f : ME) (g : MA) : MA := fun ρ => (f ρ).bind fun d ρ1 => (g ρ1).bind fun as ρ2 => .ok (.v d :: as) ρ2
def hasB (ρ : R) (j : Nat) : Bool := match ρ[j]? with
  | some (.own _) => true
  | some (.bor _) => true
  | _ => false
def hasR (ρ : R) (j : Nat) : Bool := match ρ[j]? with
  | some (.scr _) => true
  | some (.fn _) => true
  | _ => false
def mAb (j : Nat) (g : MA) : MA := fun ρ => if hasB ρ j then (g ρ).bind fun as ρ2 => .ok (.b j :: as) ρ2 else .no
def mAr (j : Nat) (g : MA) : MA := fun ρ => if hasR ρ j then (g ρ).bind fun as ρ2 => .ok (.r j :: as) ρ2 else .no

def AvS (ρ : R) : AV → Sl → Prop
  | .v d, s => s = .val d
  | .b j, s => ∃ t ds, ρ[j]? = some t ∧ t.held = some ds ∧ s = .bor ds
  | .r j, s => ρ[j]? = some s ∧ s.isRef = true
theorem toSl_get {ρ : R} : ∀ {avs : List AV} {as : List Sl}, toSl ρ avs = some as → as.length = avs.length ∧ ∀ (i : Nat) (s : Sl), as[i]? = some s → ∃ av, avs[i]? = some av ∧ AvS ρ av s
  | [], as, h => by
    cases h
    exact ⟨rfl, fun i s e => by simp at e⟩
  | av :: avs, as, h => by
    have key : ∃ s0 as0, toSl ρ avs = some as0 ∧ as = s0 :: as0 ∧ AvS ρ av s0 := by
      cases av with
      | v d =>
        cases e : toSl ρ avs with
        | none => simp [toSl, e] at h
        | some as0 => simp [toSl, e] at h; exact ⟨_, as0, rfl, h.symm, rfl⟩
      | b j =>
        unfold toSl at h
        split at h
        · rename_i ds hj
          cases e : toSl ρ avs with
          | none => simp [e] at h
          | some as0 => simp [e] at h; exact ⟨_, as0, rfl, h.symm, _, ds, hj, rfl, rfl⟩
        · rename_i ds hj
          cases e : toSl ρ avs with
          | none => simp [e] at h
          | some as0 => simp [e] at h; exact ⟨_, as0, rfl, h.symm, _, ds, hj, rfl, rfl⟩
        · cases h
      | r j =>
        unfold toSl at h
        split at h
        · rename_i ds hj
          cases e : toSl ρ avs with
          | none => simp [e] at h
          | some as0 => simp [e] at h; exact ⟨_, as0, rfl, h.symm, hj, rfl⟩
        · rename_i ds hj
          cases e : toSl ρ avs with
          | none => simp [e] at h
          | some as0 => simp [e] at h; exact ⟨_, as0, rfl, h.symm, hj, rfl⟩
        · cases h
    obtain ⟨s0, as0, h1, rfl, h2⟩ := key
    obtain ⟨l, g⟩ := toSl_get h1
    refine ⟨congrArg (· + 1) l, fun i s e => ?_⟩
    cases i with
    | zero => simp at e; subst e; exact ⟨av, rfl, h2⟩
    | succ i => obtain ⟨w, e1, e2⟩ := g i s (by simpa using e); exact ⟨w, by simpa using e1, e2⟩
theorem bs_mem : ∀ {avs : List AV} {j : Nat}, j ∈ bs avs ↔ ∃ i : Nat, avs[i]? = some (AV.b j)
  | [], j => by simp [bs]
  | av :: avs, j => by
    have ih := bs_mem (avs := avs) (j := j)
    constructor
    · intro h
      cases av with
      | b k =>
        rcases List.mem_cons.mp h with h | h
        · subst h; exact ⟨0, rfl⟩
        · obtain ⟨i, e⟩ := ih.mp h; exact ⟨i + 1, by simpa using e⟩
      | v d => obtain ⟨i, e⟩ := ih.mp h; exact ⟨i + 1, by simpa using e⟩
      | r d => obtain ⟨i, e⟩ := ih.mp h; exact ⟨i + 1, by simpa using e⟩
    · rintro ⟨i, e⟩
      cases i with
      | zero => simp at e; subst e; exact List.mem_cons_self
      | succ i =>
        have h := ih.mpr ⟨i, by simpa using e⟩
        cases av with
        | b k => exact List.mem_cons_of_mem _ h
        | v d => exact h
        | r d => exact h
theorem bs_one : ∀ {avs : List AV} {i k j : Nat}, (bs avs).Nodup → avs[i]? = some (.b j) → avs[k]? = some (.b j) → i = k
  | [], i, k, j, _, h, _ => by simp at h
  | av :: avs, i, k, j, nd, h1, h2 => by
    have tail : (bs avs).Nodup := by
      cases av with
      | b l => exact (List.nodup_cons.mp nd).2
      | v d => exact nd
      | r d => exact nd
    cases i with
    | zero =>
      cases k with
      | zero => rfl
      | succ k =>
        simp at h1
        subst h1
        exact absurd (bs_mem.mpr ⟨k, by simpa using h2⟩) (List.nodup_cons.mp nd).1
    | succ i =>
      cases k with
      | zero =>
        simp at h2
        subst h2
        exact absurd (bs_mem.mpr ⟨i, by simpa using h1⟩) (List.nodup_cons.mp nd).1
      | succ k => exact congrArg (· + 1) (bs_one tail (by simpa using h1) (by simpa using h2))
theorem back_get : ∀ {avs : List AV} {as : List Sl} {ρ ρ2 : R}, (bs avs).Nodup → back avs as ρ = some ρ2 → (ρ2.length = ρ.length) ∧ ∀ j : Nat, (j ∉ bs avs → ρ2[j]? = ρ[j]?) ∧
    (∀ i : Nat, avs[i]? = some (.b j) → ∃ ds t t', as[i]? = some (.bor ds) ∧ ρ[j]? = some t ∧ t.mut ds = some t' ∧ ρ2[j]? = some t')
  | [], as, ρ, ρ2, _, h => by
    cases h
    exact ⟨rfl, fun j => ⟨fun _ => rfl, fun i e => by simp at e⟩⟩
  | .v d :: avs, [], ρ, ρ2, _, h => by cases h
  | .r d :: avs, [], ρ, ρ2, _, h => by cases h
  | .b d :: avs, [], ρ, ρ2, _, h => by cases h
  | .v d :: avs, s :: as, ρ, ρ2, nd, h => by
    obtain ⟨l, g⟩ := back_get (avs := avs) (as := as) (ρ := ρ) (ρ2 := ρ2) nd h
    refine ⟨l, fun j => ⟨(g j).1, fun i e => ?_⟩⟩
    cases i with
    | zero => simp at e
    | succ i => exact (g j).2 i (by simpa using e)
  | .r d :: avs, s :: as, ρ, ρ2, nd, h => by
    obtain ⟨l, g⟩ := back_get (avs := avs) (as := as) (ρ := ρ) (ρ2 := ρ2) nd h
    refine ⟨l, fun j => ⟨(g j).1, fun i e => ?_⟩⟩
    cases i with
    | zero => simp at e
    | succ i => exact (g j).2 i (by simpa using e)
  | .b k :: avs, s :: as, ρ, ρ2, nd, h => by
    obtain ⟨nk, nt⟩ := List.nodup_cons.mp (show (k :: bs avs).Nodup from nd)
    have key : ∃ ds t t', s = .bor ds ∧ ρ[k]? = some t ∧ t.mut ds = some t' ∧ back avs as (ρ.set k t') = some ρ2 := by
      cases s with
      | bor ds =>
        unfold back at h
        split at h
        · rename_i hj; exact ⟨ds, _, _, rfl, hj, rfl, h⟩
        · rename_i hj; exact ⟨ds, _, _, rfl, hj, rfl, h⟩
        · cases h
      | _ => cases h
    obtain ⟨ds, t, t', rfl, hk, hm, h'⟩ := key
    obtain ⟨l, g⟩ := back_get nt h'
    have lt := (List.getElem?_eq_some_iff.mp hk).1
    refine ⟨by rw [l, List.length_set], fun j => ⟨fun hj => ?_, fun i e => ?_⟩⟩
    · have hj2 : j ≠ k ∧ j ∉ bs avs := ⟨fun z => hj (by simp [bs, z]), fun z => hj (by simp [bs, z])⟩
      rw [(g j).1 hj2.2, List.getElem?_set_ne fun z => hj2.1 z.symm]
    · cases i with
      | zero =>
        simp at e
        subst e
        refine ⟨ds, t, t', rfl, hk, hm, ?_⟩
        rw [(g k).1 nk, List.getElem?_set, if_pos rfl, if_pos lt]
      | succ i =>
        have e' : avs[i]? = some (.b j) := by simpa using e
        obtain ⟨es, u, u', e1, e2, e3, e4⟩ := (g j).2 i e'
        have njk : k ≠ j := fun z => nk (z ▸ bs_mem.mpr ⟨i, e'⟩)
        rw [List.getElem?_set_ne njk] at e2
        exact ⟨es, u, u', by simpa using e1, e2, e3, e4⟩
theorem paired_at {α β : Type} {F : α → β → Prop} : ∀ {xs : List α} {ys : List β}, Paired F xs ys → ∀ {i : Nat} {y : β}, ys[i]? = some y → ∃ x, xs[i]? = some x ∧ F x y
  | _, _, .nil, i, y, e => by simp at e
  | _, _, .cons r t, 0, y, e => by simp at e; subst e; exact ⟨_, rfl, r⟩
  | _, _, .cons r t, i + 1, y, e => by
    obtain ⟨x, h1, h2⟩ := paired_at t (i := i) (y := y) (by simpa using e)
    exact ⟨x, by simpa using h1, h2⟩
theorem mut_held {s s' : Sl} {ds : List PyData} (h : s.mut ds = some s') : s'.held = some ds ∧ ∃ es, s.held = some es := by
  cases s <;> simp [Sl.mut] at h <;> subst h <;> exact ⟨rfl, _, rfl⟩
section
variable {K : PySem.W.Frag} {T : VT} {hid : Addr → Prop} {B σ : L2.St} {ρ ρ2 : R} {H H' : Hp} {vs : List V} {avs : List AV} {as as' : List Sl}
/-- what a callee must leave alone: all that is hidden from the caller or its own, but what is handed over -/
def hidC (hid : Addr → Prop) (σ : L2.St) (ρ : R) (avs : List AV) : Addr → Prop := fun b => Oa hid σ ρ b ∧ ¬ ∃ j, j ∈ bs avs ∧ ownAt σ ρ j b
theorem own_call (S : SR K T hid B H σ ρ) (A : Paired (AVr K hid σ ρ H) vs avs) (hs : toSl ρ avs = some as) {i : Nat} {a : Addr} : ownAt (vs.map some) as i a ↔ ∃ j, avs[i]? = some (.b j) ∧ ownAt σ ρ j a := by
  obtain ⟨l, g⟩ := toSl_get hs
  constructor
  · rintro ⟨h1, ds, h2⟩
    have key : ∃ j t es, avs[i]? = some (.b j) ∧ ρ[j]? = some t ∧ t.held = some es := by
      rcases h2 with h2 | h2
      · obtain ⟨av, e, q⟩ := g i _ h2
        cases av with
        | v d => cases q
        | b j => obtain ⟨t, es, _, _, z⟩ := q; cases z
        | r j => cases q.2
      · obtain ⟨av, e, q⟩ := g i _ h2
        cases av with
        | v d => cases q
        | b j => obtain ⟨t, es, q1, q2, z⟩ := q; exact ⟨j, t, es, e, q1, q2⟩
        | r j => cases q.2
    obtain ⟨j, t, es, e, q1, q2⟩ := key
    obtain ⟨x, e1, q⟩ := paired_at A e
    have q : σ[j]? = some (some x) := q
    rw [List.getElem?_map, e1] at h1
    have ex : x = .ref a := by simpa using h1
    subst ex
    refine ⟨j, e, q, es, ?_⟩
    cases t <;> simp [Sl.held] at q2 <;> subst q2 <;> first | exact .inl q1 | exact .inr q1
  · rintro ⟨j, e, h1, ds, h2⟩
    obtain ⟨x, e1, q⟩ := paired_at A e
    have q : σ[j]? = some (some x) := q
    rw [h1] at q
    cases q
    have lt : i < as.length := by
      rw [l]
      exact (List.getElem?_eq_some_iff.mp e).1
    obtain ⟨av, e2, q2⟩ := g i _ (List.getElem?_eq_getElem lt)
    rw [e] at e2
    cases e2
    obtain ⟨t, es, _, _, z⟩ := q2
    refine ⟨by rw [List.getElem?_map, e1]; rfl, es, .inr ?_⟩
    rw [List.getElem?_eq_getElem lt, z]
theorem Oa_call (S : SR K T hid B H σ ρ) (A : Paired (AVr K hid σ ρ H) vs avs) (hs : toSl ρ avs = some as) : Oa (hidC hid σ ρ avs) (vs.map some) as = Oa hid σ ρ := by
  funext b
  refine propext ⟨fun h => ?_, fun h => ?_⟩
  · rcases h with h | ⟨i, h⟩
    · exact h.1
    · obtain ⟨j, _, q⟩ := (own_call S A hs).mp h
      exact .inr ⟨j, q⟩
  · by_cases c : ∃ j, j ∈ bs avs ∧ ownAt σ ρ j b
    · obtain ⟨j, hj, q⟩ := c
      obtain ⟨i, e⟩ := bs_mem.mp hj
      exact .inr ⟨i, (own_call S A hs).mpr ⟨j, e, q⟩⟩
    · exact .inl ⟨h, c⟩
theorem SR.call (S : SR K T hid B H σ ρ) (A : Paired (AVr K hid σ ρ H) vs avs) (nd : (bs avs).Nodup) (hs : toSl ρ avs = some as) : SR K T (hidC hid σ ρ avs) (vs.map some) H (vs.map some) as := by
  obtain ⟨l, g⟩ := toSl_get hs
  have eo := Oa_call S A hs
  refine ⟨by rw [List.length_map, l]; exact Paired.length A, fun i s e => ?_, fun i k a h1 h2 => ?_, fun i a h z => ?_, fun b h => S.dom b h.1, fun i ds e => rfl⟩
  · obtain ⟨av, e1, q⟩ := g i s e
    obtain ⟨x, e2, q2⟩ := paired_at A e1
    refine ⟨some x, by rw [List.getElem?_map, e2]; rfl, ?_⟩
    show SlV K T (fz (Oa _ _ _) H) H _ _
    rw [eo]
    cases av with
    | v d =>
      have q : s = .val d := q
      subst q
      exact .val q2
    | b j =>
      obtain ⟨t, ds, q1, q3, rfl⟩ := q
      obtain ⟨a, xs, h1, _, h2, h3⟩ := S.own_of q1 q3
      have q2 : σ[j]? = some (some x) := q2
      rw [h1] at q2
      cases q2
      exact .bor h2 h3
    | r j =>
      obtain ⟨q1, q3⟩ := q
      have q2 : σ[j]? = some (some x) := q2
      obtain ⟨o, h1, r⟩ := S.rel j s q1
      rw [q2] at h1
      cases h1
      exact r
  · obtain ⟨j, e1, q1⟩ := (own_call S A hs).mp h1
    obtain ⟨j', e2, q2⟩ := (own_call S A hs).mp h2
    cases S.one j j' a q1 q2
    exact bs_one nd e1 e2
  · obtain ⟨j, e1, q1⟩ := (own_call S A hs).mp h
    exact z.2 ⟨j, bs_mem.mpr ⟨i, e1⟩, q1⟩
theorem SR.called (S : SR K T hid B H σ ρ) (A : Paired (AVr K hid σ ρ H) vs avs) (nd : (bs avs).Nodup) (hs : toSl ρ avs = some as) (hb : back avs as' ρ = some ρ2) (S' : SR K T (hidC hid σ ρ avs) (vs.map some) H' (vs.map some) as')
    (E' : Ext (hidC hid σ ρ avs) (vs.map some) as H (vs.map some) as' H') : SR K T hid B H' σ ρ2 ∧ Ext hid σ ρ H σ ρ2 H' ∧ Same (Fz (hidC hid σ ρ avs) (vs.map some) as' H') (Fz hid σ ρ2 H') := by
  obtain ⟨l, g⟩ := back_get nd hb
  have hown : ∀ j a, ownAt σ ρ2 j a ↔ ownAt σ ρ j a := fun j a => by
    unfold ownAt
    refine and_congr_right fun _ => ?_
    by_cases c : j ∈ bs avs
    · obtain ⟨i, e⟩ := bs_mem.mp c
      obtain ⟨ds, t, t', _, e1, e2, e3⟩ := (g j).2 i e
      rw [e1, e3]
      cases t <;> simp [Sl.mut] at e2 <;> subst e2 <;> simp
    · rw [(g j).1 c]
  have eo2 : Oa hid σ ρ2 = Oa hid σ ρ := by
    funext b
    exact propext (or_congr_right (exists_congr fun j => hown j b))
  have eo := Oa_call S A hs
  have less : ∀ b, Oa hid σ ρ2 b → Oa (hidC hid σ ρ avs) (vs.map some) as' b := fun b h => by
    rw [eo2] at h
    by_cases c : ∃ j, j ∈ bs avs ∧ ownAt σ ρ j b
    · obtain ⟨j, hj, q⟩ := c
      obtain ⟨i, e⟩ := bs_mem.mp hj
      obtain ⟨ds, t, t', e0, e1, e2, e3⟩ := (g j).2 i e
      have o1 := (own_call S A hs).mpr ⟨j, e, q⟩
      exact .inr ⟨i, o1.1, ds, .inr e0⟩
    · exact .inl ⟨h, c⟩
  have sm2 : Same (Fz (hidC hid σ ρ avs) (vs.map some) as' H') (Fz hid σ ρ2 H') := fz_less less
  have sm : Same (Fz hid σ ρ H) (Fz hid σ ρ2 H') := by
    have z := E'.same
    have e : Fz (hidC hid σ ρ avs) (vs.map some) as H = Fz hid σ ρ H := by
      show fz _ _ = fz _ _
      rw [eo]
    rw [e] at z
    exact z.trans sm2
  have keep : ∀ b, Oa hid σ ρ b → (¬ ∃ j, j ∈ bs avs ∧ ownAt σ ρ j b) → H' b = H b := fun b h n => E'.keep b ⟨h, n⟩
  have keepH : ∀ b, hid b → H' b = H b := fun b h => keep b (.inl h) fun ⟨j, _, q⟩ => S.sep j b q h
  refine ⟨⟨by rw [l]; exact S.len, fun j s e => ?_, fun i j a h1 h2 => S.one i j a ((hown i a).mp h1) ((hown j a).mp h2), fun i a h => S.sep i a ((hown i a).mp h), fun b h => ?_, fun j ds e => ?_⟩, ⟨sm, keepH⟩, sm2⟩
  · by_cases c : j ∈ bs avs
    · obtain ⟨i, ei⟩ := bs_mem.mp c
      obtain ⟨ds, t, t', e0, e1, e2, e3⟩ := (g j).2 i ei
      rw [e] at e3
      cases e3
      obtain ⟨o, h1, r⟩ := S'.rel i _ e0
      cases r with
      | bor r1 r2 =>
        rename_i a xs
        obtain ⟨x, ex, qx⟩ := paired_at A ei
        have qx : σ[j]? = some (some x) := qx
        rw [List.getElem?_map, ex] at h1
        have exx : x = .ref a := by simpa using h1
        subst exx
        refine ⟨_, qx, ?_⟩
        cases t <;> simp [Sl.mut] at e2 <;> subst e2
        · exact .own r1 (r2.mono sm2)
        · exact .bor r1 (r2.mono sm2)
    · rw [(g j).1 c] at e
      obtain ⟨o, h1, r⟩ := S.rel j s e
      refine ⟨o, h1, ?_⟩
      have free : ∀ a, ownAt σ ρ j a → H' a = H a := fun a q => keep a (.inr ⟨j, q⟩) fun ⟨k, hk, qk⟩ => c (S.one k j a qk q ▸ hk)
      cases r with
      | un => exact .un _
      | val r => exact .val (r.mono sm)
      | scr r => exact .scr (sm.seq r)
      | fn n => exact .fn n
      | own r1 r2 => exact .own (by rw [free _ ⟨h1, _, .inl e⟩]; exact r1) (r2.mono sm)
      | bor r1 r2 => exact .bor (by rw [free _ ⟨h1, _, .inr e⟩]; exact r1) (r2.mono sm)
  · obtain ⟨o, e⟩ := S.hh b h
    exact ⟨o, by rw [keepH b h]; exact e⟩
  · by_cases c : j ∈ bs avs
    · obtain ⟨i, ei⟩ := bs_mem.mp c
      obtain ⟨es, t, t', e0, e1, e2, e3⟩ := (g j).2 i ei
      rw [e] at e3
      cases e3
      cases t <;> simp [Sl.mut] at e2
      exact S.bor j _ e1
    · rw [(g j).1 c] at e
      exact S.bor j ds e
end

/-! ### the rules -/
def rdA (K : PySem.W.Frag) (T : VT) (W : WX) (f : MA) : TA := fun σ H Q => ∃ hid B ρ, SR K T hid B H σ ρ ∧ Res K T W hid B σ ρ H (f ρ) fun avs ρ' H' => ∀ vs, Paired (AVr K hid σ ρ' H') vs avs → Q vs H'
abbrev XA (X : Cx) (T : VT) (W : WX) (es : List Expr) (f : MA) : Prop := PA X es (rdA X.K T W f)
section
variable {X : Cx} {T : VT} {W : WX} {pos : Pos} {a : Expr} {es : List Expr} {f : ME} {fa : MA}
theorem anil : XA X T W [] mANil := pa_nil.weak fun σ H Q ⟨hid, B, ρ, S, q⟩ => Res.here S q [] .nil
theorem avr_mono {K : PySem.W.Frag} {hid : Addr → Prop} {σ : L2.St} {ρ ρ' : R} {H H' : Hp} {x : V} {av : AV} (E : Ext hid σ ρ H σ ρ' H') (h : AVr K hid σ ρ H x av) : AVr K hid σ ρ' H' x av := by
  cases av with
  | v d => exact Rp.mono E.same d h
  | b j => exact h
  | r j => exact h
theorem av (ha : XE X T W a f) (hr : XA X T W es fa) (hs : starEach (a :: es) X.env = (false, eval a X.env) :: starEach es X.env := by rfl) : XA X T W (a :: es) (mAv f fa) :=
  (pa_cons ha hr hs).weak fun σ H Q ⟨hid, B, ρ, S, q⟩ => ⟨hid, B, ρ, S, (Res.bind q).imp fun d ρ1 H1 S1 E1 q1 x rx => ⟨hid, B, ρ1, S1, (Res.bind q1).imp fun ds ρ2 H2 S2 E2 q2 xs rxs =>
    Res.here S2 q2 (x :: xs) (.cons (rx.mono E2.same) rxs)⟩⟩
theorem has_v {K : PySem.W.Frag} {hid : Addr → Prop} {B σ : L2.St} {ρ : R} {H : Hp} {i : Nat} {s : Sl} (S : SR K T hid B H σ ρ) (h : ρ[i]? = some s) (hs : s ≠ .un) : ∃ v, σ[i]? = some (some v) := by
  obtain ⟨o, e, r⟩ := S.rel i s h
  cases r with
  | un => exact absurd rfl hs
  | val _ => exact ⟨_, e⟩
  | own _ _ => exact ⟨_, e⟩
  | bor _ _ => exact ⟨_, e⟩
  | scr _ => exact ⟨_, e⟩
  | fn _ => exact ⟨_, e⟩
theorem ab (i : Nat) {x : Str} {p : Pos} (hr : XA X T W es fa) (hN : X.N[i]? = some x := by rfl) (hv : Vis X.env.scope x := by first | exact Or.inl rfl | exact Or.inr (Or.inl rfl) | exact Or.inr (Or.inr rfl)) (hd : (x == ("__debug__" : Str)) = false := by decide)
    (hcd : (x == ("__classdict__" : Str)) = false := by decide) (hs : starEach (.Name x p :: es) X.env = (false, eval (.Name x p) X.env) :: starEach es X.env := by rfl) : XA X T W (.Name x p :: es) (mAb i fa) :=
  (pa_cons (pe_var hN hv hd hcd) hr hs).weak fun σ H Q ⟨hid, B, ρ, S, q⟩ => by
    unfold mAb at q
    by_cases c : hasB ρ i = true
    · rw [if_pos c] at q
      have hv : ∃ v, σ[i]? = some (some v) := by
        unfold hasB at c
        split at c
        · rename_i e; exact has_v S e (by simp)
        · rename_i e; exact has_v S e (by simp)
        · cases c
      obtain ⟨v, e⟩ := hv
      exact ⟨v, e, hid, B, ρ, S, (Res.bind q).imp fun ds ρ2 H2 S2 E2 q2 xs rxs => Res.here S2 q2 (v :: xs) (.cons e rxs)⟩
    · rw [if_neg c] at q
      exact q.elim
theorem ar (i : Nat) {x : Str} {p : Pos} (hr : XA X T W es fa) (hN : X.N[i]? = some x := by rfl) (hv : Vis X.env.scope x := by first | exact Or.inl rfl | exact Or.inr (Or.inl rfl) | exact Or.inr (Or.inr rfl)) (hd : (x == ("__debug__" : Str)) = false := by decide)
    (hcd : (x == ("__classdict__" : Str)) = false := by decide) (hs : starEach (.Name x p :: es) X.env = (false, eval (.Name x p) X.env) :: starEach es X.env := by rfl) : XA X T W (.Name x p :: es) (mAr i fa) :=
  (pa_cons (pe_var hN hv hd hcd) hr hs).weak fun σ H Q ⟨hid, B, ρ, S, q⟩ => by
    unfold mAr at q
    by_cases c : hasR ρ i = true
    · rw [if_pos c] at q
      have hv : ∃ v, σ[i]? = some (some v) := by
        unfold hasR at c
        split at c
        · rename_i e; exact has_v S e (by simp)
        · rename_i e; exact has_v S e (by simp)
        · cases c
      obtain ⟨v, e⟩ := hv
      exact ⟨v, e, hid, B, ρ, S, (Res.bind q).imp fun ds ρ2 H2 S2 E2 q2 xs rxs => Res.here S2 q2 (v :: xs) (.cons e rxs)⟩
    · rw [if_neg c] at q
      exact q.elim
theorem rdCall {m : Mir} {σ : L2.St} {H : Hp} {Q : VK} (q : rdE X.K T W (mCall m fa) σ H Q) : tCallS (spM X.K T m) (WE W) (rdA X.K T W fa) σ H Q := by
  obtain ⟨hid, B, ρ, S, q⟩ := q
  refine ⟨hid, B, ρ, S, (Res.bind q).imp fun avs ρ1 H1 S1 E1 q1 vs A => ?_⟩
  by_cases nd : (bs avs).Nodup
  · rw [if_pos nd] at q1
    cases hs : toSl ρ1 avs with
    | none => rw [hs] at q1; exact q1.elim
    | some as =>
      rw [hs] at q1
      refine ⟨hidC hid σ ρ1 avs, as, S1.call A nd hs, ?_⟩
      have q1 : Res X.K T W hid B σ ρ1 H1 (match m as with
        | .ok d as' => match back avs as' ρ1 with
          | some ρ2 => .ok d ρ2
          | none => .no
        | .ex c as' => match back avs as' ρ1 with
          | some ρ2 => .ex c ρ2
          | none => .no
        | .no => .no) (fun d ρ' H' => ∀ v, Rp X.K (Fz hid σ ρ' H') v d → Q v H') := q1
      cases hm : m as with
      | no => rw [hm] at q1; exact q1.elim
      | ok d as' =>
        rw [hm] at q1
        intro v H' S' E' r
        have q1 : Res X.K T W hid B σ ρ1 H1 (match back avs as' ρ1 with
          | some ρ2 => .ok d ρ2
          | none => .no) (fun d ρ' H' => ∀ v, Rp X.K (Fz hid σ ρ' H') v d → Q v H') := q1
        cases hb : back avs as' ρ1 with
        | none => rw [hb] at q1; exact q1.elim
        | some ρ2 =>
          rw [hb] at q1
          obtain ⟨S2, E2, sm⟩ := S1.called A nd hs hb S' E'
          exact q1 H' S2 E2 v (r.mono sm)
      | ex c as' =>
        rw [hm] at q1
        intro H' S' E'
        have q1 : Res X.K T W hid B σ ρ1 H1 (match back avs as' ρ1 with
          | some ρ2 => .ex c ρ2
          | none => .no) (fun d ρ' H' => ∀ v, Rp X.K (Fz hid σ ρ' H') v d → Q v H') := q1
        cases hb : back avs as' ρ1 with
        | none => rw [hb] at q1; exact q1.elim
        | some ρ2 =>
          rw [hb] at q1
          obtain ⟨S2, E2, sm⟩ := S1.called A nd hs hb S' E'
          exact q1 H' S2 E2
  · rw [if_neg nd] at q1
    exact q1.elim
variable {k : Nat} {fp : Addr} {fd : FuncData} {ps : List Str} {m : Mir} {x : Str} {p : Pos}
theorem xcall (F : FnOk X.prog X.w X.K X.mg X.base (L2.CX X.prog X.w) k fp fd ps (spM X.K T m)) (hr : Room k X.A) (hg : Gl X x) (hm : X.mg x = some (.ref fp)) (hk : PySem.W.keepIn X.K (.ref fp) = true) (hb : Binds X.K fd ps []) (tk : Takes X W)
    (ha : XA X T W (a :: es) fa) (hdb : (x == ("__debug__" : Str)) = false := by decide) (he : starEach (a :: es) X.env = (false, eval a X.env) :: starEach es X.env := by rfl) (hpl : (backTo pos (starEach es X.env)).any (·.1) = false := by rfl) :
    XE X T W (.Call (.Name x p) (a :: es) [] pos) (mCall m fa) := (pe_callS F hr hg hm hk hb (fun σ => passAt tk σ) ha hdb he hpl).weak fun σ H Q q => rdCall q
end
end VL

set_option Elab.async false
set_option linter.all false
set_option maxRecDepth 100000
set_option maxHeartbeats 4000000
/-! V6: operations on data: arithmetic, comparisons, subscripts, slices, len, isinstance, all, any, ranges, copies. -/
namespace VL
open PySem PySem.Spec PyProof.Rows L2

/-! ### arithmetic and + -/
def addD : PyData → PyData → Option PyData
  | .int i, .int j => some (.int (i + j))
  | .str a, .str b => if fits (a.length + b.length) then some (.str (a ++ b)) else none
  | .list a, .list b => if fits (a.length + b.length) then some (.list (a ++ b)) else none
  | .tuple a, .tuple b => if fits (a.length + b.length) then some (.tuple (a ++ b)) else none
  | _, _ => none
def subD : PyData → PyData → Option PyData
  | .int i, .int j => some (.int (i - j))
  | _, _ => none
def mulI : PyData → PyData → Option PyData
  | .int i, .int j => if decide (i.natAbs.log2 + j.natAbs.log2 < 1000000) then some (.int (i * j)) else none
  | _, _ => none
def divD : PyData → PyData → Option PyData
  | .int i, .int j => if decide (0 < j ∧ j.natAbs.log2 < 9000) then some (.int (i / j)) else none
  | _, _ => none
def modD : PyData → PyData → Option PyData
  | .int i, .int j => if decide (j ≠ 0) then some (.int (i.fmod j)) else none
  | _, _ => none
def powD : PyData → PyData → Option PyData
  | .int i, .int j => if decide (0 ≤ j ∧ j ≤ 1000000 ∧ i.natAbs < 2 ^ 64) then some (.int (i ^ j.toNat)) else none
  | _, _ => none
def negD : PyData → Option PyData
  | .int i => some (.int (-i))
  | _ => none
section
variable {K : PySem.W.Frag}
theorem rp_int {F : Hp} {x : V} {i : Int} (h : Rp K F x (.int i)) : x = .int i := by cases h; rfl
theorem rp_str {F : Hp} {x : V} {i : Str} (h : Rp K F x (.str i)) : x = .str i := by cases h; rfl
theorem rp_bl {F : Hp} {x : V} {i : Bool} (h : Rp K F x (.bool i)) : x = .bl i := by cases h; rfl
theorem pure_ii {op : PyData → PyData → Option PyData} {C : Int → Int → Prop} {g : Int → Int → Int} (h : ∀ d e res, op d e = some res → ∃ i j, d = .int i ∧ e = .int j ∧ C i j ∧ res = .int (g i j)) : Pure2 K (rI C fun i j => .int (g i j)) op := by
  intro O H x y d e res Q hO rx ry ho q
  obtain ⟨i, j, rfl, rfl, hc, rfl⟩ := h _ _ _ ho
  exact ⟨i, j, rp_int rx, rp_int ry, hc, q _ H (Same.refl _) (.int _)⟩
theorem pure_ii0 {op : PyData → PyData → Option PyData} {g : Int → Int → Int} (h : ∀ d e res, op d e = some res → ∃ i j, d = .int i ∧ e = .int j ∧ res = .int (g i j)) : Pure2 K (rI0 fun i j => .int (g i j)) op := by
  intro O H x y d e res Q hO rx ry ho q
  obtain ⟨i, j, rfl, rfl, rfl⟩ := h _ _ _ ho
  exact ⟨i, j, rp_int rx, rp_int ry, q _ H (Same.refl _) (.int _)⟩
theorem pure_ib0 {op : PyData → PyData → Option PyData} {g : Int → Int → Bool} (h : ∀ d e res, op d e = some res → ∃ i j, d = .int i ∧ e = .int j ∧ res = .bool (g i j)) : Pure2 K (rI0 fun i j => .bl (g i j)) op := by
  intro O H x y d e res Q hO rx ry ho q
  obtain ⟨i, j, rfl, rfl, rfl⟩ := h _ _ _ ho
  exact ⟨i, j, rp_int rx, rp_int ry, q _ H (Same.refl _) (.bl _)⟩
theorem pure_sub : Pure2 K (rI0 fun i j => .int (i - j)) subD := pure_ii0 fun d e res h => by
  unfold subD at h
  split at h
  · cases h; exact ⟨_, _, rfl, rfl, rfl⟩
  · cases h
theorem pure_mul : Pure2 K (rI CMulW fun i j => .int (i * j)) mulI := pure_ii fun d e res h => by
  unfold mulI at h
  split at h
  · split at h
    · rename_i i j hc; cases h; exact ⟨_, _, rfl, rfl, of_decide_eq_true (p := i.natAbs.log2 + j.natAbs.log2 < 1000000) hc, rfl⟩
    · cases h
  · cases h
theorem pure_div : Pure2 K (rI CDivW fun i j => .int (i / j)) divD := pure_ii fun d e res h => by
  unfold divD at h
  split at h
  · split at h
    · rename_i i j hc; cases h; exact ⟨_, _, rfl, rfl, of_decide_eq_true (p := 0 < j ∧ j.natAbs.log2 < 9000) hc, rfl⟩
    · cases h
  · cases h
theorem pure_mod : Pure2 K (rI (fun _ j => j ≠ 0) fun i j => .int (i.fmod j)) modD := pure_ii fun d e res h => by
  unfold modD at h
  split at h
  · split at h
    · rename_i i j hc; cases h; exact ⟨_, _, rfl, rfl, of_decide_eq_true hc, rfl⟩
    · cases h
  · cases h
theorem pure_pow : Pure2 K (rI CPow fun i j => .int (i ^ j.toNat)) powD := pure_ii fun d e res h => by
  unfold powD at h
  split at h
  · split at h
    · rename_i i j hc; cases h; exact ⟨_, _, rfl, rfl, of_decide_eq_true (p := 0 ≤ j ∧ j ≤ 1000000 ∧ i.natAbs < 2 ^ 64) hc, rfl⟩
    · cases h
  · cases h
theorem pure_neg : Pure1 K (rU fun i => .int (-i)) negD := by
  intro O H x d res Q hO rx ho q
  unfold negD at ho
  split at ho
  · cases ho; exact ⟨_, rp_int rx, q _ H (Same.refl _) (.int _)⟩
  · cases ho
theorem rp_lst {F : Hp} {x : V} {ds : List PyData} (h : Rp K F x (.list ds)) : ∃ a xs, x = .ref a ∧ F a = some (.lst xs) ∧ RpAll K F xs ds := by
  cases h with
  | lst h1 h2 => exact ⟨_, _, rfl, h1, h2⟩
theorem rp_tup {F : Hp} {x : V} {ds : List PyData} (h : Rp K F x (.tuple ds)) : ∃ a xs, x = .ref a ∧ SqT K F a xs ∧ RpAll K F xs ds := by
  cases h with
  | tup h1 h2 => exact ⟨_, _, rfl, h1, h2⟩
theorem rpall_nil {F : Hp} {xs : List V} {ds : List PyData} (h : RpAll K F xs ds) : xs = [] ↔ ds = [] := by
  cases h <;> simp
def rAddD (K : PySem.W.Frag) : R2 := fun x y H Q => rI0 (fun i j => .int (i + j)) x y H Q ∨ (∃ i j, x = .str i ∧ y = .str j ∧ i.length + j.length ≤ sizeLine ∧ Q (.str (i ++ j)) H) ∨ rCat x y H Q ∨ rCatA K x y H Q
theorem op_addD {X : Cx} : OpR X (binaryOp .Add) (rAddD X.K) := op_add.or (op_add_str.or (op_cat.or op_catA))
theorem pure_add : Pure2 K (rAddD K) addD := by
  intro O H x y d e res Q hO rx ry ho q
  unfold addD at ho
  split at ho
  · cases ho; exact .inl ⟨_, _, rp_int rx, rp_int ry, q _ H (Same.refl _) (.int _)⟩
  · split at ho
    · rename_i hz; cases ho; exact .inr (.inl ⟨_, _, rp_str rx, rp_str ry, sz_fits hz, q _ H (Same.refl _) (.str _)⟩)
    · cases ho
  · split at ho
    · rename_i hz
      cases ho
      obtain ⟨a, xs, rfl, h1, h2⟩ := rp_lst rx
      obtain ⟨b, ys, rfl, h3, h4⟩ := rp_lst ry
      refine .inr (.inr (.inl ⟨a, b, xs, ys, rfl, rfl, fz_le _ _ h1, fz_le _ _ h3, by rw [h2.length, h4.length]; exact sz_fits hz, fun p hp => ?_⟩))
      obtain ⟨sm, r⟩ := lst_new hO hp (h2.append h4)
      exact q _ _ sm r
    · cases ho
  · split at ho
    · rename_i hz
      cases ho
      obtain ⟨a, xs, rfl, h1, h2⟩ := rp_tup rx
      obtain ⟨b, ys, rfl, h3, h4⟩ := rp_tup ry
      refine .inr (.inr (.inr ⟨a, b, xs, ys, rfl, rfl, seqT_same fz_le h1, seqT_same fz_le h3, by rw [h2.length, h4.length]; exact sz_fits hz, fun e => ?_, fun _ e => ?_, fun _ _ p hp => ?_⟩))
      · have e' := (rpall_nil h2).mp e
        subst e'
        exact q _ H (Same.refl _) ry
      · have e' := (rpall_nil h4).mp e
        subst e'
        rw [List.append_nil] at q
        exact q _ H (Same.refl _) rx
      · obtain ⟨sm, r⟩ := tup_new hO hp (h2.append h4)
        exact q _ _ sm r
    · cases ho
  · cases ho

/-! ### comparisons -/
def okD (d : PyData) : Bool := d.plain && decide (d.depth ≤ 60)
def eqD (d e : PyData) : Option PyData := if okD d && okD e then some (.bool (PyData.eqv d e)) else none
def neD (d e : PyData) : Option PyData := if okD d && okD e then some (.bool (!PyData.eqv d e)) else none
def rEqP (K : PySem.W.Frag) (f : Bool → Bool) : R2 := fun x y H Q => ∃ d e, Dp K H x d ∧ Dp K H y e ∧ okD d = true ∧ okD e = true ∧ Q (.bl (f (PyData.eqv d e))) H
theorem okD_plain {d : PyData} (h : okD d = true) : d.plain = true := ((Bool.and_eq_true _ _).mp h).1
theorem okD_depth {d : PyData} (h : okD d = true) : d.depth ≤ 60 := of_decide_eq_true ((Bool.and_eq_true _ _).mp h).2
theorem op_eqP {X : Cx} (hu : X.A.units + 64 < cLine) : OpR X (compareOp .Eq) (rEqP X.K id) := by
  intro pins s σ H x y v u Q I rx ry h
  obtain ⟨d, e, hd, he, sd, se, q⟩ := h
  obtain ⟨as, r1⟩ := Dp.reads I d x v hd rx
  obtain ⟨bs, r2⟩ := Dp.reads I e y u he ry
  have z := okD_depth sd
  exact SeqAt.eq_plain r1 r2 (okD_plain sd) (okD_plain se) (by omega) ⟨.bl _, H, I, rfl, q⟩
theorem op_neP {X : Cx} (hu : X.A.units + 64 < cLine) : OpR X (compareOp .NotEq) (rEqP X.K not) := by
  intro pins s σ H x y v u Q I rx ry h
  obtain ⟨d, e, hd, he, sd, se, q⟩ := h
  obtain ⟨as, r1⟩ := Dp.reads I d x v hd rx
  obtain ⟨bs, r2⟩ := Dp.reads I e y u he ry
  have z := okD_depth sd
  exact SeqAt.ne_plain r1 r2 (okD_plain sd) (okD_plain se) (by omega) ⟨.bl _, H, I, rfl, q⟩
theorem dpOf {O : Addr → Prop} {H : Hp} {x : V} {d : PyData} (r : Rp K (fz O H) x d) : Dp K H x d := Rp.dp d (r.mono fz_le)
theorem pure_eq : Pure2 K (rEqP K id) eqD := by
  intro O H x y d e res Q hO rx ry ho q
  unfold eqD at ho
  split at ho
  · rename_i hz
    cases ho
    obtain ⟨z1, z2⟩ := (Bool.and_eq_true _ _).mp hz
    exact ⟨d, e, dpOf rx, dpOf ry, z1, z2, q _ H (Same.refl _) (.bl _)⟩
  · cases ho
theorem pure_ne : Pure2 K (rEqP K not) neD := by
  intro O H x y d e res Q hO rx ry ho q
  unfold neD at ho
  split at ho
  · rename_i hz
    cases ho
    obtain ⟨z1, z2⟩ := (Bool.and_eq_true _ _).mp hz
    exact ⟨d, e, dpOf rx, dpOf ry, z1, z2, q _ H (Same.refl _) (.bl _)⟩
  · cases ho
def ltD : PyData → PyData → Option PyData
  | .int i, .int j => some (.bool (decide (i < j)))
  | _, _ => none
def leD : PyData → PyData → Option PyData
  | .int i, .int j => some (.bool (decide (i ≤ j)))
  | _, _ => none
def gtD : PyData → PyData → Option PyData
  | .int i, .int j => some (.bool (decide (j < i)))
  | _, _ => none
def geD : PyData → PyData → Option PyData
  | .int i, .int j => some (.bool (decide (j ≤ i)))
  | _, _ => none
theorem pure_lt : Pure2 K (rI0 fun i j => .bl (decide (i < j))) ltD := pure_ib0 fun d e res h => by
  unfold ltD at h
  split at h
  · cases h; exact ⟨_, _, rfl, rfl, rfl⟩
  · cases h
theorem pure_le : Pure2 K (rI0 fun i j => .bl (decide (i ≤ j))) leD := pure_ib0 fun d e res h => by
  unfold leD at h
  split at h
  · cases h; exact ⟨_, _, rfl, rfl, rfl⟩
  · cases h
theorem pure_gt : Pure2 K (rI0 fun i j => .bl (decide (j < i))) gtD := pure_ib0 fun d e res h => by
  unfold gtD at h
  split at h
  · cases h; exact ⟨_, _, rfl, rfl, rfl⟩
  · cases h
theorem pure_ge : Pure2 K (rI0 fun i j => .bl (decide (j ≤ i))) geD := pure_ib0 fun d e res h => by
  unfold geD at h
  split at h
  · cases h; exact ⟨_, _, rfl, rfl, rfl⟩
  · cases h
theorem le_bool {d e res : PyData} (h : leD d e = some res) : ∃ k, res = .bool k := by
  unfold leD at h
  split at h
  · cases h; exact ⟨_, rfl⟩
  · cases h
theorem lt_bool {d e res : PyData} (h : ltD d e = some res) : ∃ k, res = .bool k := by
  unfold ltD at h
  split at h
  · cases h; exact ⟨_, rfl⟩
  · cases h
def isNoneD : PyData → Bool
  | .none => true
  | _ => false
def isD (d e : PyData) : Option PyData := if isNoneD e then some (.bool (isNoneD d)) else none
def isntD (d e : PyData) : Option PyData := if isNoneD e then some (.bool (!isNoneD d)) else none
theorem isNone_rp {F : Hp} {x : V} {d : PyData} (r : Rp K F x d) : decide (x = .non) = isNoneD d := by
  cases r <;> simp [isNoneD]
theorem isNone_eq {d : PyData} (h : isNoneD d = true) : d = .none := by
  cases d <;> simp [isNoneD] at h ⊢
theorem pure_is : Pure2 K (fun x y H Q => y = .non ∧ Q (.bl (decide (x = .non))) H) isD := by
  intro O H x y d e res Q hO rx ry ho q
  unfold isD at ho
  split at ho
  · rename_i hz
    cases ho
    have e' := isNone_eq hz
    subst e'
    cases ry
    exact ⟨rfl, by rw [isNone_rp rx]; exact q _ H (Same.refl _) (.bl _)⟩
  · cases ho
theorem pure_isnt : Pure2 K (fun x y H Q => y = .non ∧ Q (.bl (!decide (x = .non))) H) isntD := by
  intro O H x y d e res Q hO rx ry ho q
  unfold isntD at ho
  split at ho
  · rename_i hz
    cases ho
    have e' := isNone_eq hz
    subst e'
    cases ry
    exact ⟨rfl, by rw [isNone_rp rx]; exact q _ H (Same.refl _) (.bl _)⟩
  · cases ho
/-! in, not in -/
def inSeq (f : Bool → Bool) (d : PyData) (es : List PyData) : Option PyData := if okD d && PyData.plainAll es then some (.bool (f (es.any fun y => PyData.eqv y d))) else none
def inD (f : Bool → Bool) (d e : PyData) : Option PyData := match e with
  | .list es => inSeq f d es
  | .tuple es => inSeq f d es
  | .str z => match d with
    | .str i => some (.bool (f (!(Builtin.Str.occurrences z i 0 z.length 1).isEmpty)))
    | _ => none
  | _ => none
def rInP (K : PySem.W.Frag) (f : Bool → Bool) : R2 := fun x y H Q => ∃ d es, Dp K H x d ∧ (Dp K H y (.list es) ∨ Dp K H y (.tuple es)) ∧ okD d = true ∧ PyData.plainAll es = true ∧ Q (.bl (f (es.any fun z => PyData.eqv z d))) H
theorem op_inP {X : Cx} (hu : X.A.units + 64 < cLine) : OpR X (compareOp .In) (rInP X.K id) := by
  intro pins s σ H x y v u Q I rx ry h
  obtain ⟨d, es, hd, he, sd, se, q⟩ := h
  obtain ⟨as, r1⟩ := Dp.reads I d x v hd rx
  have z := okD_depth sd
  rcases he with he | he
  · obtain ⟨bs, r2⟩ := Dp.reads I _ y u he ry
    exact SeqAt.in_list_data r2 r1 se (okD_plain sd) (by omega) ⟨.bl _, H, I, rfl, q⟩
  · obtain ⟨bs, r2⟩ := Dp.reads I _ y u he ry
    exact SeqAt.in_tuple_data r2 r1 se (okD_plain sd) (by omega) ⟨.bl _, H, I, rfl, q⟩
theorem op_notinP {X : Cx} (hu : X.A.units + 64 < cLine) : OpR X (compareOp .NotIn) (rInP X.K not) := by
  intro pins s σ H x y v u Q I rx ry h
  obtain ⟨d, es, hd, he, sd, se, q⟩ := h
  obtain ⟨as, r1⟩ := Dp.reads I d x v hd rx
  have z := okD_depth sd
  rcases he with he | he
  · obtain ⟨bs, r2⟩ := Dp.reads I _ y u he ry
    exact SeqAt.notIn_list_data r2 r1 se (okD_plain sd) (by omega) ⟨.bl _, H, I, rfl, q⟩
  · obtain ⟨bs, r2⟩ := Dp.reads I _ y u he ry
    exact SeqAt.notIn_tuple_data r2 r1 se (okD_plain sd) (by omega) ⟨.bl _, H, I, rfl, q⟩
def rInA (K : PySem.W.Frag) : R2 := fun x y H Q => rInP K id x y H Q ∨ ∃ i j, x = .str i ∧ y = .str j ∧ Q (.bl (!(Builtin.Str.occurrences j i 0 j.length 1).isEmpty)) H
def rNotInA (K : PySem.W.Frag) : R2 := fun x y H Q => rInP K not x y H Q ∨ ∃ i j, x = .str i ∧ y = .str j ∧ Q (.bl (!(!(Builtin.Str.occurrences j i 0 j.length 1).isEmpty))) H
theorem op_inA {X : Cx} (hu : X.A.units + 64 < cLine) : OpR X (compareOp .In) (rInA X.K) := (op_inP hu).or op_in_str
theorem op_notinA {X : Cx} (hu : X.A.units + 64 < cLine) : OpR X (compareOp .NotIn) (rNotInA X.K) := (op_notinP hu).or op_notin_str
theorem pure_in : Pure2 K (rInA K) (inD id) := by
  intro O H x y d e res Q hO rx ry ho q
  unfold inD at ho
  split at ho
  · unfold inSeq at ho
    split at ho
    · rename_i hz
      cases ho
      obtain ⟨z1, z2⟩ := (Bool.and_eq_true _ _).mp hz
      exact .inl ⟨d, _, dpOf rx, .inl (dpOf ry), z1, z2, q _ H (Same.refl _) (.bl _)⟩
    · cases ho
  · unfold inSeq at ho
    split at ho
    · rename_i hz
      cases ho
      obtain ⟨z1, z2⟩ := (Bool.and_eq_true _ _).mp hz
      exact .inl ⟨d, _, dpOf rx, .inr (dpOf ry), z1, z2, q _ H (Same.refl _) (.bl _)⟩
    · cases ho
  · split at ho
    · cases ho
      exact .inr ⟨_, _, rp_str rx, rp_str ry, q _ H (Same.refl _) (.bl _)⟩
    · cases ho
  · cases ho
theorem pure_notin : Pure2 K (rNotInA K) (inD not) := by
  intro O H x y d e res Q hO rx ry ho q
  unfold inD at ho
  split at ho
  · unfold inSeq at ho
    split at ho
    · rename_i hz
      cases ho
      obtain ⟨z1, z2⟩ := (Bool.and_eq_true _ _).mp hz
      exact .inl ⟨d, _, dpOf rx, .inl (dpOf ry), z1, z2, q _ H (Same.refl _) (.bl _)⟩
    · cases ho
  · unfold inSeq at ho
    split at ho
    · rename_i hz
      cases ho
      obtain ⟨z1, z2⟩ := (Bool.and_eq_true _ _).mp hz
      exact .inl ⟨d, _, dpOf rx, .inr (dpOf ry), z1, z2, q _ H (Same.refl _) (.bl _)⟩
    · cases ho
  · split at ho
    · cases ho
      exact .inr ⟨_, _, rp_str rx, rp_str ry, q _ H (Same.refl _) (.bl _)⟩
    · cases ho
  · cases ho

/-! ### subscripts and slices -/
def ixD (d e : PyData) : Option PyData := match d, e with
  | .list ds, .int i => atI ds i
  | .tuple ds, .int i => atI ds i
  | .str z, .int i => if fits z.length then (atI z.cps.toList i).map fun c => .str ⟨#[c]⟩ else none
  | _, _ => none
theorem rpall_at {F : Hp} {xs : List V} {ds : List PyData} {i : Int} {d : PyData} (h : RpAll K F xs ds) (e : atI ds i = some d) : ∃ v, atI xs i = some v ∧ Rp K F v d := by
  unfold atI at e ⊢
  rw [h.length]
  cases z : ixN ds.length i with
  | none => rw [z] at e; cases e
  | some j =>
    rw [z] at e
    exact h.get e
theorem pure_ix : Pure2 K (rIx K) ixD := by
  intro O H x y d e res Q hO rx ry ho q
  unfold ixD at ho
  split at ho
  · obtain ⟨a, xs, rfl, h1, h2⟩ := rp_lst rx
    obtain ⟨v, e1, r⟩ := rpall_at h2 ho
    exact .inl ⟨a, xs, _, v, rfl, rp_int ry, SqL.of (fz_le _ _ h1), e1, q _ H (Same.refl _) r⟩
  · obtain ⟨a, xs, rfl, h1, h2⟩ := rp_tup rx
    obtain ⟨v, e1, r⟩ := rpall_at h2 ho
    exact .inr (.inl ⟨a, xs, _, v, rfl, rp_int ry, seqT_same fz_le h1, e1, q _ H (Same.refl _) r⟩)
  · split at ho
    · rename_i z i hz
      cases e1 : atI z.cps.toList i with
      | none => rw [e1] at ho; cases ho
      | some c =>
        rw [e1] at ho
        cases ho
        exact .inr (.inr ⟨z, i, c, rp_str rx, rp_int ry, sz_fits hz, e1, q _ H (Same.refl _) (.str _)⟩)
    · cases ho
  · cases ho
def cutD (ds : List PyData) (lo hi : Option Int) : List PyData := (ds.drop (HT.sIx ds.length 0 lo)).take (HT.sIx ds.length ds.length hi - HT.sIx ds.length 0 lo)
def slD (d : PyData) (lo hi : Option Int) : Option PyData := match d with
  | .list ds => some (.list (cutD ds lo hi))
  | .tuple ds => some (.tuple (cutD ds lo hi))
  | .str z => if fits z.length then some (.str (cutS z lo hi)) else none
  | _ => none
theorem rpall_cut {F : Hp} {xs : List V} {ds : List PyData} {lo hi : Option Int} (h : RpAll K F xs ds) : RpAll K F (cutV xs lo hi) (cutD ds lo hi) := by
  unfold cutV cutD
  rw [h.length]
  exact (h.drop _).take _
def rSlD (K : PySem.W.Frag) : V → Option Int → Option Int → Hp → VK → Prop := fun x lo hi H Q => rSlL K x lo hi H Q ∨ rSlA K x lo hi H Q ∨ rSlS x lo hi H Q
theorem sl_any {X : Cx} : SlR X (rSlD X.K) := sl_list.or (sl_tupA.or sl_str)
theorem pure_sl {O : Addr → Prop} {H : Hp} {x : V} {d res : PyData} {lo hi : Option Int} {Q : VK} (hO : ∀ b, O b → ∃ o, H b = some o) (rx : Rp K (fz O H) x d) (ho : slD d lo hi = some res) (q : ∀ v H', Same H H' → Rp K (fz O H') v res → Q v H') : rSlD K x lo hi H Q := by
  unfold slD at ho
  split at ho
  · cases ho
    obtain ⟨a, xs, rfl, h1, h2⟩ := rp_lst rx
    refine .inl ⟨a, xs, rfl, SqL.of (fz_le _ _ h1), fun p hp => ?_⟩
    obtain ⟨sm, r⟩ := lst_new hO hp (rpall_cut (lo := lo) (hi := hi) h2)
    exact q _ _ sm r
  · cases ho
    obtain ⟨a, xs, rfl, h1, h2⟩ := rp_tup rx
    refine .inr (.inl ⟨a, xs, rfl, seqT_same fz_le h1, fun w => ?_, fun _ p hp => ?_⟩)
    · refine q _ H (Same.refl _) ?_
      rename_i ds
      have e : cutD ds lo hi = ds := by
        unfold cutD
        rw [h2.length] at w
        rw [w.1, w.2]
        simp
      rw [e]
      exact rx
    · obtain ⟨sm, r⟩ := tup_new hO hp (rpall_cut (lo := lo) (hi := hi) h2)
      exact q _ _ sm r
  · split at ho
    · rename_i hz
      cases ho
      exact .inr (.inr ⟨_, rp_str rx, sz_fits hz, q _ H (Same.refl _) (.str _)⟩)
    · cases ho
  · cases ho
end
/-- a slice's part -/
abbrev MO := R → Oc (Option Int)
def mPn : MO := fun ρ => .ok none ρ
def mPs (f : ME) : MO := fun ρ => (f ρ).bind fun d ρ1 => match d with
  | .int i => .ok (some i) ρ1
  | _ => .no
def rdO (K : PySem.W.Frag) (T : VT) (W : WX) (f : MO) : TO := fun σ H Q => ∃ hid B ρ, SR K T hid B H σ ρ ∧ Res K T W hid B σ ρ H (f ρ) fun o ρ' H' => Q o H'
theorem _root_.L2.PO.weak {X : Cx} {e : Option Expr} {t t' : TO} (h : PO X e t) (w : ∀ σ H Q, t' σ H Q → t σ H Q) : PO X e t' := ⟨fun pins s σ H Q I q => h.run pins s σ H Q I (w σ H Q q)⟩
abbrev XO (X : Cx) (T : VT) (W : WX) (e : Option Expr) (f : MO) : Prop := PO X e (rdO X.K T W f)
def mSl (f : ME) (lo hi : MO) : ME := fun ρ => (f ρ).bind fun d ρ1 => (lo ρ1).bind fun l ρ2 => (hi ρ2).bind fun h ρ3 => Oc.opt (slD d l h) ρ3
section
variable {X : Cx} {T : VT} {W : WX} {pos p2 : Pos} {e a b : Expr} {lo hi : Option Expr} {f g : ME} {ml mh : MO}
theorem opn : XO X T W none mPn := po_none.weak fun σ H Q ⟨hid, B, ρ, S, q⟩ => Res.here S q
theorem ops (h : XE X T W e f) : XO X T W (some e) (mPs f) := (po_some h).weak fun σ H Q ⟨hid, B, ρ, S, q⟩ => ⟨hid, B, ρ, S, (Res.bind q).imp fun d ρ1 H1 S1 E1 q1 x rx => by
  cases d with
  | int i => exact ⟨i, rp_int rx, Res.here S1 q1⟩
  | _ => exact q1.elim⟩
theorem xsl (he : XE X T W e f) (hl : XO X T W lo ml) (hu : XO X T W hi mh) : XE X T W (.Subscript e (.Slice lo hi none p2) pos) (mSl f ml mh) :=
  (pe_slice sl_any he hl hu).weak fun σ H Q ⟨hid, B, ρ, S, q⟩ => ⟨hid, B, ρ, S, (Res.bind q).imp fun d ρ1 H1 S1 E1 q1 x rx => ⟨hid, B, ρ1, S1, (Res.bind q1).imp fun l ρ2 H2 S2 E2 q2 => ⟨hid, B, ρ2, S2, (Res.bind q2).imp fun h ρ3 H3 S3 E3 q3 => by
    obtain ⟨res, hr, q4⟩ := Res.opt S3 q3
    exact pure_sl S3.dom (rx.mono (E2.trans E3).same) hr fun v H' sm rv => q4 H' sm v rv⟩⟩⟩
theorem xix (ha : XE X T W a f) (hb : XE X T W b g) (hs : PlainIx b := by exact fun _ _ => rfl) : XE X T W (.Subscript a b pos) (m2 ixD f g) :=
  (pe_ix ix_seq ha hb hs).weak fun σ H Q q => rd2 pure_ix q
end
end VL

set_option Elab.async false
set_option linter.all false
set_option maxRecDepth 100000
set_option maxHeartbeats 4000000
/-! V7: built-ins over data, raising, own lists read and changed, the script. -/
namespace VL
open PySem PySem.Spec PyProof.Rows L2
section
variable {K : PySem.W.Frag}
/-! ### len, all, any, abs, max, min, int, sums -/
def lenD : List PyData → Option PyData
  | [.str z] => if fits z.length then some (.int (z.length : Nat)) else none
  | [.list ds] => some (.int (ds.length : Nat))
  | [.tuple ds] => some (.int (ds.length : Nat))
  | _ => none
theorem rp1 {F : Hp} {xs : List V} {d : PyData} (h : RpAll K F xs [d]) : ∃ x, xs = [x] ∧ Rp K F x d := by
  cases h with
  | cons r t => cases t; exact ⟨_, rfl, r⟩
theorem rp2 {F : Hp} {xs : List V} {d e : PyData} (h : RpAll K F xs [d, e]) : ∃ x y, xs = [x, y] ∧ Rp K F x d ∧ Rp K F y e := by
  cases h with
  | cons r t =>
    obtain ⟨y, rfl, r2⟩ := rp1 t
    exact ⟨_, y, rfl, r, r2⟩
theorem pure_len : PureN K (fun xs H Q => ∃ x n, xs = [x] ∧ LenV K x H n ∧ Q (.int n) H) lenD := by
  intro O H xs ds res Q hO rx ho q
  unfold lenD at ho
  split at ho
  · split at ho
    · rename_i hz
      cases ho
      obtain ⟨x, rfl, r⟩ := rp1 rx
      cases rp_str r
      exact ⟨_, _, rfl, ⟨sz_fits hz, rfl⟩, q _ H (Same.refl _) (.int _)⟩
    · cases ho
  · cases ho
    obtain ⟨x, rfl, r⟩ := rp1 rx
    obtain ⟨a, ys, rfl, h1, h2⟩ := rp_lst r
    exact ⟨_, _, rfl, .inl ⟨ys, SqL.of (fz_le _ _ h1), rfl⟩, by rw [h2.length]; exact q _ H (Same.refl _) (.int _)⟩
  · cases ho
    obtain ⟨x, rfl, r⟩ := rp1 rx
    obtain ⟨a, ys, rfl, h1, h2⟩ := rp_tup r
    exact ⟨_, _, rfl, .inr ⟨ys, seqT_same fz_le h1, rfl⟩, by rw [h2.length]; exact q _ H (Same.refl _) (.int _)⟩
  · cases ho
def boolsD : List PyData → Option (List Bool)
  | [] => some []
  | .bool b :: ds => (boolsD ds).map (b :: ·)
  | _ => none
def intsD : List PyData → Option (List Int)
  | [] => some []
  | .int b :: ds => (intsD ds).map (b :: ·)
  | _ => none
def strsD : List PyData → Option (List Str)
  | [] => some []
  | .str b :: ds => (strsD ds).map (b :: ·)
  | _ => none
theorem boolsD_of : ∀ {ds : List PyData} {bs : List Bool}, boolsD ds = some bs → ds = bs.map PyData.bool
  | [], bs, h => by cases h; rfl
  | d :: ds, bs, h => by
    cases d with
    | bool b =>
      cases e : boolsD ds with
      | none => simp [boolsD, e] at h
      | some cs => simp [boolsD, e] at h; subst h; rw [boolsD_of e]; rfl
    | _ => cases h
theorem intsD_of : ∀ {ds : List PyData} {bs : List Int}, intsD ds = some bs → ds = bs.map PyData.int
  | [], bs, h => by cases h; rfl
  | d :: ds, bs, h => by
    cases d with
    | int b =>
      cases e : intsD ds with
      | none => simp [intsD, e] at h
      | some cs => simp [intsD, e] at h; subst h; rw [intsD_of e]; rfl
    | _ => cases h
theorem strsD_of : ∀ {ds : List PyData} {bs : List Str}, strsD ds = some bs → ds = bs.map PyData.str
  | [], bs, h => by cases h; rfl
  | d :: ds, bs, h => by
    cases d with
    | str b =>
      cases e : strsD ds with
      | none => simp [strsD, e] at h
      | some cs => simp [strsD, e] at h; subst h; rw [strsD_of e]; rfl
    | _ => cases h
theorem rp_bools {F : Hp} : ∀ {bs : List Bool} {xs : List V}, RpAll K F xs (bs.map PyData.bool) → xs = bs.map V.bl
  | [], _, h => by cases h; rfl
  | b :: bs, _, h => by
    cases h with
    | cons r t => rw [rp_bl r, rp_bools t]; rfl
theorem rp_ints {F : Hp} : ∀ {bs : List Int} {xs : List V}, RpAll K F xs (bs.map PyData.int) → xs = bs.map V.int
  | [], _, h => by cases h; rfl
  | b :: bs, _, h => by
    cases h with
    | cons r t => rw [rp_int r, rp_ints t]; rfl
theorem rp_strs {F : Hp} : ∀ {bs : List Str} {xs : List V}, RpAll K F xs (bs.map PyData.str) → xs = bs.map V.str
  | [], _, h => by cases h; rfl
  | b :: bs, _, h => by
    cases h with
    | cons r t => rw [rp_str r, rp_strs t]; rfl
def allD : List PyData → Option PyData
  | [.list ds] => (boolsD ds).map fun bs => .bool (bs.all id)
  | _ => none
def anyD : List PyData → Option PyData
  | [.list ds] => (boolsD ds).map fun bs => .bool (bs.any id)
  | _ => none
theorem pure_all : PureN K (rAll K) allD := by
  intro O H xs ds res Q hO rx ho q
  unfold allD at ho
  split at ho
  · rename_i ds
    cases e : boolsD ds with
    | none => rw [e] at ho; cases ho
    | some bs =>
      rw [e] at ho
      cases ho
      obtain ⟨x, rfl, r⟩ := rp1 rx
      obtain ⟨a, ys, rfl, h1, h2⟩ := rp_lst r
      rw [boolsD_of e] at h2
      rw [rp_bools h2] at h1
      exact ⟨a, bs, rfl, SqL.of (fz_le _ _ h1), q _ H (Same.refl _) (.bl _)⟩
  · cases ho
theorem pure_any : PureN K (rAny K) anyD := by
  intro O H xs ds res Q hO rx ho q
  unfold anyD at ho
  split at ho
  · rename_i ds
    cases e : boolsD ds with
    | none => rw [e] at ho; cases ho
    | some bs =>
      rw [e] at ho
      cases ho
      obtain ⟨x, rfl, r⟩ := rp1 rx
      obtain ⟨a, ys, rfl, h1, h2⟩ := rp_lst r
      rw [boolsD_of e] at h2
      rw [rp_bools h2] at h1
      exact ⟨a, bs, rfl, SqL.of (fz_le _ _ h1), q _ H (Same.refl _) (.bl _)⟩
  · cases ho
def absD : List PyData → Option PyData
  | [.int i] => some (.int (if i < 0 then -i else i))
  | _ => none
theorem pure_abs : PureN K (fun xs H Q => ∃ i, xs = [.int i] ∧ Q (.int (if i < 0 then -i else i)) H) absD := by
  intro O H xs ds res Q hO rx ho q
  unfold absD at ho
  split at ho
  · cases ho
    obtain ⟨x, rfl, r⟩ := rp1 rx
    exact ⟨_, by rw [rp_int r], q _ H (Same.refl _) (.int _)⟩
  · cases ho
def max2D : List PyData → Option PyData
  | [.int i, .int j] => some (.int (if j > i then j else i))
  | _ => none
def min2D : List PyData → Option PyData
  | [.int i, .int j] => some (.int (if j < i then j else i))
  | _ => none
theorem pure_max2 : PureN K (fun xs H Q => ∃ i j, xs = [.int i, .int j] ∧ Q (.int (if j > i then j else i)) H) max2D := by
  intro O H xs ds res Q hO rx ho q
  unfold max2D at ho
  split at ho
  · cases ho
    obtain ⟨x, y, rfl, r, r2⟩ := rp2 rx
    exact ⟨_, _, by rw [rp_int r, rp_int r2], q _ H (Same.refl _) (.int _)⟩
  · cases ho
theorem pure_min2 : PureN K (fun xs H Q => ∃ i j, xs = [.int i, .int j] ∧ Q (.int (if j < i then j else i)) H) min2D := by
  intro O H xs ds res Q hO rx ho q
  unfold min2D at ho
  split at ho
  · cases ho
    obtain ⟨x, y, rfl, r, r2⟩ := rp2 rx
    exact ⟨_, _, by rw [rp_int r, rp_int r2], q _ H (Same.refl _) (.int _)⟩
  · cases ho
def int1D : List PyData → Option PyData
  | [.int i] => some (.int i)
  | [.bool b] => some (.int (if b then 1 else 0))
  | _ => none
theorem pure_int1 : PureN K (fun xs H Q => (∃ i, xs = [.int i] ∧ Q (.int i) H) ∨ ∃ k, xs = [.bl k] ∧ Q (.int (if k then 1 else 0)) H) int1D := by
  intro O H xs ds res Q hO rx ho q
  unfold int1D at ho
  split at ho
  · cases ho
    obtain ⟨x, rfl, r⟩ := rp1 rx
    exact .inl ⟨_, by rw [rp_int r], q _ H (Same.refl _) (.int _)⟩
  · cases ho
    obtain ⟨x, rfl, r⟩ := rp1 rx
    exact .inr ⟨_, by rw [rp_bl r], q _ H (Same.refl _) (.int _)⟩
  · cases ho
def sumD : List PyData → Option PyData
  | [.list ds] => (intsD ds).map fun ns => .int ns.sum
  | _ => none
theorem pure_sum : PureN K (rSum K) sumD := by
  intro O H xs ds res Q hO rx ho q
  unfold sumD at ho
  split at ho
  · rename_i ds
    cases e : intsD ds with
    | none => rw [e] at ho; cases ho
    | some bs =>
      rw [e] at ho
      cases ho
      obtain ⟨x, rfl, r⟩ := rp1 rx
      obtain ⟨a, ys, rfl, h1, h2⟩ := rp_lst r
      rw [intsD_of e] at h2
      rw [rp_ints h2] at h1
      exact ⟨a, bs, rfl, SqL.of (fz_le _ _ h1), q _ H (Same.refl _) (.int _)⟩
  · cases ho
/-! ### tuple(x), list(x) -/
def tupD : List PyData → Option PyData
  | [.list ds] => some (.tuple ds)
  | [.tuple ds] => some (.tuple ds)
  | _ => none
theorem pure_tup : PureN K (fun xs H Q => ∃ p ys, xs = [.ref p] ∧ ((SqL K H p ys ∧ ∀ l, H l = none → Q (.ref l) (L2.upd H l (.tup ys))) ∨ (SqT K H p ys ∧ Q (.ref p) H))) tupD := by
  intro O H xs ds res Q hO rx ho q
  unfold tupD at ho
  split at ho
  · cases ho
    obtain ⟨x, rfl, r⟩ := rp1 rx
    obtain ⟨a, ys, rfl, h1, h2⟩ := rp_lst r
    refine ⟨a, ys, rfl, .inl ⟨SqL.of (fz_le _ _ h1), fun l hl => ?_⟩⟩
    obtain ⟨sm, r⟩ := tup_new hO hl h2
    exact q _ _ sm r
  · cases ho
    obtain ⟨x, rfl, r⟩ := rp1 rx
    obtain ⟨a, ys, rfl, h1, h2⟩ := rp_tup r
    exact ⟨a, ys, rfl, .inr ⟨seqT_same fz_le h1, q _ H (Same.refl _) (.tup h1 h2)⟩⟩
  · cases ho
def listD : List PyData → Option (List PyData)
  | [.list ds] => some ds
  | [.tuple ds] => some ds
  | _ => none
theorem pure_list : PureL K (fun xs H Q => ∃ p ys, xs = [.ref p] ∧ (SqL K H p ys ∨ SqT K H p ys) ∧ ∀ l, H l = none → Q (.ref l) (L2.upd H l (.lst ys))) listD := by
  intro O H xs ds res Q hO rx ho q
  unfold listD at ho
  split at ho
  · cases ho
    obtain ⟨x, rfl, r⟩ := rp1 rx
    obtain ⟨a, ys, rfl, h1, h2⟩ := rp_lst r
    exact ⟨a, ys, rfl, .inl (SqL.of (fz_le _ _ h1)), fun l hl => q H l ys (Same.refl _) hl h2⟩
  · cases ho
    obtain ⟨x, rfl, r⟩ := rp1 rx
    obtain ⟨a, ys, rfl, h1, h2⟩ := rp_tup r
    exact ⟨a, ys, rfl, .inr (seqT_same fz_le h1), fun l hl => q H l ys (Same.refl _) hl h2⟩
  · cases ho
/-! ### isinstance -/
def tyD : PyData → String
  | .none => "NoneType"
  | .bool _ => "bool"
  | .int _ => "int"
  | .str _ => "str"
  | .list _ => "list"
  | .tuple _ => "tuple"
  | .dict _ => "dict"
def isiD (t : String) (d : PyData) : Option PyData := match d with
  | .dict _ => none
  | .bool _ => some (.bool (t == "bool" || t == "int"))
  | d => some (.bool (t == tyD d))
theorem tyx_of {O : Addr → Prop} {H : Hp} {x : V} {d : PyData} (r : Rp K (fz O H) x d) : TyX K H x (.type (tyD d)) := by
  cases r with
  | non => exact .base .non
  | bl b => exact .base (.bl b)
  | int i => exact .base (.int i)
  | str z => exact .base (.str z)
  | lst h1 h2 => exact .base (.lst (fz_le _ _ h1))
  | tup h1 h2 =>
    rcases seqT_same fz_le h1 with (h | ⟨o, h⟩) | ⟨o, its, n, h, hc, _⟩
    · exact .base (.tup h)
    · exact .fTuple h
    · exact .kTuple h hc
end
section
variable {X : Cx} {T : VT} {W : WX} {pos p2 : Pos} {e a b : Expr} {f g : ME}
def okTy (t : String) : Bool := t == "bool" || t == "int" || t == "str" || t == "list" || t == "tuple"
theorem kit_all {t : String} (ht : okTy t = true) : ∀ d : PyData, (∀ kvs, d ≠ .dict kvs) → ∀ res, isiD t d = some res → ∃ b, res = .bool b ∧ PySem.W.kitOne X.K (.type (tyD d)) (.type t) = some b := by
  have hc : t = "bool" ∨ t = "int" ∨ t = "str" ∨ t = "list" ∨ t = "tuple" := by
    unfold okTy at ht
    simpa [Bool.or_eq_true, beq_iff_eq, or_assoc] using ht
  intro d hd res hr
  cases d with
  | none => rcases hc with rfl | rfl | rfl | rfl | rfl <;> cases hr <;> exact ⟨_, rfl, kit_ty (a := "NoneType") (by decide +kernel)⟩
  | bool k => rcases hc with rfl | rfl | rfl | rfl | rfl <;> cases hr <;> exact ⟨_, rfl, kit_ty (a := "bool") (by decide +kernel)⟩
  | int k => rcases hc with rfl | rfl | rfl | rfl | rfl <;> cases hr <;> exact ⟨_, rfl, kit_ty (a := "int") (by first | (show _ = some true; decide +kernel) | (show _ = some false; decide +kernel))⟩
  | str k => rcases hc with rfl | rfl | rfl | rfl | rfl <;> cases hr <;> exact ⟨_, rfl, kit_ty (a := "str") (by first | (show _ = some true; decide +kernel) | (show _ = some false; decide +kernel))⟩
  | list k => rcases hc with rfl | rfl | rfl | rfl | rfl <;> cases hr <;> exact ⟨_, rfl, kit_ty (a := "list") (by first | (show _ = some true; decide +kernel) | (show _ = some false; decide +kernel))⟩
  | tuple k => rcases hc with rfl | rfl | rfl | rfl | rfl <;> cases hr <;> exact ⟨_, rfl, kit_ty (a := "tuple") (by first | (show _ = some true; decide +kernel) | (show _ = some false; decide +kernel))⟩
  | dict k => exact absurd rfl (hd k)
theorem xisi {tn : Str} {t : String} {q1 q2 : Pos} (hg : Gl X "isinstance") (hm : X.mg "isinstance" = none) (hg2 : Gl X tn) (hm2 : X.mg tn = none) (hv : bootBuiltins tn = some (.type t)) (ht : okTy t = true) (ha : XE X T W a f) (hn : tn ≠ "__name__" := by decide) (hdb : (tn == ("__debug__" : Str)) = false := by decide)
    (hs1 : starEach [a, .Name tn q1] X.env = (false, eval a X.env) :: starEach [.Name tn q1] X.env := by rfl) (hs2 : starEach [.Name tn q1] X.env = (false, eval (.Name tn q1) X.env) :: starEach [] X.env := by rfl) (hpl : (backTo pos (starEach [.Name tn q1] X.env)).any (·.1) = false := by rfl) :
    XE X T W (.Call (.Name "isinstance" q2) [a, .Name tn q1] [] pos) (m1 (isiD t) f) :=
  (pe_callB call_isi hg hm (by decide +kernel) (pa_cons ha (pa_cons (pe_bltn (v := .ty t) hg2 hm2 hv rfl hn hdb) pa_nil hs2) hs1) (by decide) (by decide) hs1 hpl).weak fun σ H Q q => by
    refine rd1 (r := fun x H1 Q => rIsi X.K [x, .ty t] H1 Q) ?_ q
    intro O H x d res Q hO rx ho q
    obtain ⟨b, rfl, hk⟩ := kit_all (X := X) ht d (fun kvs z => by subst z; cases ho) res ho
    exact ⟨x, .ty t, _, _, b, rfl, .ty t, tyx_of rx, hk, q _ H (Same.refl _) (.bl _)⟩
/-! ### list(range(..)) -/
def mLR1 (f : ME) : ML := fun ρ => (f ρ).bind fun d ρ1 => match d with
  | .int j => if decide (j.natAbs ≤ 16777216) then .ok (rngD 0 j.toNat) ρ1 else .no
  | _ => .no
theorem rng_rp {K : PySem.W.Frag} {F : Hp} (lo : Int) : ∀ n, RpAll K F ((List.range n).map fun i => V.int (lo + (i : Nat))) (rngD lo n) := fun n => by
  have e1 : ((List.range n).map fun i => V.int (lo + (i : Nat))) = ((List.range n).map fun i => lo + (i : Nat)).map V.int := by rw [List.map_map]; rfl
  have e2 : rngD lo n = ((List.range n).map fun i => lo + ((i : Nat) : Int)).map PyData.int := by unfold rngD; rw [List.map_map]; rfl
  rw [e1, e2]
  exact RpAll.ints
theorem llr1 {p p3 pos3 : Pos} (hc : X.calm = true) (hg : Gl X "list") (hm : X.mg "list" = none) (hg2 : Gl X "range") (hm2 : X.mg "range" = none) (ha : XE X T W a f) (na : starEach [a] X.env = (false, eval a X.env) :: starEach [] X.env := by rfl)
    (na2 : starEach [.Call (.Name "range" p3) [a] [] pos3] X.env = (false, eval (.Call (.Name "range" p3) [a] [] pos3) X.env) :: starEach [] X.env := by rfl) : XL X T W (.Call (.Name "list" p) [.Call (.Name "range" p3) [a] [] pos3] [] pos) (mLR1 f) :=
  (pe_listRg hc hg hm (prg_1 hg2 hm2 ha na) na2).weak fun σ H Q ⟨hid, B, ρ, S, q⟩ => ⟨hid, B, ρ, S, (Res.bind q).imp fun d ρ1 H1 S1 E1 q1 x rx => by
    cases d with
    | int j =>
      by_cases hz : decide (j.natAbs ≤ 16777216) = true
      · simp only [hz, if_true] at q1
        have hj := of_decide_eq_true hz
        refine ⟨j, rp_int rx, ⟨by omega, by omega, by omega, by omega, by omega⟩, fun p hp => ?_⟩
        refine Res.here S1 q1 p (rgV 0 j) hp ?_
        have z := rng_rp (K := X.K) (F := Fz hid σ ρ1 H1) 0 j.toNat
        unfold rgV
        simpa using z
      · simp only [hz] at q1
        exact q1.elim
    | _ => exact q1.elim⟩
/-! ### raise -/
theorem sraise (c : Nat) {B : String} {newId initId : String} {bmB : List Value} {C : Addr} {x m : Str} {j : Nat} {p q : Pos} {pos2 : Pos} (hc : X.calm = true) (tk : Takes X W) (F : ExcBaseFacts B newId initId bmB) (hq : PySem.W.excIn X.K C bmB newId = true) (gC : X.mg x = some (.ref C)) (kC : PySem.W.keepIn X.K (.ref C) = true) (r : Raises X (.ref C)) (hg : Gl X x) (hC : C = T.ea c)
    (hdb : (x == ("__debug__" : Str)) = false := by decide) : XS X T W (.Raise (some (.Call (.Name x p) [.Constant (.str m) j q] [] pos2)) none pos) (mRaise c) :=
  (ps_raise hc tk (pmk_own F hq gC kC r hg hdb)).weak fun D σ H ⟨hid, B, ρ, S, q⟩ => by
    subst hC
    exact q σ H S Ext.refl
/-! ### own lists -/
/-- held i: the own list in slot i as it stands -/
def heldR (ρ : R) (i : Nat) : Option (List PyData) := match ρ[i]? with
  | some (.own ds) => some ds
  | some (.bor ds) => some ds
  | _ => none
def setR (ρ : R) (i : Nat) (ds : List PyData) : R := match ρ[i]? with
  | some (.own _) => ρ.set i (.own ds)
  | some (.bor _) => ρ.set i (.bor ds)
  | _ => ρ
theorem SR.of_heldR {K : PySem.W.Frag} {T : VT} {hid : Addr → Prop} {B σ : L2.St} {ρ : R} {H : Hp} (S : SR K T hid B H σ ρ) {i : Nat} {ds : List PyData} (h : heldR ρ i = some ds) :
    ∃ a xs, σ[i]? = some (some (.ref a)) ∧ H a = some (.lst xs) ∧ RpAll K (Fz hid σ ρ H) xs ds ∧ ∀ ys es, RpAll K (Fz hid σ ρ H) ys es → SR K T hid B (L2.upd H a (.lst ys)) σ (setR ρ i es) ∧ Ext hid σ ρ H σ (setR ρ i es) (L2.upd H a (.lst ys)) := by
  have key : ∃ s, ρ[i]? = some s ∧ s.held = some ds := by
    unfold VL.heldR at h
    split at h
    · rename_i e; cases h; exact ⟨_, e, rfl⟩
    · rename_i e; cases h; exact ⟨_, e, rfl⟩
    · cases h
  obtain ⟨s, e, hs⟩ := key
  obtain ⟨a, xs, e1, ho, h1, h2⟩ := S.own_of e hs
  refine ⟨a, xs, e1, h1, h2, fun ys es hr => ?_⟩
  cases s with
  | own ds' =>
    have es' : setR ρ i es = ρ.set i (.own es) := by unfold setR; rw [e]
    rw [es']
    exact S.upd e rfl ho hr
  | bor ds' =>
    have es' : setR ρ i es = ρ.set i (.bor es) := by unfold setR; rw [e]
    rw [es']
    exact S.upd e rfl ho hr
  | _ => cases hs
def mLenO (i : Nat) : ME := fun ρ => match heldR ρ i with
  | some ds => .ok (.int (ds.length : Nat)) ρ
  | none => .no
theorem xlenO (i : Nat) {x : Str} {p q : Pos} (hg : Gl X "len") (hm : X.mg "len" = none) (hN : X.N[i]? = some x := by rfl) (hv : Vis X.env.scope x := by first | exact Or.inl rfl | exact Or.inr (Or.inl rfl) | exact Or.inr (Or.inr rfl)) (hd : (x == ("__debug__" : Str)) = false := by decide)
    (hcd : (x == ("__classdict__" : Str)) = false := by decide) (he : starEach [.Name x p] X.env = (false, eval (.Name x p) X.env) :: starEach [] X.env := by rfl) (hpl : (backTo pos (starEach [] X.env)).any (·.1) = false := by rfl) :
    XE X T W (.Call (.Name "len" q) [.Name x p] [] pos) (mLenO i) :=
  (pe_callB call_len_seq hg hm PySem.boot_len (pa_cons (pe_var hN hv hd hcd) pa_nil he) (by decide) (by decide) he hpl).weak fun σ H Q ⟨hid, B, ρ, S, q⟩ => by
    unfold mLenO at q
    cases h : heldR ρ i with
    | none => rw [h] at q; exact q.elim
    | some ds =>
      rw [h] at q
      obtain ⟨a, xs, e1, h1, h2, _⟩ := S.of_heldR h
      exact ⟨_, e1, a, xs, rfl, .inl (SqL.of h1), by rw [h2.length]; exact Res.here S q _ (.int _)⟩
def mIxO (i : Nat) (g : ME) : ME := fun ρ => match heldR ρ i with
  | none => .no
  | some _ => (g ρ).bind fun d ρ1 => match d with
    | .int k => match heldR ρ1 i with
      | some ds => Oc.opt (atI ds k) ρ1
      | none => .no
    | _ => .no
theorem xixO (i : Nat) {x : Str} {p : Pos} (hb : XE X T W b g) (hs : PlainIx b := by exact fun _ _ => rfl) (hN : X.N[i]? = some x := by rfl) (hv : Vis X.env.scope x := by first | exact Or.inl rfl | exact Or.inr (Or.inl rfl) | exact Or.inr (Or.inr rfl)) (hd : (x == ("__debug__" : Str)) = false := by decide)
    (hcd : (x == ("__classdict__" : Str)) = false := by decide) : XE X T W (.Subscript (.Name x p) b pos) (mIxO i g) :=
  (pe_ix ix_list (pe_var hN hv hd hcd) hb hs).weak fun σ H Q ⟨hid, B, ρ, S, q⟩ => by
    unfold mIxO at q
    cases h0 : heldR ρ i with
    | none => rw [h0] at q; exact q.elim
    | some ds0 =>
      rw [h0] at q
      obtain ⟨a, xs0, e1, _, _, _⟩ := S.of_heldR h0
      refine ⟨_, e1, hid, B, ρ, S, (Res.bind q).imp fun d ρ1 H1 S1 E1 q1 y ry => ?_⟩
      cases d with
      | int k =>
        cases h : heldR ρ1 i with
        | none => simp only [h] at q1; exact q1.elim
        | some ds =>
          simp only [h] at q1
          obtain ⟨a', xs, e2, h1, h2, _⟩ := S1.of_heldR h
          rw [e1] at e2
          cases e2
          obtain ⟨r, hr, q2⟩ := Res.opt S1 q1
          obtain ⟨v, e3, rv⟩ := rpall_at h2 hr
          exact ⟨a, xs, k, v, rfl, rp_int ry, SqL.of h1, e3, q2 H1 (Same.refl _) v rv⟩
      | _ => exact q1.elim
/-- a list's method that changes it, one argument -/
theorem rdMut (i : Nat) {r : V → List V → Hp → VK → Prop} {op : List PyData → PyData → Option (List PyData)} {σ : L2.St} {H : Hp} {D : Ends}
    (hr : ∀ (F H : Hp) (a : Addr) (xs : List V) (ds es : List PyData) (x : V) (d : PyData) (Q : VK), H a = some (.lst xs) → RpAll X.K F xs ds → Rp X.K F x d → Same F H → op ds d = some es → (∀ ys, RpAll X.K F ys es → Q .non (L2.upd H a (.lst ys))) → r (.ref a) [x] H Q)
    (q : rdS X.K T W (fun ρ => match heldR ρ i with
      | none => .no
      | some _ => (f ρ).bind fun d ρ1 => match heldR ρ1 i with
        | none => .no
        | some ds => match op ds d with
          | some es => .ok .nx (setR ρ1 i es)
          | none => .no) D σ H) : tDrop (tBM X.K "list" r (tVar i) (tCons (rdE X.K T W f) tNil)) D σ H := by
  obtain ⟨hid, B, ρ, S, q⟩ := q
  cases h0 : heldR ρ i with
  | none => simp only [h0] at q; exact q.elim
  | some ds0 =>
    simp only [h0] at q
    obtain ⟨a, xs0, e1, h1, _, _⟩ := S.of_heldR h0
    refine ⟨_, e1, .inl ⟨rfl, _, SqL.of h1⟩, hid, B, ρ, S, (ResS.bindE q).imp fun d ρ1 H1 S1 E1 q1 x rx => ?_⟩
    cases h : heldR ρ1 i with
    | none => simp only [h] at q1; exact q1.elim
    | some ds =>
      simp only [h] at q1
      obtain ⟨a', xs, e2, h2, h3, up⟩ := S1.of_heldR h
      rw [e1] at e2
      cases e2
      cases ho : op ds d with
      | none => simp only [ho] at q1; exact q1.elim
      | some es =>
        simp only [ho] at q1
        refine hr (Fz hid σ ρ1 H1) H1 a xs ds es x d _ h2 h3 rx fz_le ho fun ys hy => ?_
        obtain ⟨S2, E2⟩ := up ys es hy
        exact q1 σ _ S2 E2
def mMut (i : Nat) (op : List PyData → PyData → Option (List PyData)) (f : ME) : MS := fun ρ => match heldR ρ i with
  | none => .no
  | some _ => (f ρ).bind fun d ρ1 => match heldR ρ1 i with
    | none => .no
    | some ds => match op ds d with
      | some es => .ok .nx (setR ρ1 i es)
      | none => .no
def appendD (ds : List PyData) (d : PyData) : Option (List PyData) := if fits (ds.length + 1) then some (ds ++ [d]) else none
theorem sappend (i : Nat) {x : Str} {p apos cpos : Pos} (ha : XE X T W a f) (hN : X.N[i]? = some x := by rfl) (hv : Vis X.env.scope x := by first | exact Or.inl rfl | exact Or.inr (Or.inl rfl) | exact Or.inr (Or.inr rfl)) (hd : (x == ("__debug__" : Str)) = false := by decide)
    (hcd : (x == ("__classdict__" : Str)) = false := by decide) (hbase : attributeBase (.Name x p) "append" X.env (eval (.Name x p) X.env) = eval (.Name x p) X.env := by rfl)
    (hfew : ((backTo cpos (starEach [a] X.env)).all (fun x => !x.1) && (backToKw cpos (keywordEach [] X.env)).all (fun x => x.1.isSome)
      && decide (([a] : List Expr).length + ([] : List Keyword).length + (if ([] : List Keyword).isEmpty then 0 else 1) < 30)) = true := by rfl)
    (hline : (apos.endLine == cpos.line) = true := by rfl) (hs : starEach [a] X.env = (false, eval a X.env) :: starEach [] X.env := by rfl) (hplain : (backTo cpos (starEach [] X.env)).any (·.1) = false := by rfl)
    (hsw : swapsWith (.Call (.Attribute (.Name x p) "append" apos) [a] [] cpos) none pos.line X.env = pure false := by rfl) :
    XS X T W (.Expr (.Call (.Attribute (.Name x p) "append" apos) [a] [] cpos) pos) (mMut i appendD f) :=
  (ps_expr (pe_bm PySem.F.plainAttrs_list PySem.F.slot_list_append PySem.F.type_list_append mt_append (pe_var hN hv hd hcd) (pa_cons ha pa_nil hs) hbase hfew hline hs hplain) hsw).weak fun D σ H q => by
    refine rdMut i (op := appendD) (fun F H a xs ds es x d Q h1 h2 h3 hF ho hq => ?_) q
    unfold appendD at ho
    split at ho
    · rename_i hz
      cases ho
      refine ⟨a, xs, x, rfl, rfl, h1, ?_, hq _ (h2.append (.cons h3 .nil))⟩
      rw [h2.length]
      exact sz_fits hz
    · cases ho
/-! ### the script -/
def scrR (ρ : R) (i : Nat) : Option (List Int) := match ρ[i]? with
  | some (.scr ns) => some ns
  | _ => none
theorem SR.scr {K : PySem.W.Frag} {T : VT} {hid : Addr → Prop} {B σ : L2.St} {ρ : R} {H : Hp} (S : SR K T hid B H σ ρ) {i : Nat} {ns : List Int} (h : scrR ρ i = some ns) : ∃ a, σ[i]? = some (some (.ref a)) ∧ SqL K H a (ns.map V.int) := by
  unfold scrR at h
  split at h
  · rename_i e
    cases h
    obtain ⟨o, e1, r⟩ := S.rel i _ e
    cases r with
    | scr h => exact ⟨_, e1, Same.seq fz_le h⟩
  · cases h
def mScrT (i : Nat) : MT := fun ρ => match scrR ρ i with
  | some ns => .ok (!ns.isEmpty) ρ
  | none => .no
def mScrLen (i : Nat) : ME := fun ρ => match scrR ρ i with
  | some ns => .ok (.int (ns.length : Nat)) ρ
  | none => .no
def mScrIx (i : Nat) (g : ME) : ME := fun ρ => match scrR ρ i with
  | none => .no
  | some ns => (g ρ).bind fun d ρ1 => match d with
    | .int k => Oc.opt ((atI ns k).map PyData.int) ρ1
    | _ => .no
theorem tscr (i : Nat) {x : Str} (hN : X.N[i]? = some x := by rfl) (hv : Vis X.env.scope x := by first | exact Or.inl rfl | exact Or.inr (Or.inl rfl) | exact Or.inr (Or.inr rfl)) (hd : (x == ("__debug__" : Str)) = false := by decide)
    (hcd : (x == ("__classdict__" : Str)) = false := by decide) (hw : ∀ whole, isTrue (.Name x pos) X.env whole = (do let v ← whole; standAt (Expr.Name x pos).pos; holding [v] (truthy v)) := by intro _; rfl) : XT X T W (.Name x pos) (mScrT i) :=
  (pt_truth (pe_var hN hv hd hcd) hw).weak fun σ H Q ⟨hid, B, ρ, S, q⟩ => by
    unfold mScrT at q
    cases h : scrR ρ i with
    | none => rw [h] at q; exact q.elim
    | some ns =>
      rw [h] at q
      obtain ⟨a, e1, h1⟩ := S.scr h
      refine ⟨_, e1, _, .inl ⟨_, h1, rfl⟩, ?_⟩
      have z := Res.here S q
      cases ns <;> exact z
theorem xscrLen (i : Nat) {x : Str} {p q : Pos} (hg : Gl X "len") (hm : X.mg "len" = none) (hN : X.N[i]? = some x := by rfl) (hv : Vis X.env.scope x := by first | exact Or.inl rfl | exact Or.inr (Or.inl rfl) | exact Or.inr (Or.inr rfl)) (hd : (x == ("__debug__" : Str)) = false := by decide)
    (hcd : (x == ("__classdict__" : Str)) = false := by decide) (he : starEach [.Name x p] X.env = (false, eval (.Name x p) X.env) :: starEach [] X.env := by rfl) (hpl : (backTo pos (starEach [] X.env)).any (·.1) = false := by rfl) :
    XE X T W (.Call (.Name "len" q) [.Name x p] [] pos) (mScrLen i) :=
  (pe_callB call_len_seq hg hm PySem.boot_len (pa_cons (pe_var hN hv hd hcd) pa_nil he) (by decide) (by decide) he hpl).weak fun σ H Q ⟨hid, B, ρ, S, q⟩ => by
    unfold mScrLen at q
    cases h : scrR ρ i with
    | none => rw [h] at q; exact q.elim
    | some ns =>
      rw [h] at q
      obtain ⟨a, e1, h1⟩ := S.scr h
      exact ⟨_, e1, a, _, rfl, .inl h1, by rw [List.length_map]; exact Res.here S q _ (.int _)⟩
theorem xscrIx (i : Nat) {x : Str} {p : Pos} (hb : XE X T W b g) (hs : PlainIx b := by exact fun _ _ => rfl) (hN : X.N[i]? = some x := by rfl) (hv : Vis X.env.scope x := by first | exact Or.inl rfl | exact Or.inr (Or.inl rfl) | exact Or.inr (Or.inr rfl)) (hd : (x == ("__debug__" : Str)) = false := by decide)
    (hcd : (x == ("__classdict__" : Str)) = false := by decide) : XE X T W (.Subscript (.Name x p) b pos) (mScrIx i g) :=
  (pe_ix ix_list (pe_var hN hv hd hcd) hb hs).weak fun σ H Q ⟨hid, B, ρ, S, q⟩ => by
    unfold mScrIx at q
    cases h : scrR ρ i with
    | none => rw [h] at q; exact q.elim
    | some ns =>
      rw [h] at q
      obtain ⟨a, e1, h1⟩ := S.scr h
      have hF : SqL X.K (Fz hid σ ρ H) a (ns.map V.int) := by
        have key : ρ[i]? = some (.scr ns) := by
          unfold scrR at h
          split at h
          · rename_i e; cases h; exact e
          · cases h
        obtain ⟨o, e2, r⟩ := S.rel i _ key
        rw [e1] at e2
        cases e2
        cases r with
        | scr h => exact h
      refine ⟨_, e1, hid, B, ρ, S, (Res.bind q).imp fun d ρ1 H1 S1 E1 q1 y ry => ?_⟩
      cases d with
      | int k =>
        have q1 : Res X.K T W hid B σ ρ1 H1 (Oc.opt ((atI ns k).map PyData.int) ρ1) _ := q1
        obtain ⟨r, hr, q2⟩ := Res.opt S1 q1
        cases hz : atI ns k with
        | none => rw [hz] at hr; cases hr
        | some z =>
          rw [hz] at hr
          cases hr
          refine ⟨a, _, k, .int z, rfl, rp_int ry, Same.seq (E1.same.trans fz_le) hF, ?_, q2 H1 (Same.refl _) _ (.int _)⟩
          unfold atI at hz ⊢
          rw [List.length_map]
          cases hk : ixN ns.length k with
          | none => rw [hk] at hz; cases hz
          | some j =>
            rw [hk] at hz
            have hz : ns[j]? = some z := hz
            show (ns.map V.int)[j]? = some (.int z)
            rw [List.getElem?_map, hz]
            rfl
      | _ => exact q1.elim
/-! ### methods of texts, one argument -/
def mStr1 (op : Str → PyData → Option PyData) (f g : ME) : ME := fun ρ => (f ρ).bind fun d ρ1 => match d with
  | .str z => (g ρ1).bind fun e ρ2 => Oc.opt (op z e) ρ2
  | _ => .no
theorem rdStr1 {r : V → List V → Hp → VK → Prop} {op : Str → PyData → Option PyData} (hp : ∀ (O : Addr → Prop) (H : Hp) (z : Str) (y : V) (e res : PyData) (Q : VK), (∀ b, O b → ∃ o, H b = some o) → Rp X.K (fz O H) y e → op z e = some res → (∀ v H', Same H H' → Rp X.K (fz O H') v res → Q v H') → r (.str z) [y] H Q)
    {σ : L2.St} {H : Hp} {Q : VK} (q : rdE X.K T W (mStr1 op f g) σ H Q) : tM1 r (rdE X.K T W f) (rdE X.K T W g) σ H Q := by
  obtain ⟨hid, B, ρ, S, q⟩ := q
  refine ⟨hid, B, ρ, S, (Res.bind q).imp fun d ρ1 H1 S1 E1 q1 x rx => ?_⟩
  cases d with
  | str z =>
    cases rp_str rx
    refine ⟨⟨z, rfl⟩, hid, B, ρ1, S1, (Res.bind q1).imp fun e ρ2 H2 S2 E2 q2 y ry => ?_⟩
    obtain ⟨res, hr, q3⟩ := Res.opt S2 q2
    exact hp _ H2 z y e res Q S2.dom ry hr fun v H' sm rv => q3 H' sm v rv
  | _ => exact q1.elim
def joinD (a : Str) (e : PyData) : Option PyData := match e with
  | .list ds => match strsD ds with
    | some ys => if decide ((ys.map (·.length)).sum + ys.length * a.length ≤ 16777216) then some (.str (Txt.join a ys)) else none
    | none => none
  | _ => none
theorem xjoin {apos : Pos} (ho : XE X T W a f) (he : XE X T W b g) (hs : starEach [b] X.env = [(false, eval b X.env)] := by rfl) (hbase : attributeBase a "join" X.env (eval a X.env) = eval a X.env := by rfl) (hline : (apos.endLine == pos.line) = true := by rfl) :
    XE X T W (.Call (.Attribute a "join" apos) [b] [] pos) (mStr1 joinD f g) :=
  (pe_join ho he hs hbase hline).weak fun σ H Q q => by
    refine rdStr1 (fun O H z y e res Q hO ry ho q => ?_) q
    unfold joinD at ho
    split at ho
    · rename_i ds
      split at ho
      · rename_i ys hy
        split at ho
        · rename_i hz
          cases ho
          obtain ⟨p, xs, rfl, h1, h2⟩ := rp_lst ry
          rw [strsD_of hy] at h2
          rw [rp_strs h2] at h1
          exact ⟨z, p, ys, rfl, rfl, .inl (SqL.of (fz_le _ _ h1)), of_decide_eq_true hz, q _ H (Same.refl _) (.str _)⟩
        · cases ho
      · cases ho
    · cases ho
end
end VL

set_option Elab.async false
set_option linter.all false
set_option maxRecDepth 100000
set_option maxHeartbeats 8000000
/-! VSet: len(set(xs)) where xs is a list or a tuple of numbers, texts, None. -/
namespace VL
open PySem PySem.Spec PyProof.Rows
section
variable {κ : Type} [DecidableEq κ]
def ddK (σ : List κ) (v : κ) : List κ := if v ∈ σ then σ else σ ++ [v]
/-- the keys that were met, each once, in turn -/
def metK (ks : List κ) : List κ := ks.foldl ddK []
theorem metK_snoc (ks : List κ) (v : κ) : metK (ks ++ [v]) = ddK (metK ks) v := by unfold metK; rw [List.foldl_append]; rfl
theorem ddK_len (σ : List κ) (v : κ) : (ddK σ v).length ≤ σ.length + 1 := by
  unfold ddK
  split
  · omega
  · simp
theorem foldl_ddK_len : ∀ (ks σ : List κ), (ks.foldl ddK σ).length ≤ σ.length + ks.length
  | [], σ => Nat.le_refl _
  | k :: ks, σ => by
    have h1 := foldl_ddK_len ks (ddK σ k)
    have h2 := ddK_len σ k
    show (ks.foldl ddK (ddK σ k)).length ≤ _
    simp only [List.length_cons]
    omega
theorem metK_len (ks : List κ) : (metK ks).length ≤ ks.length := by
  have h := foldl_ddK_len ks []
  simpa [metK] using h
end
section
variable {prog : Program} {w : World} {A : Around} {κ : Type} [DecidableEq κ] {knd : KeyKind prog w κ}
theorem setOf_as {h : Heap} {a : Addr} {S S' : κ → Bool} {n n' : Nat} (hS : h.SetOf knd a S n) (e : ∀ k, S k = S' k) (en : n = n') : h.SetOf knd a S' n' := by
  have z : S = S' := funext e
  subst z en
  exact hS
theorem set_turns {R : Result → Shared → Prop} {I : Addr} {fp wr : List Addr} {G : Array GenState → Array GenState → Prop} {n : Nat} {P : Nat → Value → Prop} {St : Nat → Shared → Prop}
    (W : WalksS prog w A.in1 I fp wr G n P St) (S : Addr) (hSf : S ∉ fp) (ks : List κ) (hl : ks.length = n) (hval : ∀ i v, P i v → ∃ k, ks[i]? = some k ∧ knd.is k v = true ∧ v.scannable = true) (hb : n + 1 < scanBound) :
    ∀ (j i : Nat) (s : Shared), n - i = j → i ≤ n → St i s → s.heap.SetOf knd S (fun k => decide (k ∈ metK (ks.take i))) (metK (ks.take i)).length →
      (∀ s', Moved (S :: wr) G s s' → s'.heap.SetOf knd S (fun k => decide (k ∈ metK ks)) (metK ks).length → R (.ok (.ret .none)) s') →
      codeAny (model prog w) A (.builtin "set.update.loop" ⟨[.ref S, .ref I], []⟩) R s := by
  have hSw : S ∉ wr := fun h => hSf (W.sub _ h)
  have hsub : ∀ b ∈ wr, b ∈ S :: wr := fun b hb => List.mem_cons_of_mem _ hb
  intro j
  induction j with
  | zero =>
    intro i s hk hi hst hS hR
    obtain rfl : i = n := by omega
    refine codeAny_builtin F.entry_set_update_loop ?_
    rw [Around.under_plainId F.plain_set_update_loop _]
    show wpAny _ A.in1 (pyNext (.ref I) >>= _) _ _ s
    refine wpAny_bind (W.done s _ _ hst fun s' hm => ?_)
    show wpAny _ A.in1 (ret Value.none) _ _ s'
    refine wpAny_pure (hR s' (hm.mono hsub) ?_)
    rw [← hl, List.take_length] at hS
    obtain ⟨o, es, ep, t, ho, more⟩ := hS
    exact ⟨o, es, ep, t, hm.heap S _ hSw ho, more⟩
  | succ j ih =>
    intro i s hk hi hst hS hR
    have hlt : i < n := by omega
    refine codeAny_builtin F.entry_set_update_loop ?_
    rw [Around.under_plainId F.plain_set_update_loop _]
    show wpAny _ A.in1 (pyNext (.ref I) >>= _) _ _ s
    refine wpAny_bind (W.item i s _ _ hlt hst fun v s' hP hst' hm => ?_)
    obtain ⟨k, hki, hkv, hsc⟩ := hval i v hP
    have hS' : s'.heap.SetOf knd S (fun k => decide (k ∈ metK (ks.take i))) (metK (ks.take i)).length := by
      obtain ⟨o, es, ep, tb, ho, more⟩ := hS
      exact ⟨o, es, ep, tb, hm.heap S _ hSw ho, more⟩
    show wpAny _ A.in1 (holding [v] (setAdd S v) >>= _) _ _ s'
    refine wpAny_bind (wpAny_holding ?_)
    unfold setAdd
    refine wpAny_holding (wpAny_bind (knd.pyHash (k := k) hkv ?_))
    have hroom : (metK (ks.take i)).length + 1 < scanBound := by
      have z := metK_len (ks.take i)
      rw [List.length_take] at z
      omega
    refine wpAny_setAddHashed_of (knd := knd) (s := { s' with toks := s'.toks + 1 }) hkv hsc hS' hroom fun h' hsb hS2 => ?_
    have et : ks.take (i + 1) = ks.take i ++ [k] := by
      rw [List.take_add_one, hki]
      rfl
    have hSi : h'.SetOf knd S (fun k => decide (k ∈ metK (ks.take (i + 1)))) (metK (ks.take (i + 1))).length := by
      rw [et, metK_snoc]
      refine setOf_as hS2 (fun c => ?_) ?_
      · unfold ddK
        by_cases hk : k ∈ metK (ks.take i)
        · rw [if_pos hk]
          by_cases hc : c = k
          · subst hc; simp [hk]
          · simp [hc]
        · rw [if_neg hk]
          simp [List.mem_append]
      · unfold ddK
        by_cases hk : k ∈ metK (ks.take i)
        · rw [if_pos hk, if_pos (decide_eq_true hk)]
        · rw [if_neg hk, if_neg (by simp [hk]), List.length_append, List.length_singleton]
    refine wpAny_pure ⟨plainId_quiet F.plain_set_update_loop _, ih (i + 1) _ (by omega) hlt (W.frame _ s' _ _ hst' (Nat.le_succ _) fun b hb o e => ?_) hSi fun s'' hm'' hS'' => ?_⟩
    · rw [hsb.2 b (fun h : b = S => hSf (by rw [← h]; exact hb))]; exact e
    · refine hR s'' (Moved.trans W.gtrans ((hm.mono hsub).then_heap (Nat.le_succ _) fun b o hb e => ?_) hm'') hS''
      rw [hsb.2 b (fun h : b = S => hb (by rw [h]; exact List.mem_cons_self))]; exact e

set_option maxHeartbeats 8000000 in
theorem set_of_list {E : Value → Shared → Prop} {s : Shared} {l : Addr} {items : Array Value} (ks : List κ) {Q : Value → Shared → Prop} (hh : A.handled = none) (hl : s.heap.IsList l items) (hs : ks.length = items.size)
    (hi : ∀ (i : Nat) (v : Value), items[i]? = some v → ∃ k, ks[i]? = some k ∧ knd.is k v = true ∧ v.scannable = true) (hb : items.size + 1 < scanBound)
    (h : ∀ (h' : Heap) (tk : Nat), h'.SetOf knd s.heap.objs.size (fun k => decide (k ∈ metK ks)) (metK ks).length → (∀ b o, b < s.heap.objs.size → s.heap.get? b = some o → h'.get? b = some o) → Q (.ref s.heap.objs.size) { s with heap := h', toks := tk }) :
    wpAny (model prog w) A (call (.type "set") [.ref l]) Q E s := by
  obtain ⟨c, tl, hmro⟩ := PySem.F.called_set.mro
  have hmade := PySem.F.called_set.made
  have hsub := PySem.F.called_set.sub
  refine wpAny_call (codeAny_of_tree ?_)
  show wpAny _ _ (callAny (.type "set") _) _ _ _
  refine wpAny_pure ⟨Code.quiet_builtin _ (by decide +kernel), codeAny_builtin PySem.F.entry_type_call ?_⟩
  rw [Around.under_plain (weight_type_call_type "set" [.ref l] []) rfl]
  have h1 := PySem.F.called_set.notType
  have h2 := PySem.F.called_set.canCreate
  have hct := PySem.F.typeCall_set_1 (.ref l)
  repeat (any_goals (first | assumption | wp_step))
  refine codeAny_mono (code_set_new_1 (.ref l) (E := E) (Q₁ := fun obj s₁ => ∃ led : Bool, obj = .ref s.heap.objs.size ∧ s₁ = { s with heap := s.heap.push { cls := .type "set", dict := none, data := .set #[] 0 (.fresh 0 0 led) } }) fun led => ⟨led, rfl, rfl⟩) fun r s₁ hr => ?_
  cases r with
  | error e => exact hr
  | ok fl =>
    cases fl with
    | ret obj =>
      obtain ⟨led, rfl, rfl⟩ := hr
      have hS : (s.heap.push { cls := .type "set", dict := none, data := .set #[] 0 (.fresh 0 0 led) }).get? s.heap.objs.size = some { cls := .type "set", dict := none, data := .set #[] 0 (.fresh 0 0 led) } := Heap.get?_push_size _ rfl
      have hT : Shared.TypeIs { s with heap := s.heap.push { cls := .type "set", dict := none, data := .set #[] 0 (.fresh 0 0 led) } } (.ref s.heap.objs.size) "set" := ⟨_, hS, rfl⟩
      have hli := PySem.F.called_set.init.lookup
      have hbi := PySem.F.called_set.init.bind (.ref s.heap.objs.size)
      repeat (any_goals (first | assumption | wp_step))
      refine codeAny_mono (codeAny_call_builtin (R := wants (fun r s₂ => r = .none ∧ ∃ h' tk, s₂ = { s with heap := h', toks := tk } ∧ h'.SetOf knd s.heap.objs.size (fun k => decide (k ∈ metK ks)) (metK ks).length ∧
          (∀ b o, b < s.heap.objs.size → s.heap.get? b = some o → h'.get? b = some o)) E) PySem.F.called_set.init.plain PySem.F.entry_set_init (check_set_init_1 hT ?_)) fun r₂ s₂ hr₂ => ?_
      · obtain ⟨ol, hol, hcl, nl, hdl⟩ := hl
        obtain ⟨ocls, odict, odata, oslots⟩ := ol
        simp only at hcl hdl
        subst hcl hdl
        have hol' : (s.heap.push { cls := .type "set", dict := none, data := .set #[] 0 (.fresh 0 0 led) }).get? l = some { cls := .type "list", dict := odict, data := .seq items nl, slots := oslots } := Heap.get?_push_of_some _ hol
        have hl1 : (s.heap.push { cls := .type "set", dict := none, data := .set #[] 0 (.fresh 0 0 led) }).IsList l items := ⟨_, hol', rfl, nl, rfl⟩
        have hsls := PySem.F.sub_list_set
        have hslf := PySem.F.sub_list_frozenset
        have hne : (Value.type "list" == Value.type "dict") = false := by decide
        unfold Builtin.«set.__init__» noKeywords Builtin.Frozenset.updateFrom
        generalize hPI : pyIter = PI
        wp_walk
        subst hPI
        refine wpAny_pyIter_list hl1 (wpAny_bind (wpAny_runValue ?_))
        have hlS : l < s.heap.objs.size := Heap.lt_size hol
        have hh3 : A.in1.in1.in1.handled = none := by simp [hh]
        have hneI : l ≠ (s.heap.push { cls := .type "set", dict := none, data := .set #[] 0 (.fresh 0 0 led) }).objs.size := by
          rw [Heap.size_push]; exact Nat.ne_of_lt (Nat.lt_succ_of_lt hlS)
        have hSf : s.heap.objs.size ∉ [(s.heap.push { cls := .type "set", dict := none, data := .set #[] 0 (.fresh 0 0 led) }).objs.size, l] := by
          rw [Heap.size_push]; simp only [List.mem_cons, List.mem_singleton, List.not_mem_nil, or_false, not_or]
          exact ⟨Nat.ne_of_lt (Nat.lt_succ_self _), Nat.ne_of_gt hlS⟩
        refine set_turns (knd := knd) ((Walks.list hh3 _ l hneI items).toS) s.heap.objs.size hSf ks hs hi hb (items.size - 0) 0 _ (by omega) (Nat.zero_le _) ⟨⟨_, Heap.get?_push_size _ rfl, rfl, rfl⟩, (hl1.push _)⟩ ?hS0 ?hR
        case hS0 =>
          have hget : ((s.heap.push { cls := .type "set", dict := none, data := .set #[] 0 (.fresh 0 0 led) }).push { cls := .type "list_iterator", data := .fields #[.ref l, .int 0 0] }).get? s.heap.objs.size = some { cls := .type "set", dict := none, data := .set #[] 0 (.fresh 0 0 led) } := Heap.get?_push_of_some _ hS
          exact setOf_as ((PyProof.Rows.setObjOf_fresh (knd := knd) led).setOf hget (by unfold scanBound; omega)) (fun _ => by simp [metK]) rfl
        case hR =>
          intro s' hm hS'
          obtain ⟨h', g', d', tk', os'⟩ := s'
          have eg : g' = s.gens := hm.gens
          have ed : d' = s.drawn := hm.drawn
          have eo : os' = s.os := hm.os
          subst eg ed eo
          show wpAny _ _ _ _ _ _
          refine wpAny_pure ?_
          show wpAny _ _ (ret Value.none) _ _ _
          refine wpAny_pure ⟨rfl, h', tk', rfl, hS', fun b o hb e => ?_⟩
          have hb1 : b ≠ s.heap.objs.size := Nat.ne_of_lt hb
          have hb2 : b ≠ (s.heap.push { cls := .type "set", dict := none, data := .set #[] 0 (.fresh 0 0 led) }).objs.size := by
            rw [Heap.size_push]; exact Nat.ne_of_lt (Nat.lt_succ_of_lt hb)
          exact hm.heap b o (by simp only [List.mem_cons, List.mem_singleton, List.not_mem_nil, or_false, not_or]; exact ⟨hb1, hb2⟩) (Heap.get?_push_of_some _ (Heap.get?_push_of_some _ e))
      · cases r₂ with
        | error e => exact hr₂
        | ok fl₂ =>
          cases fl₂ with
          | ret r =>
            obtain ⟨rfl, h', tk, rfl, hS', hk'⟩ := hr₂
            repeat (any_goals (first | assumption | wp_step))
            exact h _ _ hS' hk'
          | _ => exact hr₂.elim
    | _ => exact hr.elim

set_option maxHeartbeats 8000000 in
theorem set_of_tuple {E : Value → Shared → Prop} {s : Shared} {l : Addr} {items : Array Value} (ks : List κ) {Q : Value → Shared → Prop} (hh : A.handled = none) (hl : s.heap.IsTuple l items) (hs : ks.length = items.size)
    (hi : ∀ (i : Nat) (v : Value), items[i]? = some v → ∃ k, ks[i]? = some k ∧ knd.is k v = true ∧ v.scannable = true) (hb : items.size + 1 < scanBound)
    (h : ∀ (h' : Heap) (tk : Nat), h'.SetOf knd s.heap.objs.size (fun k => decide (k ∈ metK ks)) (metK ks).length → (∀ b o, b < s.heap.objs.size → s.heap.get? b = some o → h'.get? b = some o) → Q (.ref s.heap.objs.size) { s with heap := h', toks := tk }) :
    wpAny (model prog w) A (call (.type "set") [.ref l]) Q E s := by
  obtain ⟨c, tl, hmro⟩ := PySem.F.called_set.mro
  have hmade := PySem.F.called_set.made
  have hsub := PySem.F.called_set.sub
  refine wpAny_call (codeAny_of_tree ?_)
  show wpAny _ _ (callAny (.type "set") _) _ _ _
  refine wpAny_pure ⟨Code.quiet_builtin _ (by decide +kernel), codeAny_builtin PySem.F.entry_type_call ?_⟩
  rw [Around.under_plain (weight_type_call_type "set" [.ref l] []) rfl]
  have h1 := PySem.F.called_set.notType
  have h2 := PySem.F.called_set.canCreate
  have hct := PySem.F.typeCall_set_1 (.ref l)
  repeat (any_goals (first | assumption | wp_step))
  refine codeAny_mono (code_set_new_1 (.ref l) (E := E) (Q₁ := fun obj s₁ => ∃ led : Bool, obj = .ref s.heap.objs.size ∧ s₁ = { s with heap := s.heap.push { cls := .type "set", dict := none, data := .set #[] 0 (.fresh 0 0 led) } }) fun led => ⟨led, rfl, rfl⟩) fun r s₁ hr => ?_
  cases r with
  | error e => exact hr
  | ok fl =>
    cases fl with
    | ret obj =>
      obtain ⟨led, rfl, rfl⟩ := hr
      have hS : (s.heap.push { cls := .type "set", dict := none, data := .set #[] 0 (.fresh 0 0 led) }).get? s.heap.objs.size = some { cls := .type "set", dict := none, data := .set #[] 0 (.fresh 0 0 led) } := Heap.get?_push_size _ rfl
      have hT : Shared.TypeIs { s with heap := s.heap.push { cls := .type "set", dict := none, data := .set #[] 0 (.fresh 0 0 led) } } (.ref s.heap.objs.size) "set" := ⟨_, hS, rfl⟩
      have hli := PySem.F.called_set.init.lookup
      have hbi := PySem.F.called_set.init.bind (.ref s.heap.objs.size)
      repeat (any_goals (first | assumption | wp_step))
      refine codeAny_mono (codeAny_call_builtin (R := wants (fun r s₂ => r = .none ∧ ∃ h' tk, s₂ = { s with heap := h', toks := tk } ∧ h'.SetOf knd s.heap.objs.size (fun k => decide (k ∈ metK ks)) (metK ks).length ∧
          (∀ b o, b < s.heap.objs.size → s.heap.get? b = some o → h'.get? b = some o)) E) PySem.F.called_set.init.plain PySem.F.entry_set_init (check_set_init_1 hT ?_)) fun r₂ s₂ hr₂ => ?_
      · obtain ⟨ol, hol, hcl, nl, hdl⟩ := hl
        obtain ⟨ocls, odict, odata, oslots⟩ := ol
        simp only at hcl hdl
        subst hcl hdl
        have hol' : (s.heap.push { cls := .type "set", dict := none, data := .set #[] 0 (.fresh 0 0 led) }).get? l = some { cls := .type "tuple", dict := odict, data := .seq items nl, slots := oslots } := Heap.get?_push_of_some _ hol
        have hl1 : (s.heap.push { cls := .type "set", dict := none, data := .set #[] 0 (.fresh 0 0 led) }).IsTuple l items := ⟨_, hol', rfl, nl, rfl⟩
        have hsls := PySem.F.sub_tuple_set
        have hslf := PySem.F.sub_tuple_frozenset
        have hne : (Value.type "tuple" == Value.type "dict") = false := by decide
        unfold Builtin.«set.__init__» noKeywords Builtin.Frozenset.updateFrom
        generalize hPI : pyIter = PI
        wp_walk
        subst hPI
        refine wpAny_pyIter_tuple hl1 (wpAny_bind (wpAny_runValue ?_))
        have hlS : l < s.heap.objs.size := Heap.lt_size hol
        have hh3 : A.in1.in1.in1.handled = none := by simp [hh]
        have hneI : l ≠ (s.heap.push { cls := .type "set", dict := none, data := .set #[] 0 (.fresh 0 0 led) }).objs.size := by
          rw [Heap.size_push]; exact Nat.ne_of_lt (Nat.lt_succ_of_lt hlS)
        have hSf : s.heap.objs.size ∉ [(s.heap.push { cls := .type "set", dict := none, data := .set #[] 0 (.fresh 0 0 led) }).objs.size, l] := by
          rw [Heap.size_push]; simp only [List.mem_cons, List.mem_singleton, List.not_mem_nil, or_false, not_or]
          exact ⟨Nat.ne_of_lt (Nat.lt_succ_self _), Nat.ne_of_gt hlS⟩
        refine set_turns (knd := knd) ((Walks.tuple hh3 _ l hneI items).toS) s.heap.objs.size hSf ks hs hi hb (items.size - 0) 0 _ (by omega) (Nat.zero_le _) ⟨⟨_, Heap.get?_push_size _ rfl, rfl, rfl⟩, (hl1.push _)⟩ ?hS0 ?hR
        case hS0 =>
          have hget : ((s.heap.push { cls := .type "set", dict := none, data := .set #[] 0 (.fresh 0 0 led) }).push { cls := .type "tuple_iterator", data := .fields #[.ref l, .int 0 0] }).get? s.heap.objs.size = some { cls := .type "set", dict := none, data := .set #[] 0 (.fresh 0 0 led) } := Heap.get?_push_of_some _ hS
          exact setOf_as ((PyProof.Rows.setObjOf_fresh (knd := knd) led).setOf hget (by unfold scanBound; omega)) (fun _ => by simp [metK]) rfl
        case hR =>
          intro s' hm hS'
          obtain ⟨h', g', d', tk', os'⟩ := s'
          have eg : g' = s.gens := hm.gens
          have ed : d' = s.drawn := hm.drawn
          have eo : os' = s.os := hm.os
          subst eg ed eo
          show wpAny _ _ _ _ _ _
          refine wpAny_pure ?_
          show wpAny _ _ (ret Value.none) _ _ _
          refine wpAny_pure ⟨rfl, h', tk', rfl, hS', fun b o hb e => ?_⟩
          have hb1 : b ≠ s.heap.objs.size := Nat.ne_of_lt hb
          have hb2 : b ≠ (s.heap.push { cls := .type "set", dict := none, data := .set #[] 0 (.fresh 0 0 led) }).objs.size := by
            rw [Heap.size_push]; exact Nat.ne_of_lt (Nat.lt_succ_of_lt hb)
          exact hm.heap b o (by simp only [List.mem_cons, List.mem_singleton, List.not_mem_nil, or_false, not_or]; exact ⟨hb1, hb2⟩) (Heap.get?_push_of_some _ (Heap.get?_push_of_some _ e))
      · cases r₂ with
        | error e => exact hr₂
        | ok fl₂ =>
          cases fl₂ with
          | ret r =>
            obtain ⟨rfl, h', tk, rfl, hS', hk'⟩ := hr₂
            repeat (any_goals (first | assumption | wp_step))
            exact h _ _ hS' hk'
          | _ => exact hr₂.elim
    | _ => exact hr.elim
end
end VL

set_option Elab.async false
set_option linter.all false
set_option maxRecDepth 100000
set_option maxHeartbeats 4000000
/-! V8: len(set(..)), comprehensions stored in one line, over own lists, list.remove. -/
namespace VL
open PySem PySem.Spec PyProof.Rows L2

/-! ### len(set(xs)) -/
def leafD : PyData → Option Leaf
  | .none => some .none
  | .int i => some (.num i)
  | .str x => some (.text x)
  | _ => none
def leavesD : List PyData → Option (List Leaf)
  | [] => some []
  | d :: ds => match leafD d with
    | none => none
    | some l => (leavesD ds).map (l :: ·)
def lenSetD (d : PyData) : Option PyData := match seqD d with
  | none => none
  | some ds => match leavesD ds with
    | none => none
    | some ls => if decide (ds.length ≤ 4000) then some (.int ((metK ls).length : Nat)) else none
theorem leaf_is {prog : Program} {w : World} {K : PySem.W.Frag} {F : Hp} {x : V} {u : Value} {d : PyData} {l : Leaf} (h : leafD d = some l) (r : Rp K F x d) (ru : RelV x u) : (leafKind prog w).is l u = true ∧ u.scannable = true := by
  cases r with
  | non => cases h; cases ru; exact ⟨rfl, rfl⟩
  | int i => cases h; obtain ⟨t, rfl⟩ := ru; exact ⟨decide_eq_true rfl, rfl⟩
  | str z => cases h; obtain ⟨t, rfl⟩ := ru; exact ⟨by show (z == z) = true; simp, rfl⟩
  | bl _ => cases h
  | lst _ _ => cases h
  | tup _ _ => cases h
theorem leaves_at {prog : Program} {w : World} {K : PySem.W.Frag} {F : Hp} : ∀ {ds : List PyData} {ls : List Leaf} {xs : List V} {us : List Value}, leavesD ds = some ls → RpAll K F xs ds → Vals xs us → ls.length = us.length ∧ ∀ (i : Nat) (v : Value), us[i]? = some v → ∃ k, ls[i]? = some k ∧ (leafKind prog w).is k v = true ∧ v.scannable = true
  | [], ls, _, _, h, .nil, .nil => by cases h; exact ⟨rfl, fun i v e => by simp at e⟩
  | d :: ds, ls, _, _, h, .cons r rs, .cons q qs => by
    unfold leavesD at h
    cases hd : leafD d with
    | none => rw [hd] at h; cases h
    | some l =>
      rw [hd] at h
      cases hs : leavesD ds with
      | none => simp [hs] at h
      | some ls' =>
        simp [hs] at h
        subst h
        obtain ⟨l1, g⟩ := leaves_at (prog := prog) (w := w) hs rs qs
        refine ⟨congrArg (· + 1) l1, fun i v e => ?_⟩
        cases i with
        | zero => simp at e; subst e; exact ⟨l, rfl, leaf_is hd r q⟩
        | succ i =>
          obtain ⟨k, e1, e2⟩ := g i v (by simpa using e)
          exact ⟨k, by simpa using e1, e2⟩
def tLenSetD (K : PySem.W.Frag) (ta : TE) : TE := fun σ H Q => ta σ H fun x H1 => ∃ d ds ls, Rp K H1 x d ∧ seqD d = some ds ∧ leavesD ds = some ls ∧ ds.length ≤ 4000 ∧ Q (.int ((metK ls).length : Nat)) H1
section
variable {X : Cx} {T : VT} {W : WX} {pos : Pos} {a : Expr} {f : ME}
theorem pe_lenSetD {ta : TE} {p p2 q : Pos} (hg : Gl X "len") (hm : X.mg "len" = none) (hg2 : Gl X "set") (hm2 : X.mg "set" = none) (ha : PE X a ta) (hc : X.calm = true)
    (na : starEach [a] X.env = (false, eval a X.env) :: starEach [] X.env := by rfl) : PE X (.Call (.Name "len" p) [.Call (.Name "set" p2) [a] [] q] [] pos) (tLenSetD X.K ta) := by
  constructor
  intro pins s σ H Q I h
  refine Call_ (ld_blt I hg hm boot_len ?_)
  refine PyProof.Rows.callWith_builtin1 (PyProof.Rows.args_cons ?_ rfl) rfl rfl
  refine Call_ (ld_blt I hg2 hm2 boot_set ?_)
  refine PyProof.Rows.callWith_type1 (PyProof.Rows.args_cons (thn (ha.run pins s σ H _ I h) fun v s1 ⟨x, H1, I1, r1, d, ds, ls, rd, hd, hl, hz, q1⟩ => PyProof.Rows.args_nil ?_) na) na rfl
  have fin : ∀ (h' : Heap) (tk : Nat), h'.SetOf (leafKind X.prog X.w) s1.heap.objs.size (fun k => decide (k ∈ metK ls)) (metK ls).length → (∀ b o, b < s1.heap.objs.size → s1.heap.get? b = some o → h'.get? b = some o) →
      wpAny (model X.prog X.w) X.A (spliced (backTo pos (starEach [] X.env))) (fun vs s₂ => wpAny (model X.prog X.w) X.A (call (.builtin "len") (Value.ref s1.heap.objs.size :: vs)) (EP X pins σ Q) X.xe s₂) X.xe { s1 with heap := h', toks := tk } := fun h' tk hS hk => by
    refine PyProof.Rows.args_nil ?_
    obtain ⟨o, es, ep, t, ho, hex, hdd, _, _, _, hf, hn⟩ := hS
    have I2 : Inv X pins σ H1 { s1 with heap := h', toks := tk } := I1.kept fun b o e => hk b o (Heap.lt_size e) e
    have ml := metK_len ls
    have hln : ls.length = ds.length := by
      cases rd with
      | lst h1 h2 =>
        cases hd
        obtain ⟨its, r, _, _⟩ := I1.list (SqL.of h1)
        rw [(leaves_at (prog := X.prog) (w := X.w) hl h2 r).1, ← r.length, h2.length]
      | tup h1 h2 =>
        cases hd
        obtain ⟨its, r, _, _⟩ := I1.tuple h1
        rw [(leaves_at (prog := X.prog) (w := X.w) hl h2 r).1, ← r.length, h2.length]
      | _ => cases hd
    refine call_len_set ho hex hdd hf (by rw [hn] <;> omega) ⟨.int ((metK ls).length : Nat), H1, I2.tok _, ⟨_, by rw [hn]⟩, q1⟩
  cases rd with
  | lst h1 h2 =>
    cases hd
    cases r1
    obtain ⟨its, r, pl, _⟩ := I1.list (SqL.of h1)
    obtain ⟨e1, e2⟩ := leaves_at (prog := X.prog) (w := X.w) hl h2 r
    have e3 := r.length
    have e4 := h2.length
    refine set_of_list (knd := leafKind X.prog X.w) ls (I1.ok.hd hc) pl.isList (by simpa using e1) (fun i v e => e2 i v (by simpa using e)) (by unfold scanBound; simp; omega) fin
  | tup h1 h2 =>
    cases hd
    cases r1
    obtain ⟨its, r, pl, _⟩ := I1.tuple h1
    obtain ⟨e1, e2⟩ := leaves_at (prog := X.prog) (w := X.w) hl h2 r
    have e3 := r.length
    have e4 := h2.length
    refine set_of_tuple (knd := leafKind X.prog X.w) ls (I1.ok.hd hc) pl (by simpa using e1) (fun i v e => e2 i v (by simpa using e)) (by unfold scanBound; simp; omega) fin
  | _ => cases hd
theorem xlenset {p p2 q : Pos} (hg : Gl X "len") (hm : X.mg "len" = none) (hg2 : Gl X "set") (hm2 : X.mg "set" = none) (ha : XE X T W a f) (hc : X.calm = true)
    (na : starEach [a] X.env = (false, eval a X.env) :: starEach [] X.env := by rfl) : XE X T W (.Call (.Name "len" p) [.Call (.Name "set" p2) [a] [] q] [] pos) (m1 lenSetD f) :=
  (pe_lenSetD hg hm hg2 hm2 ha hc na).weak fun σ H Q ⟨hid, B, ρ, S, q⟩ => ⟨hid, B, ρ, S, (Res.bind q).imp fun d ρ1 H1 S1 E1 q1 x rx => by
    obtain ⟨res, hr, q2⟩ := Res.opt S1 q1
    unfold lenSetD at hr
    split at hr
    · cases hr
    · rename_i ds hd
      split at hr
      · cases hr
      · rename_i ls hl
        split at hr
        · rename_i hz
          cases hr
          exact ⟨d, ds, ls, rx.mono fz_le, hd, hl, of_decide_eq_true hz, q2 H1 (Same.refl _) _ (.int _)⟩
        · cases hr⟩

/-! ### name = [..] in one line -/
theorem rdL_setO {i : Nat} {fs : ML} {D : Ends} {σ : L2.St} {H : Hp} (q : rdS X.K T W (mSetO i fs) D σ H) : rdL X.K T W fs σ H fun x H1 => D.nx (σ.set i (some x)) H1 := by
  obtain ⟨hid, B, ρ, S, q⟩ := q
  refine ⟨hid, B, ρ, S, (ResS.bindE q).imp fun ds ρ1 H1 S1 E1 q1 a xs ha r => ?_⟩
  by_cases z : i < ρ1.length
  · rw [if_pos z] at q1
    obtain ⟨S2, E2⟩ := S1.putOwn z ha r
    exact q1 _ _ S2 E2
  · rw [if_neg z] at q1
    exact q1.elim
theorem rdL_set {i : Nat} {fs : ML} {D : Ends} {σ : L2.St} {H : Hp} (q : rdS X.K T W (mSet i (mLst fs)) D σ H) : rdL X.K T W fs σ H fun x H1 => D.nx (σ.set i (some x)) H1 := by
  obtain ⟨hid, B, ρ, S, q⟩ := q
  unfold mSet mLst at q
  refine ⟨hid, B, ρ, S, ?_⟩
  cases hf : fs ρ with
  | no => rw [hf] at q; exact q.elim
  | ex c ρ' => rw [hf] at q; exact fun H' S' E' => q σ H' S' E'
  | ok ds ρ1 =>
    rw [hf] at q
    intro H1 S1 E1 a xs ha r
    obtain ⟨sm, rp⟩ := lst_new S1.dom ha r
    have S2 := S1.grow sm
    have E2 := S1.ext sm
    obtain ⟨S3, E3⟩ := S2.put (i := i) (Sl.plain_not (s := .val (.list ds)) rfl) (.val rp)
    exact q _ _ S3 ((E1.trans E2).trans E3)
section
variable {tg iter elt : Expr} {ifs : List Expr} {scope : Scope} {ts : List Nat} {fs : ML} {g : MG} {t : MT}
theorem rdLc (vs : List Nat) (hts : ∀ v ∈ ts, v ∈ vs) {σ : L2.St} {H : Hp} {Q : VK} (q : rdL X.K T W (mLc fs g t f vs) σ H Q) : tLc (rdI X.K T W fs) (rdG X.K T ts g) (rdT X.K T W0 t) (rdE X.K T W0 f) vs σ H Q := by
  obtain ⟨hid, B, ρ, S, q⟩ := q
  exact ⟨hid, B, ρ, S, (Res.bind q).imp fun ds ρ1 H1 S1 E1 q1 J hJ D hD => llc.llc_core vs hts S1 q1 hJ (fun b o e => .inl e) hD⟩
theorem ssetLcO (i : Nat) {y : Str} {py spos : Pos} (own : List (Str × Nat)) (hc : X.calm = true) (hN : X.N.Nodup) (hi : XI X T W tg iter fs) (ok : BlkOk X.N X.env.scope scope own)
    (hg : ∀ (s : Shared) (H : Hp) (C : Addr) (cl : List (Str × Addr)) (fp : List Addr), XG (X.blk s H scope (compEnvC scope cl C X.env) fp) T tg ts g)
    (ht : ∀ (s : Shared) (H : Hp) (C : Addr) (cl : List (Str × Addr)) (fp : List Addr), PTs (X.blk s H scope (compEnvC scope cl C X.env) fp) ifs (rdT X.K T W0 t))
    (he : ∀ (s : Shared) (H : Hp) (C : Addr) (cl : List (Str × Addr)) (fp : List Addr), XE (X.blk s H scope (compEnvC scope cl C X.env) fp) T W0 elt f) (hts : ∀ v ∈ ts, v ∈ own.map (·.2))
    (hsw : swapsWith (.ListComp elt [⟨tg, iter, ifs, 0⟩] scope pos) (some (.Name y py)) spos.line X.env = pure true)
    (hy : X.N[i]? = some y := by rfl) (hyl : X.env.scope.names.lookup y = some .local := by rfl) (hs : ∀ x, foldedSetIterable iter X.env x = pure x := by intro _; rfl) :
    XS X T W (.Assign [.Name y py] (.ListComp elt [⟨tg, iter, ifs, 0⟩] scope pos) spos) (mSetO i (mLc fs g t f (own.map (·.2)))) :=
  (ps_setLc (g := rdG X.K T ts g) (tt := rdT X.K T W0 t) (te := rdE X.K T W0 f) hc hN hy hyl hsw hi ok hg ht he hs).weak fun D σ H q => rdLc _ hts (rdL_setO q)
theorem ssetLc (i : Nat) {y : Str} {py spos : Pos} (own : List (Str × Nat)) (hc : X.calm = true) (hN : X.N.Nodup) (hi : XI X T W tg iter fs) (ok : BlkOk X.N X.env.scope scope own)
    (hg : ∀ (s : Shared) (H : Hp) (C : Addr) (cl : List (Str × Addr)) (fp : List Addr), XG (X.blk s H scope (compEnvC scope cl C X.env) fp) T tg ts g)
    (ht : ∀ (s : Shared) (H : Hp) (C : Addr) (cl : List (Str × Addr)) (fp : List Addr), PTs (X.blk s H scope (compEnvC scope cl C X.env) fp) ifs (rdT X.K T W0 t))
    (he : ∀ (s : Shared) (H : Hp) (C : Addr) (cl : List (Str × Addr)) (fp : List Addr), XE (X.blk s H scope (compEnvC scope cl C X.env) fp) T W0 elt f) (hts : ∀ v ∈ ts, v ∈ own.map (·.2))
    (hsw : swapsWith (.ListComp elt [⟨tg, iter, ifs, 0⟩] scope pos) (some (.Name y py)) spos.line X.env = pure true)
    (hy : X.N[i]? = some y := by rfl) (hyl : X.env.scope.names.lookup y = some .local := by rfl) (hs : ∀ x, foldedSetIterable iter X.env x = pure x := by intro _; rfl) :
    XS X T W (.Assign [.Name y py] (.ListComp elt [⟨tg, iter, ifs, 0⟩] scope pos) spos) (mSet i (mLst (mLc fs g t f (own.map (·.2))))) :=
  (ps_setLc (g := rdG X.K T ts g) (tt := rdT X.K T W0 t) (te := rdE X.K T W0 f) hc hN hy hyl hsw hi ok hg ht he hs).weak fun D σ H q => rdLc _ hts (rdL_set q)
end
/-! ### comprehensions over an own list, which nobody touches meanwhile -/
def isUn (ρ : R) (j : Nat) : Bool := match ρ[j]? with
  | some .un => true
  | _ => false
def mPeek (j : Nat) (F : List PyData → ML) : ML := fun ρ => match ρ[j]? with
  | some (.own ds) => (F ds (ρ.set j .un)).bind fun ys ρ2 => if isUn ρ2 j then .ok ys (ρ2.set j (.own ds)) else .no
  | some (.bor ds) => (F ds (ρ.set j .un)).bind fun ys ρ2 => if isUn ρ2 j then .ok ys (ρ2.set j (.bor ds)) else .no
  | _ => .no
def mKn (ds : List PyData) : ML := fun ρ => .ok ds ρ
section
variable {K : PySem.W.Frag} {hid : Addr → Prop} {B σ : L2.St} {ρ ρ2 : R} {H H2 : Hp}
theorem ownAt_un {j i : Nat} {a : Addr} : ownAt σ (ρ.set j .un) i a ↔ i ≠ j ∧ ownAt σ ρ i a := by
  unfold ownAt
  by_cases c : j = i
  · subst c
    constructor
    · rintro ⟨_, ds, h | h⟩
      · rw [List.getElem?_set, if_pos rfl] at h
        split at h <;> cases h
      · rw [List.getElem?_set, if_pos rfl] at h
        split at h <;> cases h
    · rintro ⟨h, _⟩
      exact absurd rfl h
  · rw [List.getElem?_set_ne c]
    exact ⟨fun h => ⟨fun z => c z.symm, h⟩, fun h => h.2⟩
theorem SR.cover (S : SR K T hid B H σ ρ) {j : Nat} {s : Sl} {ds : List PyData} {a : Addr} (h : ρ[j]? = some s) (hs : s.held = some ds) (ho : ownAt σ ρ j a) : SR K T (hidD hid a) B H σ (ρ.set j .un) ∧ Oa (hidD hid a) σ (ρ.set j .un) = Oa hid σ ρ := by
  have eo : Oa (hidD hid a) σ (ρ.set j .un) = Oa hid σ ρ := by
    funext b
    refine propext ⟨fun h => ?_, fun h => ?_⟩
    · rcases h with (h | h) | ⟨i, h⟩
      · exact .inl h
      · subst h; exact .inr ⟨j, ho⟩
      · exact .inr ⟨i, (ownAt_un.mp h).2⟩
    · rcases h with h | ⟨i, hz⟩
      · exact .inl (.inl h)
      · by_cases c : i = j
        · subst c
          have h1 := hz.1
          have h2 := ho.1
          rw [h1] at h2
          have z : b = a := by simpa using h2
          exact .inl (.inr z)
        · exact .inr ⟨i, ownAt_un.mpr ⟨c, hz⟩⟩
  obtain ⟨a', xs, e1, ho', h1, _⟩ := S.own_of h hs
  have ea : a' = a := by
    have z1 := ho.1
    rw [e1] at z1
    simpa using z1
  subst ea
  refine ⟨⟨by simp [S.len], fun i t e => ?_, fun i k b z1 z2 => S.one i k b (ownAt_un.mp z1).2 (ownAt_un.mp z2).2, fun i b z hz => ?_, fun b hz => ?_, fun i es e => ?_⟩, eo⟩
  · show ∃ o, _ ∧ SlV K T (fz (Oa _ _ _) H) H o t
    rw [eo]
    by_cases c : j = i
    · subst c
      rw [List.getElem?_set, if_pos rfl] at e
      split at e
      · cases e; exact ⟨_, e1, .un _⟩
      · cases e
    · rw [List.getElem?_set_ne c] at e
      exact S.rel i t e
  · obtain ⟨c, z⟩ := ownAt_un.mp z
    rcases hz with hz | hz
    · exact S.sep i b z hz
    · subst hz
      exact c (S.one i j b z ho)
  · rcases hz with hz | hz
    · exact S.hh b hz
    · subst hz; exact ⟨_, h1⟩
  · by_cases c : j = i
    · subst c
      rw [List.getElem?_set, if_pos rfl] at e
      split at e <;> cases e
    · rw [List.getElem?_set_ne c] at e
      exact S.bor i es e
theorem SR.uncover {a : Addr} (S : SR K T (hidD hid a) B H2 σ ρ2) {j : Nat} {s : Sl} {ds : List PyData} {xs : List V} (hn : ¬ hid a) (hun : ρ2[j]? = some .un ∨ ∃ d, ρ2[j]? = some (.val d)) (hs : s.held = some ds) (e1 : σ[j]? = some (some (.ref a))) (h1 : H2 a = some (.lst xs))
    (hr : RpAll K (Fz (hidD hid a) σ ρ2 H2) xs ds) (hB : ∀ es, s = .bor es → B[j]? = σ[j]?) : SR K T hid B H2 σ (ρ2.set j s) ∧ Oa hid σ (ρ2.set j s) = Oa (hidD hid a) σ ρ2 := by
  have lt : j < ρ2.length := by rcases hun with h | ⟨d, h⟩ <;> exact (List.getElem?_eq_some_iff.mp h).1
  have own : ∀ i b, ownAt σ (ρ2.set j s) i b ↔ (i = j ∧ b = a) ∨ (i ≠ j ∧ ownAt σ ρ2 i b) := fun i b => by
    unfold ownAt
    by_cases c : j = i
    · subst c
      rw [List.getElem?_set, if_pos rfl, if_pos lt, e1]
      constructor
      · rintro ⟨z, _⟩; cases z; exact .inl ⟨rfl, rfl⟩
      · rintro (⟨_, z⟩ | ⟨z, _⟩)
        · subst z
          refine ⟨rfl, ds, ?_⟩
          cases s <;> simp [Sl.held] at hs <;> subst hs <;> simp
        · exact absurd rfl z
    · rw [List.getElem?_set_ne c]
      constructor
      · intro h; exact .inr ⟨fun z => c z.symm, h⟩
      · rintro (⟨z, _⟩ | ⟨_, h⟩)
        · exact absurd z.symm c
        · exact h
  have noj : ∀ b, ¬ ownAt σ ρ2 j b := fun b ⟨_, es, h⟩ => by
    rcases hun with z | ⟨d, z⟩ <;> rw [z] at h <;> rcases h with h | h <;> cases h
  have eo : Oa hid σ (ρ2.set j s) = Oa (hidD hid a) σ ρ2 := by
    funext b
    refine propext ⟨fun h => ?_, fun h => ?_⟩
    · rcases h with h | ⟨i, h⟩
      · exact .inl (.inl h)
      · rcases (own i b).mp h with ⟨_, z⟩ | ⟨_, z⟩
        · exact .inl (.inr z)
        · exact .inr ⟨i, z⟩
    · rcases h with (h | h) | ⟨i, h⟩
      · exact .inl h
      · exact .inr ⟨j, (own j b).mpr (.inl ⟨rfl, h⟩)⟩
      · refine .inr ⟨i, (own i b).mpr (.inr ⟨fun z => ?_, h⟩)⟩
        subst z
        exact noj b h
  refine ⟨⟨by simp [S.len], fun i t e => ?_, fun i k b z1 z2 => ?_, fun i b z => ?_, fun b hz => S.hh b (.inl hz), fun i es e => ?_⟩, eo⟩
  · show ∃ o, _ ∧ SlV K T (fz (Oa _ _ _) H2) H2 o t
    rw [eo]
    by_cases c : j = i
    · subst c
      rw [List.getElem?_set, if_pos rfl, if_pos lt] at e
      cases e
      refine ⟨_, e1, ?_⟩
      cases s <;> simp [Sl.held] at hs <;> subst hs
      · exact .own h1 hr
      · exact .bor h1 hr
    · rw [List.getElem?_set_ne c] at e
      exact S.rel i t e
  · rcases (own i b).mp z1 with ⟨c1, e2⟩ | ⟨c1, q1⟩
    · rcases (own k b).mp z2 with ⟨c2, _⟩ | ⟨_, q2⟩
      · rw [c1, c2]
      · exact absurd (Or.inr e2) (S.sep k b q2)
    · rcases (own k b).mp z2 with ⟨_, e2⟩ | ⟨_, q2⟩
      · exact absurd (Or.inr e2) (S.sep i b q1)
      · exact S.one i k b q1 q2
  · rcases (own i b).mp z with ⟨_, e2⟩ | ⟨_, q⟩
    · subst e2; exact hn
    · exact fun w => S.sep i b q (.inl w)
  · by_cases c : j = i
    · subst c
      rw [List.getElem?_set, if_pos rfl, if_pos lt] at e
      cases e
      exact hB _ rfl
    · rw [List.getElem?_set_ne c] at e
      exact S.bor i es e
end
section
variable {tg elt : Expr} {ifs : List Expr} {scope : Scope} {ts : List Nat} {g : MG} {t : MT}
theorem peek_core {hid : Addr → Prop} {B σ : L2.St} {ρ : R} {H : Hp} {Q : VK} {j : Nat} {s : Sl} {ds : List PyData} {vs : List Nat} (hts : ∀ v ∈ ts, v ∈ vs) (S : SR X.K T hid B H σ ρ) (e : ρ[j]? = some s) (hs : s.held = some ds)
    (q : Res X.K T W hid B σ ρ H ((mLc (mKn ds) g t f vs (ρ.set j .un)).bind fun ys ρ2 => if isUn ρ2 j then .ok ys (ρ2.set j s) else .no) fun ds ρ' H' => ∀ a xs, H' a = none → RpAll X.K (Fz hid σ ρ' H') xs ds → Q (.ref a) (L2.upd H' a (.lst xs))) :
    tLc (iList X.K (tVar j)) (rdG X.K T ts g) (rdT X.K T W0 t) (rdE X.K T W0 f) vs σ H Q := by
  obtain ⟨a, xs, e1, ho, h1, h2⟩ := S.own_of e hs
  obtain ⟨S', eo⟩ := S.cover e hs ho
  have nh : ¬ hid a := S.sep j a ho
  have fe : Fz (hidD hid a) σ (ρ.set j .un) H = Fz hid σ ρ H := by
    show fz _ _ = fz _ _
    rw [eo]
  refine ⟨_, e1, a, rfl, ⟨xs, SqL.of h1⟩, fun D hD => ?_⟩
  have q1 : Res X.K T W (hidD hid a) B σ (ρ.set j .un) H (if wipeOk (ρ.set j .un) vs then (lcLoop g t f vs ds (wipeR (ρ.set j .un) vs) []).noex.bind fun ys ρ2 => .ok ys (restR (ρ.set j .un) ρ2 vs) else .no)
      fun ds ρ' H' => ∀ c ys, H' c = none → RpAll X.K (Fz (hidD hid a) σ ρ' H') ys ds → Q (.ref c) (L2.upd H' c (.lst ys)) := by
    have q : Res X.K T W hid B σ ρ H ((if wipeOk (ρ.set j .un) vs then (lcLoop g t f vs ds (wipeR (ρ.set j .un) vs) []).noex.bind fun ys ρ2 => .ok ys (restR (ρ.set j .un) ρ2 vs) else .no).bind fun ys ρ2 => if isUn ρ2 j then .ok ys (ρ2.set j s) else .no) _ := q
    by_cases c : wipeOk (ρ.set j .un) vs = true
    · rw [if_pos c] at q ⊢
      cases hl : lcLoop g t f vs ds (wipeR (ρ.set j .un) vs) [] with
      | no => rw [hl] at q; exact q.elim
      | ex cc ρ' => rw [hl] at q; exact q.elim
      | ok ys ρ2 =>
        rw [hl] at q
        have q : Res X.K T W hid B σ ρ H (if isUn (restR (ρ.set j .un) ρ2 vs) j then .ok ys ((restR (ρ.set j .un) ρ2 vs).set j s) else .no) _ := q
        intro H2 S2 E2 D xs2 hD2 hr2
        by_cases cu : isUn (restR (ρ.set j .un) ρ2 vs) j = true
        · rw [if_pos cu] at q
          have hun : (restR (ρ.set j .un) ρ2 vs)[j]? = some .un := by
            unfold isUn at cu
            split at cu
            · rename_i z; exact z
            · cases cu
          have keep : H2 a = some (.lst xs) := (E2.keep a (.inr rfl)).trans h1
          have fr : RpAll X.K (Fz (hidD hid a) σ (restR (ρ.set j .un) ρ2 vs) H2) xs ds := RpAll.mono E2.same _ (by rw [fe]; exact h2)
          obtain ⟨S3, eo3⟩ := S2.uncover nh (.inl hun) hs e1 keep fr (fun es z => by subst z; exact S.bor j es e)
          have fe3 : Fz hid σ ((restR (ρ.set j .un) ρ2 vs).set j s) H2 = Fz (hidD hid a) σ (restR (ρ.set j .un) ρ2 vs) H2 := by
            show fz _ _ = fz _ _
            rw [eo3]
          refine q H2 S3 ⟨?_, fun b hb => E2.keep b (.inl hb)⟩ D xs2 hD2 ?_
          · rw [fe3, ← fe]
            exact E2.same
          · rw [fe3]
            exact hr2
        · rw [if_neg cu] at q
          exact q.elim
    · rw [if_neg c] at q
      exact q.elim
  have hJ : ItOk X.K (Fz (hidD hid a) σ (ρ.set j .un) H) (L2.upd (fun _ => none) a (.lst xs)) (Itl X.K a) ds := by
    show Walk _ ds.length _ _
    rw [← h2.length]
    refine walk_list.mono (fun H' z => SqL.of (z a _ upd_same)) fun i H' x H'' hi hG ⟨e2, e3⟩ => ?_
    subst e2
    refine ⟨Same.refl _, fun O d hd hO hF => ?_⟩
    obtain ⟨v, e4, r⟩ := h2.get hd
    rw [e3] at e4
    cases e4
    rw [fe] at hF
    exact r.mono hF
  refine llc.llc_core (W := W) vs hts S' q1 hJ (fun b o z => ?_) hD
  by_cases c : b = a
  · subst c
    rw [upd_same] at z
    cases z
    exact .inr ⟨.inr rfl, h1⟩
  · rw [upd_ne c] at z
    cases z
theorem rdPeek {j : Nat} {vs : List Nat} (hts : ∀ v ∈ ts, v ∈ vs) {σ : L2.St} {H : Hp} {Q : VK} (q : rdL X.K T W (mPeek j fun ds => mLc (mKn ds) g t f vs) σ H Q) :
    tLc (iList X.K (tVar j)) (rdG X.K T ts g) (rdT X.K T W0 t) (rdE X.K T W0 f) vs σ H Q := by
  obtain ⟨hid, B, ρ, S, q⟩ := q
  unfold mPeek at q
  split at q
  · rename_i ds e
    exact peek_core hts S e rfl q
  · rename_i ds e
    exact peek_core hts S e rfl q
  · exact q.elim
theorem llcP (j : Nat) {x : Str} {p : Pos} (own : List (Str × Nat)) (hc : X.calm = true) (hN : X.N.Nodup) (ok : BlkOk X.N X.env.scope scope own)
    (hg : ∀ (s : Shared) (H : Hp) (C : Addr) (cl : List (Str × Addr)) (fp : List Addr), XG (X.blk s H scope (compEnvC scope cl C X.env) fp) T tg ts g)
    (ht : ∀ (s : Shared) (H : Hp) (C : Addr) (cl : List (Str × Addr)) (fp : List Addr), PTs (X.blk s H scope (compEnvC scope cl C X.env) fp) ifs (rdT X.K T W0 t))
    (he : ∀ (s : Shared) (H : Hp) (C : Addr) (cl : List (Str × Addr)) (fp : List Addr), XE (X.blk s H scope (compEnvC scope cl C X.env) fp) T W0 elt f) (hts : ∀ v ∈ ts, v ∈ own.map (·.2))
    (hj : X.N[j]? = some x := by rfl) (hv : Vis X.env.scope x := by first | exact Or.inl rfl | exact Or.inr (Or.inl rfl) | exact Or.inr (Or.inr rfl)) (hd : (x == ("__debug__" : Str)) = false := by decide) (hcd : (x == ("__classdict__" : Str)) = false := by decide)
    (hs : ∀ y, foldedSetIterable (.Name x p) X.env y = pure y := by intro _; rfl) : XL X T W (.ListComp elt [⟨tg, .Name x p, ifs, 0⟩] scope pos) (mPeek j fun ds => mLc (mKn ds) g t f (own.map (·.2))) :=
  (pe_lc (g := rdG X.K T ts g) (tt := rdT X.K T W0 t) (te := rdE X.K T W0 f) hc hN (pi_list (pe_var hj hv hd hcd)) ok hg ht he hs).weak fun σ H Q q => rdPeek hts q
theorem ssetLcP (i j : Nat) {x y : Str} {p py spos : Pos} (own : List (Str × Nat)) (hc : X.calm = true) (hN : X.N.Nodup) (ok : BlkOk X.N X.env.scope scope own)
    (hg : ∀ (s : Shared) (H : Hp) (C : Addr) (cl : List (Str × Addr)) (fp : List Addr), XG (X.blk s H scope (compEnvC scope cl C X.env) fp) T tg ts g)
    (ht : ∀ (s : Shared) (H : Hp) (C : Addr) (cl : List (Str × Addr)) (fp : List Addr), PTs (X.blk s H scope (compEnvC scope cl C X.env) fp) ifs (rdT X.K T W0 t))
    (he : ∀ (s : Shared) (H : Hp) (C : Addr) (cl : List (Str × Addr)) (fp : List Addr), XE (X.blk s H scope (compEnvC scope cl C X.env) fp) T W0 elt f) (hts : ∀ v ∈ ts, v ∈ own.map (·.2))
    (hsw : swapsWith (.ListComp elt [⟨tg, .Name x p, ifs, 0⟩] scope pos) (some (.Name y py)) spos.line X.env = pure true)
    (hy : X.N[i]? = some y := by rfl) (hyl : X.env.scope.names.lookup y = some .local := by rfl)
    (hj : X.N[j]? = some x := by rfl) (hv : Vis X.env.scope x := by first | exact Or.inl rfl | exact Or.inr (Or.inl rfl) | exact Or.inr (Or.inr rfl)) (hd : (x == ("__debug__" : Str)) = false := by decide) (hcd : (x == ("__classdict__" : Str)) = false := by decide)
    (hs : ∀ y, foldedSetIterable (.Name x p) X.env y = pure y := by intro _; rfl) : XS X T W (.Assign [.Name y py] (.ListComp elt [⟨tg, .Name x p, ifs, 0⟩] scope pos) spos) (mSet i (mLst (mPeek j fun ds => mLc (mKn ds) g t f (own.map (·.2))))) :=
  (ps_setLc (g := rdG X.K T ts g) (tt := rdT X.K T W0 t) (te := rdE X.K T W0 f) hc hN hy hyl hsw (pi_list (pe_var hj hv hd hcd)) ok hg ht he hs).weak fun D σ H q => rdPeek hts (rdL_set q)
end
/-! ### list.remove of a number -/
def removeD (ds : List PyData) (d : PyData) : Option (List PyData) := match intsD ds, d with
  | some ns, .int k => if k ∈ ns then some ((ns.erase k).map .int) else none
  | _, _ => none
theorem first_of {k : Int} : ∀ {ns : List Int}, k ∈ ns → ∃ j, ns[j]? = some k ∧ (∀ m : Nat, m < j → ns[m]? ≠ some k) ∧ ns.eraseIdx j = ns.erase k
  | n :: ns, h => by
    by_cases e : n = k
    · subst e
      exact ⟨0, rfl, fun m hm => absurd hm (by omega), by simp⟩
    · have h' : k ∈ ns := (List.mem_cons.mp h).resolve_left fun z => e z.symm
      obtain ⟨j, h1, h2, h3⟩ := first_of h'
      refine ⟨j + 1, by simpa using h1, fun m hm => ?_, ?_⟩
      · cases m with
        | zero => simpa using e
        | succ m => simpa using h2 m (by omega)
      · rw [List.eraseIdx_cons_succ, h3, List.erase_cons_tail (by simpa using e)]
theorem sremove (i : Nat) {x : Str} {p apos cpos : Pos} (ha : XE X T W a f) (hN : X.N[i]? = some x := by rfl) (hv : Vis X.env.scope x := by first | exact Or.inl rfl | exact Or.inr (Or.inl rfl) | exact Or.inr (Or.inr rfl)) (hd : (x == ("__debug__" : Str)) = false := by decide)
    (hcd : (x == ("__classdict__" : Str)) = false := by decide) (hbase : attributeBase (.Name x p) "remove" X.env (eval (.Name x p) X.env) = eval (.Name x p) X.env := by rfl)
    (hfew : ((backTo cpos (starEach [a] X.env)).all (fun x => !x.1) && (backToKw cpos (keywordEach [] X.env)).all (fun x => x.1.isSome)
      && decide (([a] : List Expr).length + ([] : List Keyword).length + (if ([] : List Keyword).isEmpty then 0 else 1) < 30)) = true := by rfl)
    (hline : (apos.endLine == cpos.line) = true := by rfl) (hs : starEach [a] X.env = (false, eval a X.env) :: starEach [] X.env := by rfl) (hplain : (backTo cpos (starEach [] X.env)).any (·.1) = false := by rfl)
    (hsw : swapsWith (.Call (.Attribute (.Name x p) "remove" apos) [a] [] cpos) none pos.line X.env = pure false := by rfl) :
    XS X T W (.Expr (.Call (.Attribute (.Name x p) "remove" apos) [a] [] cpos) pos) (mMut i removeD f) :=
  (ps_expr (pe_bm PySem.F.plainAttrs_list PySem.F.slot_list_remove PySem.F.type_list_remove mt_remove (pe_var hN hv hd hcd) (pa_cons ha pa_nil hs) hbase hfew hline hs hplain) hsw).weak fun D σ H q => by
    refine rdMut i (op := removeD) (fun F H a xs ds es x d Q h1 h2 h3 hF ho hq => ?_) q
    unfold removeD at ho
    split at ho
    · rename_i ns k hn
      split at ho
      · rename_i hk
        cases ho
        rw [intsD_of hn] at h2
        have ex := rp_ints h2
        obtain ⟨j, e1, e2, e3⟩ := first_of hk
        refine ⟨a, ns, k, j, rfl, by rw [rp_int h3], by rw [h1, ex], e1, e2, ?_⟩
        rw [e3]
        exact hq _ RpAll.ints
      · cases ho
    · cases ho
end
end VL

set_option Elab.async false
set_option linter.all false
set_option maxRecDepth 100000
set_option maxHeartbeats 4000000
/-! V9: what the printed proofs lean on: bundles of facts, reading names, chains as tests. -/
namespace VL
open PySem PySem.Spec PyProof.Rows L2
/-! ### reading a name whose list may be own -/
def mRd (i : Nat) : ME := fun ρ => match ρ[i]? with
  | some (.val d) => .ok d ρ
  | some (.own ds) => .ok (.list ds) (ρ.set i (.val (.list ds)))
  | _ => .no
def peekR (ρ : R) (i : Nat) : Option (List PyData) := match ρ[i]? with
  | some (.own ds) => some ds
  | some (.bor ds) => some ds
  | some (.val (.list ds)) => some ds
  | _ => none
def mLenP (i : Nat) : ME := fun ρ => match peekR ρ i with
  | some ds => .ok (.int (ds.length : Nat)) ρ
  | none => .no
def mTruP (i : Nat) : MT := fun ρ => match peekR ρ i with
  | some ds => .ok (!ds.isEmpty) ρ
  | none => .no
def mIxP (i : Nat) (g : ME) : ME := fun ρ => match peekR ρ i with
  | none => .no
  | some _ => (g ρ).bind fun d ρ1 => match d with
    | .int k => match peekR ρ1 i with
      | some ds => Oc.opt (atI ds k) ρ1
      | none => .no
    | _ => .no
section
variable {X : Cx} {T : VT} {W : WX} {pos p2 : Pos} {e a b c : Expr} {f g h : ME}
theorem SR.peek {K : PySem.W.Frag} {T : VT} {hid : Addr → Prop} {B σ : L2.St} {ρ : R} {H : Hp} (S : SR K T hid B H σ ρ) {i : Nat} {ds : List PyData} (h : peekR ρ i = some ds) :
    ∃ a xs, σ[i]? = some (some (.ref a)) ∧ H a = some (.lst xs) ∧ RpAll K (Fz hid σ ρ H) xs ds := by
  unfold peekR at h
  split at h
  · rename_i e
    cases h
    obtain ⟨o, e1, r⟩ := S.rel i _ e
    cases r with
    | own h1 h2 => exact ⟨_, _, e1, h1, h2⟩
  · rename_i e
    cases h
    obtain ⟨o, e1, r⟩ := S.rel i _ e
    cases r with
    | bor h1 h2 => exact ⟨_, _, e1, h1, h2⟩
  · rename_i e
    cases h
    obtain ⟨o, e1, r⟩ := S.rel i _ e
    cases r with
    | val r =>
      cases r with
      | lst h1 h2 => exact ⟨_, _, e1, fz_le _ _ h1, h2⟩
  · cases h
theorem xrd (i : Nat) {x : Str} {pos : Pos} (hN : X.N[i]? = some x := by rfl) (hv : Vis X.env.scope x := by first | exact Or.inl rfl | exact Or.inr (Or.inl rfl) | exact Or.inr (Or.inr rfl)) (hd : (x == ("__debug__" : Str)) = false := by decide)
    (hcd : (x == ("__classdict__" : Str)) = false := by decide) : XE X T W (.Name x pos) (mRd i) := (pe_var hN hv hd hcd).weak fun σ H Q ⟨hid, B, ρ, S, r⟩ => by
  unfold mRd at r
  split at r
  · rename_i d e
    obtain ⟨o, e1, r1⟩ := S.rel i _ e
    cases r1 with
    | val r1 => exact ⟨_, e1, Res.here S r _ r1⟩
  · rename_i ds e
    obtain ⟨v, e1, S1, E1, r1⟩ := S.freeze e
    exact ⟨_, e1, r H S1 E1 v r1⟩
  · exact r.elim
theorem xlenP (i : Nat) {x : Str} {p q : Pos} (hg : Gl X "len") (hm : X.mg "len" = none) (hN : X.N[i]? = some x := by rfl) (hv : Vis X.env.scope x := by first | exact Or.inl rfl | exact Or.inr (Or.inl rfl) | exact Or.inr (Or.inr rfl)) (hd : (x == ("__debug__" : Str)) = false := by decide)
    (hcd : (x == ("__classdict__" : Str)) = false := by decide) (he : starEach [.Name x p] X.env = (false, eval (.Name x p) X.env) :: starEach [] X.env := by rfl) (hpl : (backTo pos (starEach [] X.env)).any (·.1) = false := by rfl) :
    XE X T W (.Call (.Name "len" q) [.Name x p] [] pos) (mLenP i) :=
  (pe_callB call_len_seq hg hm PySem.boot_len (pa_cons (pe_var hN hv hd hcd) pa_nil he) (by decide) (by decide) he hpl).weak fun σ H Q ⟨hid, B, ρ, S, q⟩ => by
    unfold mLenP at q
    cases h : peekR ρ i with
    | none => rw [h] at q; exact q.elim
    | some ds =>
      rw [h] at q
      obtain ⟨a, xs, e1, h1, h2⟩ := S.peek h
      exact ⟨_, e1, a, xs, rfl, .inl (SqL.of h1), by rw [h2.length]; exact Res.here S q _ (.int _)⟩
theorem truP (i : Nat) {x : Str} {pos : Pos} (hN : X.N[i]? = some x := by rfl) (hv : Vis X.env.scope x := by first | exact Or.inl rfl | exact Or.inr (Or.inl rfl) | exact Or.inr (Or.inr rfl)) (hd : (x == ("__debug__" : Str)) = false := by decide)
    (hcd : (x == ("__classdict__" : Str)) = false := by decide) (hw : ∀ whole, isTrue (.Name x pos) X.env whole = (do let v ← whole; standAt (Expr.Name x pos).pos; holding [v] (truthy v)) := by intro _; rfl) : XT X T W (.Name x pos) (mTruP i) :=
  (pt_truth (pe_var hN hv hd hcd) hw).weak fun σ H Q ⟨hid, B, ρ, S, q⟩ => by
    unfold mTruP at q
    cases h : peekR ρ i with
    | none => rw [h] at q; exact q.elim
    | some ds =>
      rw [h] at q
      obtain ⟨a, xs, e1, h1, h2⟩ := S.peek h
      refine ⟨_, e1, _, .inl ⟨_, SqL.of h1, rfl⟩, ?_⟩
      have z := Res.here S q
      cases h2 <;> exact z
theorem xixP (i : Nat) {x : Str} {p : Pos} (hb : XE X T W b g) (hs : PlainIx b := by exact fun _ _ => rfl) (hN : X.N[i]? = some x := by rfl) (hv : Vis X.env.scope x := by first | exact Or.inl rfl | exact Or.inr (Or.inl rfl) | exact Or.inr (Or.inr rfl)) (hd : (x == ("__debug__" : Str)) = false := by decide)
    (hcd : (x == ("__classdict__" : Str)) = false := by decide) : XE X T W (.Subscript (.Name x p) b pos) (mIxP i g) :=
  (pe_ix ix_list (pe_var hN hv hd hcd) hb hs).weak fun σ H Q ⟨hid, B, ρ, S, q⟩ => by
    unfold mIxP at q
    cases h0 : peekR ρ i with
    | none => rw [h0] at q; exact q.elim
    | some ds0 =>
      rw [h0] at q
      obtain ⟨a, xs0, e1, _, _⟩ := S.peek h0
      refine ⟨_, e1, hid, B, ρ, S, (Res.bind q).imp fun d ρ1 H1 S1 E1 q1 y ry => ?_⟩
      cases d with
      | int k =>
        cases h : peekR ρ1 i with
        | none => simp only [h] at q1; exact q1.elim
        | some ds =>
          simp only [h] at q1
          obtain ⟨a', xs, e2, h1, h2⟩ := S1.peek h
          rw [e1] at e2
          cases e2
          obtain ⟨r, hr, q2⟩ := Res.opt S1 q1
          obtain ⟨v, e3, rv⟩ := rpall_at h2 hr
          exact ⟨a, xs, k, v, rfl, rp_int ry, SqL.of h1, e3, q2 H1 (Same.refl _) v rv⟩
      | _ => exact q1.elim
/-! ### chains as tests -/
theorem tchain {o o' : CmpOp} {r r' : R2} {op op' : PyData → PyData → Option PyData} (ho : OpR X (compareOp o) r) (ho' : OpR X (compareOp o') r') (hp : Pure2 X.K r op) (hp' : Pure2 X.K r' op') (hb1 : ∀ d e res, op d e = some res → ∃ k, res = .bool k)
    (ha : XE X T W a f) (hb : XE X T W b g) (hc : XE X T W c h) (hm : lastMarks [o, o'] [b, c] = false) : XT X T W (.Compare a [o, o'] [b, c] pos) (mB (mChain op op' f g h)) :=
  (pt_chain ho ho' ha hb hc hm).weak fun σ H Q q => by
    have z := rdB q
    exact rdChain hp hp' hb1 z
end

/-! ### facts in bundles -/
/-- a def of the text, where it stands and how it binds -/
structure At (K : PySem.W.Frag) (mg : Str → Option Value) (x : Str) (st : Stmt) (ps : List Str) : Prop where
  ex : ∃ f fd, mg x = some (.ref f) ∧ Fun K x x st f fd ∧ Binds K fd ps []
/-- a def that computes what its mirror does -/
structure Does (P : Program) (w : World) (K : PySem.W.Frag) (mg : Str → Option Value) (base : Heap) (T : VT) (x : Str) (ps : List Str) (k : Nat) (m : Mir) : Prop where
  ex : ∃ f fd, mg x = some (.ref f) ∧ PySem.W.keepIn K (.ref f) = true ∧ Binds K fd ps [] ∧ FnOk P w K mg base (L2.CX P w) k f fd ps (spM K T m)
structure Exc (K : PySem.W.Frag) (mg : Str → Option Value) (T : VT) (x : Str) (c : Nat) : Prop where
  g : mg x = some (.ref (T.ea c))
  x : PySem.W.excIn K (T.ea c) [.type "ValueError", .type "Exception", .type "BaseException", .type "object"] "ValueError.__new__" = true
  k : PySem.W.keepIn K (.ref (T.ea c)) = true
  b : PySem.W.subIn K (.ref (T.ea c)) (.type "BaseException") = some true
  t : PySem.W.typeIn K (.ref (T.ea c)) = some (.type "type")
section
variable {P : Program} {w : World} {K : PySem.W.Frag} {T : VT} {mg : Str → Option Value} {base : Heap}
theorem does {x : Str} {st : Stmt} {N ps : List Str} {k : Nat} {m : MS} (F : At K mg x st ps) (S : FnScope N ps (defScope st)) (kk : Nat) (hk : N.length = ps.length + kk)
    (hbody : ∀ (f : Addr) (cdv : Value) (A : Around) (outer : List Env) (s : Shared) (H : Hp) (E : XK), Room k (A.deeper (envOfC x (defScope st) s.heap.objs.size f cdv)) →
      XSs (cxOf (L2.CX P w) P w K mg base N x (defScope st) f cdv A outer s H E) T (WOf E) (defBody st) m) : Does P w K mg base T x ps (k + 1) (mFn ps.length kk m) := by
  obtain ⟨f, fd, h1, h2, h3⟩ := F.ex
  exact ⟨f, fd, h1, h2.kp, h3, fn_ok h2 S kk hk fun cdv A outer s H E hr => hbody f cdv A outer s H E hr⟩
end
section
variable {X : Cx} {T : VT} {W : WX} {pos p : Pos} {a : Expr} {es : List Expr} {fa : MA} {k : Nat} {ps : List Str} {m : Mir} {x : Str}
theorem xdo (D : Does X.prog X.w X.K X.mg X.base T x ps k m) (hr : Room k X.A) (hg : Gl X x) (tk : Takes X W) (ha : XA X T W (a :: es) fa) (hdb : (x == ("__debug__" : Str)) = false := by decide)
    (he : starEach (a :: es) X.env = (false, eval a X.env) :: starEach es X.env := by rfl) (hpl : (backTo pos (starEach es X.env)).any (·.1) = false := by rfl) : XE X T W (.Call (.Name x p) (a :: es) [] pos) (mCall m fa) := by
  obtain ⟨f, fd, h1, h2, h3, h4⟩ := D.ex
  exact xcall h4 hr hg h1 h2 h3 tk ha hdb he hpl
theorem srs (c : Nat) {m : Str} {j : Nat} {q pos2 : Pos} (hc : X.calm = true) (tk : Takes X W) (F : Exc X.K X.mg T x c) (hg : Gl X x) (hdb : (x == ("__debug__" : Str)) = false := by decide) :
    XS X T W (.Raise (some (.Call (.Name x p) [.Constant (.str m) j q] [] pos2)) none pos) (mRaise c) := sraise c hc tk PySem.F.excBase_ValueError F.x F.g F.k (raises_own F.b F.t) hg rfl hdb
end
end VL
namespace VL
open PySem PySem.Spec PyProof.Rows L2
theorem b_len : bootBuiltins "len" = some (.builtin "len") := by decide +kernel
theorem b_all : bootBuiltins "all" = some (.builtin "all") := by decide +kernel
theorem b_any : bootBuiltins "any" = some (.builtin "any") := by decide +kernel
theorem b_abs : bootBuiltins "abs" = some (.builtin "abs") := by decide +kernel
theorem b_max : bootBuiltins "max" = some (.builtin "max") := by decide +kernel
theorem b_min : bootBuiltins "min" = some (.builtin "min") := by decide +kernel
theorem b_sum : bootBuiltins "sum" = some (.builtin "sum") := by decide +kernel
theorem b_sorted : bootBuiltins "sorted" = some (.builtin "sorted") := by decide +kernel
theorem b_int : bootBuiltins "int" = some (.type "int") := by decide +kernel
theorem b_bool : bootBuiltins "bool" = some (.type "bool") := by decide +kernel
theorem b_str : bootBuiltins "str" = some (.type "str") := by decide +kernel
theorem b_list : bootBuiltins "list" = some (.type "list") := by decide +kernel
theorem b_tuple : bootBuiltins "tuple" = some (.type "tuple") := by decide +kernel
/-- the built-in names that the text uses are not the module's -/
structure Blt (mg : Str → Option Value) : Prop where
  len : mg "len" = none
  all : mg "all" = none
  any : mg "any" = none
  abs : mg "abs" = none
  max : mg "max" = none
  min : mg "min" = none
  sum : mg "sum" = none
  sorted : mg "sorted" = none
  int : mg "int" = none
  bool : mg "bool" = none
  str : mg "str" = none
  list : mg "list" = none
  tuple : mg "tuple" = none
  range : mg "range" = none
  set : mg "set" = none
  isinstance : mg "isinstance" = none
  zip : mg "zip" = none
  dict : mg "dict" = none
structure CInt (mg : Str → Option Value) (x : Str) (i : Int) : Prop where
  ex : ∃ t, mg x = some (.int i t)
structure CStr (mg : Str → Option Value) (x : Str) (z : Str) : Prop where
  ex : ∃ t, mg x = some (.str z t)
structure CDat (K : PySem.W.Frag) (mg : Str → Option Value) (x : Str) (d : PyData) : Prop where
  ex : ∃ a, mg x = some (.ref a) ∧ ∀ F, Rp K F (.ref a) d
section
variable {X : Cx} {T : VT} {W : WX} {pos : Pos} {x : Str}
theorem xci {i : Int} (hg : Gl X x) (h : CInt X.mg x i) (hd : (x == ("__debug__" : Str)) = false := by decide) : XE X T W (.Name x pos) (mC (.int i)) := by
  obtain ⟨t, e⟩ := h.ex
  exact xglob (v := .int i) hg e ⟨t, rfl⟩ (fun _ => .int i) hd
theorem xcs {z : Str} (hg : Gl X x) (h : CStr X.mg x z) (hd : (x == ("__debug__" : Str)) = false := by decide) : XE X T W (.Name x pos) (mC (.str z)) := by
  obtain ⟨t, e⟩ := h.ex
  exact xglob (v := .str z) hg e ⟨t, rfl⟩ (fun _ => .str z) hd
theorem xcd {d : PyData} (hg : Gl X x) (h : CDat X.K X.mg x d) (hd : (x == ("__debug__" : Str)) = false := by decide) : XE X T W (.Name x pos) (mC d) := by
  obtain ⟨a, e, r⟩ := h.ex
  exact xglob (v := .ref a) hg e rfl r hd
end
end VL

set_option Elab.async false
set_option linter.all false
set_option maxRecDepth 100000
set_option maxHeartbeats 4000000
/-! V10: repetition, extend, more. -/
namespace VL
open PySem PySem.Spec PyProof.Rows L2
def mYes : MT := fun ρ => .ok true ρ
theorem _root_.L2.PTs.weak {X : Cx} {ifs : List Expr} {t t' : TT} (h : PTs X ifs t) (w : ∀ σ H Q, t' σ H Q → t σ H Q) : PTs X ifs t' := ⟨fun pins s σ H Q I q => h.run pins s σ H Q I (w σ H Q q)⟩
theorem pts_nilM {X : Cx} {T : VT} {W : WX} : PTs X [] (rdT X.K T W mYes) := pts_nil.weak fun σ H Q ⟨hid, B, ρ, S, q⟩ => Res.here S q
def mulD (d e : PyData) : Option PyData := match d, e with
  | .list ds, .int k => if decide (k.natAbs < 9223372036854775808 ∧ ds.length * k.toNat ≤ 16777216) then some (.list (List.replicate k.toNat ds).flatten) else none
  | d, e => mulI d e
theorem flat_len {α : Type} (l : List α) : ∀ k : Nat, (List.replicate k l).flatten.length = k * l.length
  | 0 => by simp
  | k + 1 => by rw [List.replicate_succ, List.flatten_cons, List.length_append, flat_len l k, Nat.succ_mul, Nat.add_comm]
def rMulD : R2 := fun x y H Q => rRep x y H Q ∨ rI CMulW (fun i j => .int (i * j)) x y H Q
theorem op_mulD {X : Cx} : OpR X (binaryOp .Mult) rMulD := op_rep.or op_mulW
theorem pure_mulD {K : PySem.W.Frag} : Pure2 K rMulD mulD := by
  intro O H x y d e res Q hO rx ry ho q
  unfold mulD at ho
  split at ho
  · split at ho
    · rename_i hz
      cases ho
      have hk := of_decide_eq_true hz
      obtain ⟨a, xs, rfl, h1, h2⟩ := rp_lst rx
      refine .inl ⟨a, _, xs, rfl, rp_int ry, fz_le _ _ h1, by have := hk.1; omega, by have := hk.1; omega, by rw [h2.length, sizeLine_eq]; exact hk.2, fun p hp => ?_⟩
      obtain ⟨sm, r⟩ := lst_new hO hp (h2.rep _)
      exact q _ _ sm r
    · cases ho
  · exact .inr (pure_mul O H x y d e res Q hO rx ry ho q)
/-! str(x), max(xs), min(xs) -/
def strD : List PyData → Option PyData
  | [.int i] => if decide (i.natAbs.log2 < 1920) then some (.str (toString i)) else none
  | [.str z] => some (.str z)
  | _ => none
def maxI : Int → List Int → Int
  | m, [] => m
  | m, n :: ns => maxI (if n > m then n else m) ns
def minI : Int → List Int → Int
  | m, [] => m
  | m, n :: ns => minI (if n < m then n else m) ns
def maxD : List PyData → Option PyData
  | [.list ds] => match intsD ds with
    | some (n :: ns) => some (.int (maxI n ns))
    | _ => none
  | _ => none
def minD : List PyData → Option PyData
  | [.list ds] => match intsD ds with
    | some (n :: ns) => some (.int (minI n ns))
    | _ => none
  | _ => none
def extendD (ds : List PyData) (d : PyData) : Option (List PyData) := match d with
  | .list es => if fits (ds.length + es.length) then some (ds ++ es) else none
  | _ => none
section
variable {X : Cx} {T : VT} {W : WX} {pos : Pos} {a : Expr} {f : ME}
theorem sextend (i : Nat) {x : Str} {p apos cpos : Pos} (ha : XE X T W a f) (hN : X.N[i]? = some x := by rfl) (hv : Vis X.env.scope x := by first | exact Or.inl rfl | exact Or.inr (Or.inl rfl) | exact Or.inr (Or.inr rfl)) (hd : (x == ("__debug__" : Str)) = false := by decide)
    (hcd : (x == ("__classdict__" : Str)) = false := by decide) (hbase : attributeBase (.Name x p) "extend" X.env (eval (.Name x p) X.env) = eval (.Name x p) X.env := by rfl)
    (hfew : ((backTo cpos (starEach [a] X.env)).all (fun x => !x.1) && (backToKw cpos (keywordEach [] X.env)).all (fun x => x.1.isSome)
      && decide (([a] : List Expr).length + ([] : List Keyword).length + (if ([] : List Keyword).isEmpty then 0 else 1) < 30)) = true := by rfl)
    (hline : (apos.endLine == cpos.line) = true := by rfl) (hs : starEach [a] X.env = (false, eval a X.env) :: starEach [] X.env := by rfl) (hplain : (backTo cpos (starEach [] X.env)).any (·.1) = false := by rfl)
    (hsw : swapsWith (.Call (.Attribute (.Name x p) "extend" apos) [a] [] cpos) none pos.line X.env = pure false := by rfl) :
    XS X T W (.Expr (.Call (.Attribute (.Name x p) "extend" apos) [a] [] cpos) pos) (mMut i extendD f) :=
  (ps_expr (pe_bm PySem.F.plainAttrs_list PySem.F.slot_list_extend PySem.F.type_list_extend mt_extend (pe_var hN hv hd hcd) (pa_cons ha pa_nil hs) hbase hfew hline hs hplain) hsw).weak fun D σ H q => by
    refine rdMut i (op := extendD) (fun F H a xs ds es x d Q h1 h2 h3 hF ho hq => ?_) q
    unfold extendD at ho
    split at ho
    · split at ho
      · rename_i hz
        cases ho
        obtain ⟨b, zs, rfl, h4, h5⟩ := rp_lst h3
        exact ⟨a, b, xs, zs, rfl, rfl, h1, hF _ _ h4, by rw [h2.length, h5.length]; exact sz_fits hz, hq _ (h2.append h5)⟩
      · cases ho
    · cases ho
end
end VL

set_option Elab.async false
set_option linter.all false
set_option maxRecDepth 100000
set_option maxHeartbeats 4000000
/-! V11: the law's end: from the mirror's answer to the row. -/
namespace VL
open PySem PySem.Spec PyProof.Rows L2
theorem at_mk {K : PySem.W.Frag} {h : Heap} {mg : Str → Option Value} {x : Str} {st : Stmt} {ps : List Str} {f : Addr} {od an : Option Addr} {sl : Array (Option Value)} {oc kV dc pm cd ct : Value} (X : K.In h) (G : h.Ns mainGlobals mg)
    (hb : ∀ (kV doc pm : Value) (an : Option Addr) (cdv ct : Value) (us : List Value), us.length = ps.length → bindArgs (PySem.W.fnOf x x (defArgs st) (defBody st) (defScope st) .none kV doc pm an cdv ct) ⟨us, []⟩ = pure (ps.zip us))
    (a : PySem.W.nsIn K mainGlobals x = some (some (.ref f))) (l : K.lookup f = some ⟨oc, od, .func (PySem.W.fnOf x x (defArgs st) (defBody st) (defScope st) .none kV dc pm an cd ct), sl⟩) (c : PySem.W.codeIn K cd x = true) (k : PySem.W.keepIn K (.ref f) = true) : At K mg x st ps := by
  have F := fun_mk (st := st) l c k
  exact ⟨f, _, PySem.W.mg_of X G a, F, F.binds hb⟩
theorem exc_mk {K : PySem.W.Frag} {h : Heap} {mg : Str → Option Value} {x : Str} {T : VT} {c : Nat} {C : Addr} (X : K.In h) (G : h.Ns mainGlobals mg) (e : T.ea c = C) (a : PySem.W.nsIn K mainGlobals x = some (some (.ref C)))
    (xx : PySem.W.excIn K C [.type "ValueError", .type "Exception", .type "BaseException", .type "object"] "ValueError.__new__" = true) (k : PySem.W.keepIn K (.ref C) = true) (b : PySem.W.subIn K (.ref C) (.type "BaseException") = some true) (t : PySem.W.typeIn K (.ref C) = some (.type "type")) : Exc K mg T x c := by
  subst e
  exact ⟨PySem.W.mg_of X G a, xx, k, b, t⟩
theorem cint_mk {K : PySem.W.Frag} {h : Heap} {mg : Str → Option Value} {x : Str} {i : Int} {t : Tok} (X : K.In h) (G : h.Ns mainGlobals mg) (a : PySem.W.nsIn K mainGlobals x = some (some (.int i t))) : CInt mg x i := ⟨t, PySem.W.mg_of X G a⟩
theorem cstr_mk {K : PySem.W.Frag} {h : Heap} {mg : Str → Option Value} {x : Str} {i : Str} {t : Tok} (X : K.In h) (G : h.Ns mainGlobals mg) (a : PySem.W.nsIn K mainGlobals x = some (some (.str i t))) : CStr mg x i := ⟨t, PySem.W.mg_of X G a⟩
theorem vals_strs : ∀ {zs : List Str} {us : List Value}, (List.length us = List.length zs) → (∀ (i : Nat) (u : Value) (z : Str), us[i]? = some u → zs[i]? = some z → ∃ t, u = .str z t) → Vals (zs.map V.str) us
  | [], [], _, _ => .nil
  | z :: zs, u :: us, hl, h => by
    obtain ⟨t, e⟩ := h 0 u z rfl rfl
    exact .cons ⟨t, e⟩ (vals_strs (by simpa using hl) fun i u z h1 h2 => h (i + 1) u z (by simpa using h1) (by simpa using h2))
theorem ctup2_mk {K : PySem.W.Frag} {h : Heap} {mg : Str → Option Value} {x : Str} {a : Addr} {od : Option Addr} {y z : Str} {t u : Tok} {n : Nat} {sl : Array (Option Value)} (X : K.In h) (G : h.Ns mainGlobals mg) (ha : PySem.W.nsIn K mainGlobals x = some (some (.ref a)))
    (hl : K.lookup a = some ⟨.type "tuple", od, .seq #[.str y t, .str z u] n, sl⟩) : CDat K mg x (.tuple [.str y, .str z]) :=
  ⟨a, PySem.W.mg_of X G ha, fun F => .tup (xs := [.str y, .str z]) (.inr ⟨_, _, _, hl, rfl, rfl, by simp [sizeLine_eq], .cons ⟨t, rfl⟩ (.cons ⟨u, rfl⟩ .nil)⟩) (.cons (.str y) (.cons (.str z) .nil))⟩
theorem ctup3_mk {K : PySem.W.Frag} {h : Heap} {mg : Str → Option Value} {x : Str} {a : Addr} {od : Option Addr} {y z v : Str} {t u s : Tok} {n : Nat} {sl : Array (Option Value)} (X : K.In h) (G : h.Ns mainGlobals mg) (ha : PySem.W.nsIn K mainGlobals x = some (some (.ref a)))
    (hl : K.lookup a = some ⟨.type "tuple", od, .seq #[.str y t, .str z u, .str v s] n, sl⟩) : CDat K mg x (.tuple [.str y, .str z, .str v]) :=
  ⟨a, PySem.W.mg_of X G ha, fun F => .tup (xs := [.str y, .str z, .str v]) (.inr ⟨_, _, _, hl, rfl, rfl, by simp [sizeLine_eq], .cons ⟨t, rfl⟩ (.cons ⟨u, rfl⟩ (.cons ⟨s, rfl⟩ .nil))⟩) (.cons (.str y) (.cons (.str z) (.cons (.str v) .nil)))⟩
theorem ctup4_mk {K : PySem.W.Frag} {h : Heap} {mg : Str → Option Value} {x : Str} {a : Addr} {od : Option Addr} {y z v q : Str} {t u s r : Tok} {n : Nat} {sl : Array (Option Value)} (X : K.In h) (G : h.Ns mainGlobals mg) (ha : PySem.W.nsIn K mainGlobals x = some (some (.ref a)))
    (hl : K.lookup a = some ⟨.type "tuple", od, .seq #[.str y t, .str z u, .str v s, .str q r] n, sl⟩) : CDat K mg x (.tuple [.str y, .str z, .str v, .str q]) :=
  ⟨a, PySem.W.mg_of X G ha, fun F => .tup (xs := [.str y, .str z, .str v, .str q]) (.inr ⟨_, _, _, hl, rfl, rfl, by simp [sizeLine_eq], .cons ⟨t, rfl⟩ (.cons ⟨u, rfl⟩ (.cons ⟨s, rfl⟩ (.cons ⟨r, rfl⟩ .nil)))⟩) (.cons (.str y) (.cons (.str z) (.cons (.str v) (.cons (.str q) .nil))))⟩
/-- what the row asks of the law -/
def spRow (K : PySem.W.Frag) : Sp := fun vs H Q _ => ∃ (a : Addr) (ns : List Int), vs = [.ref a] ∧ SqL K H a (ns.map V.int) ∧ ns.length ≤ 63 ∧ ∀ H', Q (.bl true) H'
theorem row_of {K : PySem.W.Frag} {T : VT} {m : Mir} (h : ∀ ns : List Int, ns.length ≤ 63 → ∃ ρ, m [.scr ns] = .ok (.bool true) ρ) (vs : List V) (H : Hp) (Q : VK) (E : XK) (q : spRow K vs H Q E) : spM K T m vs H Q E := by
  obtain ⟨a, ns, rfl, hs, hl, k⟩ := q
  obtain ⟨ρ, e⟩ := h ns hl
  have no : ∀ i b, ¬ ownAt ([V.ref a].map some) [.scr ns] i b := fun i b ⟨_, ds, h⟩ => by
    rcases h with h | h
    · cases i with
      | zero => cases h
      | succ i => simp at h
    · cases i with
      | zero => cases h
      | succ i => simp at h
  have fe : Fz (fun _ => False) ([V.ref a].map some) [.scr ns] H = H := by
    funext b
    exact fz_out fun z => z.elim id fun ⟨i, z⟩ => no i b z
  refine ⟨fun _ => False, [.scr ns], ⟨rfl, fun i s e => ?_, fun i j b h1 _ => absurd h1 (no i b), fun i b h => absurd h (no i b), fun b h => h.elim, fun i ds e => rfl⟩, ?_⟩
  · cases i with
    | zero =>
      cases e
      exact ⟨_, rfl, .scr (by rw [fe]; exact hs)⟩
    | succ i => simp at e
  · rw [e]
    intro v H' _ _ r
    cases r
    exact k _
theorem cx_none {P : Program} {w : World} {H : Hp} {s : Shared} {e : Value} {s' : Shared} (h : L2.CX P w [] H s (fun _ _ _ => False) e s') : False := by
  obtain ⟨_, _, _, _, _, _, _, _, _, _, _, _, z⟩ := h
  exact z
theorem row_walk {l : PySem.W.OpenLaw} {k : Nat} {q : Program} {loose : List Str} {XP : (Str → Option Value) → Heap → Prop} {YP : World → Heap → Prop} {d : DefRec} {K : Params → PySem.W.Frag} (hn : l.most = some 63) (hdf : d.params.defaults = []) (hr : Room k callerA)
    (hY : ∀ (w : World) (h : Heap), YP w h → (K w.params).In h)
    (F : ∀ (w : World) (mg : Str → Option Value) (fa : Addr) (h : Heap), (K w.params).In h → h.Ns mainGlobals mg → mg d.name = some (.ref fa) →
      ∃ fd : FuncData, (∀ (s : Shared) (u : Value), BindsTo s fd ⟨[u], []⟩ [("_law_script", u)]) ∧ ∀ base : Heap, (K w.params).In base → base.Ns mainGlobals mg → FnOk l.prog w (K w.params) mg base (L2.CX l.prog w) k fa fd ["_law_script"] (spRow (K w.params))) :
    PySem.W.WalkO q loose XP YP l.row.toRowW d [] (fun f vs => PySem.call f vs) :=
  L2.walk_of (n := 63) (k := k) (x := "_law_script") (CX := fun w => L2.CX l.prog w) (sp := fun w => spRow (K w.params)) hn (by decide) hdf hr hY F (fun _ _ a ns hl _ hS => ⟨a, ns, rfl, hS, hl, fun _ => rfl⟩) fun w H s e s' z => cx_none z
end VL

set_option Elab.async false
set_option linter.all false
set_option maxRecDepth 100000
set_option maxHeartbeats 4000000
/-! VM0: reckoning with mirrors: outcomes, loops, comprehensions, draws. -/
namespace VL
open PySem

/-! ### an outcome that is good -/
def Ev {α : Type} (o : Oc α) (P : α → R → Prop) : Prop := ∃ a ρ, o = .ok a ρ ∧ P a ρ
theorem Ev.ok {α : Type} {a : α} {ρ : R} {P : α → R → Prop} (h : P a ρ) : Ev (.ok a ρ) P := ⟨a, ρ, rfl, h⟩
theorem Ev.of {α : Type} {o : Oc α} {a : α} {ρ : R} {P : α → R → Prop} (e : o = .ok a ρ) (h : P a ρ) : Ev o P := ⟨a, ρ, e, h⟩
theorem Ev.imp {α : Type} {o : Oc α} {P Q : α → R → Prop} (h : Ev o P) (k : ∀ a ρ, P a ρ → Q a ρ) : Ev o Q := let ⟨a, ρ, e, p⟩ := h; ⟨a, ρ, e, k a ρ p⟩
theorem Ev.bind {α β : Type} {o : Oc α} {g : α → R → Oc β} {P : β → R → Prop} (h : Ev o fun a ρ => Ev (g a ρ) P) : Ev (o.bind g) P := by
  obtain ⟨a, ρ, rfl, b, ρ', e, p⟩ := h
  exact ⟨b, ρ', e, p⟩
theorem ok_bind {α β : Type} {a : α} {ρ : R} {g : α → R → Oc β} : (Oc.ok a ρ).bind g = g a ρ := rfl

/-! ### comprehensions that change nothing -/
theorem lcLoop_pure {α : Type} {g : MG} {t : MT} {f : ME} {vs : List Nat} {ρ : R} (enc : α → PyData) (b : α → Bool) (e : α → PyData) : ∀ (xs : List α) (acc : List PyData),
    (∀ x ∈ xs, ∃ ρx, g (enc x) ρ = some ρx ∧ t ρx = .ok (b x) ρx ∧ (b x = true → f ρx = .ok (e x) ρx) ∧ wipeOk ρx vs = true ∧ wipeR ρx vs = ρ) → acc.length + xs.length ≤ 16777216 →
    lcLoop g t f vs (xs.map enc) ρ acc = .ok (acc ++ (xs.filter b).map e) ρ
  | [], acc, _, _ => by simp [lcLoop]
  | x :: xs, acc, h, hl => by
    obtain ⟨ρx, h1, h2, h3, h4, h5⟩ := h x List.mem_cons_self
    have hx : ∀ y ∈ xs, ∃ ρx, g (enc y) ρ = some ρx ∧ t ρx = .ok (b y) ρx ∧ (b y = true → f ρx = .ok (e y) ρx) ∧ wipeOk ρx vs = true ∧ wipeR ρx vs = ρ := fun y hy => h y (List.mem_cons_of_mem _ hy)
    simp only [List.length_cons] at hl
    show (match g (enc x) ρ with
      | none => Oc.no
      | some ρ1 => (t ρ1).bind fun b ρ2 => if b = true then (f ρ2).bind fun y ρ3 => if fits (acc.length + 1) && wipeOk ρ3 vs then lcLoop g t f vs (xs.map enc) (wipeR ρ3 vs) (acc ++ [y]) else .no
        else if wipeOk ρ2 vs then lcLoop g t f vs (xs.map enc) (wipeR ρ2 vs) acc else .no) = _
    simp only [h1, h2, ok_bind]
    cases hb : b x with
    | true =>
      have hf : (fits (acc.length + 1) && wipeOk ρx vs) = true := by rw [h4, Bool.and_true]; exact decide_eq_true (by omega)
      simp only [if_true, h3 hb, ok_bind, hf, h5]
      rw [lcLoop_pure enc b e xs (acc ++ [e x]) hx (by simp; omega), List.filter_cons_of_pos hb]
      simp
    | false =>
      simp only [Bool.false_eq_true, if_false, h4, if_true, h5]
      rw [lcLoop_pure enc b e xs acc hx (by omega), List.filter_cons_of_neg (by simp [hb])]
theorem mLc_pure {α : Type} {fs : ML} {g : MG} {t : MT} {f : ME} {vs : List Nat} {ρ ρ1 : R} (xs : List α) (enc : α → PyData) (b : α → Bool) (e : α → PyData) (h1 : fs ρ = .ok (xs.map enc) ρ1) (hw : wipeOk ρ1 vs = true)
    (hx : ∀ x ∈ xs, ∃ ρx, g (enc x) (wipeR ρ1 vs) = some ρx ∧ t ρx = .ok (b x) ρx ∧ (b x = true → f ρx = .ok (e x) ρx) ∧ wipeOk ρx vs = true ∧ wipeR ρx vs = wipeR ρ1 vs) (hl : xs.length ≤ 16777216) :
    mLc fs g t f vs ρ = .ok ((xs.filter b).map e) (restR ρ1 (wipeR ρ1 vs) vs) := by
  unfold mLc
  rw [h1, ok_bind, if_pos hw, lcLoop_pure enc b e xs [] hx (by simpa using hl)]
  rfl
/-- the same without a test -/
theorem mLc_map {α : Type} {fs : ML} {g : MG} {f : ME} {vs : List Nat} {ρ ρ1 : R} (xs : List α) (enc : α → PyData) (e : α → PyData) (h1 : fs ρ = .ok (xs.map enc) ρ1) (hw : wipeOk ρ1 vs = true)
    (hx : ∀ x ∈ xs, ∃ ρx, g (enc x) (wipeR ρ1 vs) = some ρx ∧ f ρx = .ok (e x) ρx ∧ wipeOk ρx vs = true ∧ wipeR ρx vs = wipeR ρ1 vs) (hl : xs.length ≤ 16777216) :
    mLc fs g mYes f vs ρ = .ok (xs.map e) (restR ρ1 (wipeR ρ1 vs) vs) := by
  have z := mLc_pure (t := mYes) xs enc (fun _ => true) e h1 hw (fun x hm => by
    obtain ⟨ρx, a, b, c, d⟩ := hx x hm
    exact ⟨ρx, a, rfl, fun _ => b, c, d⟩) hl
  rw [z, List.filter_eq_self.mpr (fun _ _ => rfl)]
/-! ### comprehensions whose elements change the state -/
theorem lcLoop_inv {g : MG} {t : MT} {f : ME} {vs : List Nat} {P : List PyData → R → Prop} (I : Nat → List PyData → R → Prop) (ds : List PyData) (hs : ds.length ≤ 16777216)
    (step : ∀ i d ρ acc, ds[i]? = some d → acc.length ≤ i → I i acc ρ → ∃ ρ1, g d ρ = some ρ1 ∧ Ev (t ρ1) fun b ρ2 => if b = true then Ev (f ρ2) fun y ρ3 => wipeOk ρ3 vs = true ∧ I (i + 1) (acc ++ [y]) (wipeR ρ3 vs) else wipeOk ρ2 vs = true ∧ I (i + 1) acc (wipeR ρ2 vs))
    (fin : ∀ acc ρ, I ds.length acc ρ → P acc ρ) : ∀ (i : Nat) (ρ : R) (acc : List PyData), i ≤ ds.length → acc.length ≤ i → I i acc ρ → Ev (lcLoop g t f vs (ds.drop i) ρ acc) P := by
  intro i ρ acc hi
  induction hk : ds.length - i generalizing i ρ acc with
  | zero =>
    intro hl h
    have e : i = ds.length := by omega
    subst e
    rw [List.drop_length]
    exact .ok (fin acc ρ h)
  | succ k ih =>
    intro hl h
    have lt : i < ds.length := by omega
    obtain ⟨ρ1, e1, b, ρ2, e2, h2⟩ := step i ds[i] ρ acc (List.getElem?_eq_getElem lt) hl h
    rw [List.drop_eq_getElem_cons lt]
    show Ev (match g ds[i] ρ with
      | none => Oc.no
      | some ρ1 => (t ρ1).bind fun b ρ2 => if b = true then (f ρ2).bind fun y ρ3 => if fits (acc.length + 1) && wipeOk ρ3 vs then lcLoop g t f vs (ds.drop (i + 1)) (wipeR ρ3 vs) (acc ++ [y]) else .no
        else if wipeOk ρ2 vs then lcLoop g t f vs (ds.drop (i + 1)) (wipeR ρ2 vs) acc else .no) P
    simp only [e1, e2, ok_bind]
    cases b with
    | true =>
      simp only [if_true] at h2 ⊢
      obtain ⟨y, ρ3, e3, hw, h3⟩ := h2
      have hf : (fits (acc.length + 1) && wipeOk ρ3 vs) = true := by rw [hw, Bool.and_true]; exact decide_eq_true (by omega)
      simp only [e3, ok_bind, hf, if_true]
      exact ih (i + 1) _ _ (by omega) (by omega) (by simp; omega) h3
    | false =>
      simp only [Bool.false_eq_true, if_false] at h2 ⊢
      simp only [h2.1, if_true]
      exact ih (i + 1) _ _ (by omega) (by omega) (by omega) h2.2
theorem mLc_inv {fs : ML} {g : MG} {t : MT} {f : ME} {vs : List Nat} {ρ ρ1 : R} {P : List PyData → R → Prop} (I : Nat → List PyData → R → Prop) (ds : List PyData) (h1 : fs ρ = .ok ds ρ1) (hs : ds.length ≤ 16777216) (hw : wipeOk ρ1 vs = true) (h0 : I 0 [] (wipeR ρ1 vs))
    (step : ∀ i d ρ acc, ds[i]? = some d → acc.length ≤ i → I i acc ρ → ∃ ρ1, g d ρ = some ρ1 ∧ Ev (t ρ1) fun b ρ2 => if b = true then Ev (f ρ2) fun y ρ3 => wipeOk ρ3 vs = true ∧ I (i + 1) (acc ++ [y]) (wipeR ρ3 vs) else wipeOk ρ2 vs = true ∧ I (i + 1) acc (wipeR ρ2 vs))
    (fin : ∀ acc ρ2, I ds.length acc ρ2 → P acc (restR ρ1 ρ2 vs)) : Ev (mLc fs g t f vs ρ) P := by
  unfold mLc
  rw [h1, ok_bind, if_pos hw]
  obtain ⟨acc, ρ2, e, h⟩ := lcLoop_inv (P := fun acc ρ2 => I ds.length acc ρ2) I ds hs step (fun _ _ h => h) 0 _ [] (Nat.zero_le _) (Nat.le_refl _) h0
  rw [List.drop_zero] at e
  rw [e]
  exact .ok (fin acc ρ2 h)
theorem mLc_invY {fs : ML} {g : MG} {f : ME} {vs : List Nat} {ρ ρ1 : R} {P : List PyData → R → Prop} (I : Nat → List PyData → R → Prop) (ds : List PyData) (h1 : fs ρ = .ok ds ρ1) (hs : ds.length ≤ 16777216) (hw : wipeOk ρ1 vs = true) (h0 : I 0 [] (wipeR ρ1 vs))
    (step : ∀ i d ρ acc, ds[i]? = some d → acc.length ≤ i → I i acc ρ → ∃ ρ1, g d ρ = some ρ1 ∧ ∃ y ρ3, f ρ1 = .ok y ρ3 ∧ wipeOk ρ3 vs = true ∧ I (i + 1) (acc ++ [y]) (wipeR ρ3 vs))
    (fin : ∀ acc ρ2, I ds.length acc ρ2 → P acc (restR ρ1 ρ2 vs)) : Ev (mLc fs g mYes f vs ρ) P :=
  mLc_inv I ds h1 hs hw h0 (fun i d ρ acc hd hl hI => by
    obtain ⟨ρ1, e1, y, ρ3, e2, hw, h⟩ := step i d ρ acc hd hl hI
    refine ⟨ρ1, e1, true, ρ1, rfl, ?_⟩
    simp only [if_true]
    exact ⟨y, ρ3, e2, hw, h⟩) fin
/-! ### loops -/
theorem loopS_inv {g : MG} {m : MS} {P : Fl → R → Prop} (I : Nat → R → Prop) (ds : List PyData)
    (step : ∀ i d ρ, ds[i]? = some d → I i ρ → ∃ ρ1, g d ρ = some ρ1 ∧ Ev (m ρ1) fun fl ρ2 => match fl with
      | .nx => I (i + 1) ρ2
      | .ct => I (i + 1) ρ2
      | .bk => P .nx ρ2
      | .rt d => P (.rt d) ρ2)
    (fin : ∀ ρ, I ds.length ρ → P .nx ρ) : ∀ (i : Nat) (ρ : R), i ≤ ds.length → I i ρ → Ev (loopS g m (ds.drop i) ρ) P := by
  intro i ρ hi
  induction hk : ds.length - i generalizing i ρ with
  | zero =>
    intro h
    have e : i = ds.length := by omega
    subst e
    rw [List.drop_length]
    exact .ok (fin ρ h)
  | succ k ih =>
    intro h
    have lt : i < ds.length := by omega
    obtain ⟨ρ1, e1, fl, ρ2, e2, h2⟩ := step i ds[i] ρ (List.getElem?_eq_getElem lt) h
    rw [List.drop_eq_getElem_cons lt]
    show Ev (match g ds[i] ρ with
      | none => Oc.no
      | some ρ1 => (m ρ1).bind fun fl ρ2 => match fl with
        | .nx => loopS g m (ds.drop (i + 1)) ρ2
        | .ct => loopS g m (ds.drop (i + 1)) ρ2
        | .bk => .ok .nx ρ2
        | .rt d => .ok (.rt d) ρ2) P
    simp only [e1, e2, ok_bind]
    cases fl with
    | nx => exact ih (i + 1) ρ2 (by omega) (by omega) h2
    | ct => exact ih (i + 1) ρ2 (by omega) (by omega) h2
    | bk => exact .ok h2
    | rt d => exact .ok h2
theorem mFor_inv {fs : ML} {g : MG} {m : MS} {ρ ρ0 : R} {P : Fl → R → Prop} (I : Nat → R → Prop) (ds : List PyData) (h1 : fs ρ = .ok ds ρ0) (h0 : I 0 ρ0)
    (step : ∀ i d ρ, ds[i]? = some d → I i ρ → ∃ ρ1, g d ρ = some ρ1 ∧ Ev (m ρ1) fun fl ρ2 => match fl with
      | .nx => I (i + 1) ρ2
      | .ct => I (i + 1) ρ2
      | .bk => P .nx ρ2
      | .rt d => P (.rt d) ρ2)
    (fin : ∀ ρ, I ds.length ρ → P .nx ρ) : Ev (mFor fs g m ρ) P := by
  unfold mFor
  rw [h1, ok_bind]
  have z := loopS_inv (P := P) I ds step fin 0 ρ0 (Nat.zero_le _) h0
  rw [List.drop_zero] at z
  exact z
end VL

set_option Elab.async false
set_option linter.all false
set_option maxRecDepth 100000
set_option maxHeartbeats 4000000
namespace VL
open PySem PySem.Spec PyProof.Rows L2
noncomputable def L_at : Mir := mFn 3 1
 ((mRet (m2 ixD (mLst (mLc (mItA range1D (mCons (mN lenD (mCons (mVar 1) mNil)) mNil)) (gNm 3) (mB (m2 eqD (m2 ixD (m2 ixD (mVar 0) (mVar 3)) (mC (.int 0))) (mVar 2))) (m2 ixD (mVar 1) (mVar 3)) [3])) (mC (.int 0)))))
noncomputable def L_cell : Mir := mFn 2 0
 ((mSeq (mIfS (mScrT 0) (mRet (mScrIx 0 (m2 modD (mVar 1) (mScrLen 0)))) mNx)
 (mRet (mC (.int 0)))))
noncomputable def L_mix : Mir := mFn 2 1
 ((mSeq (mSet 2 (m2 modD (m2 addD (mCall L_cell (mAr 0 (mAv (mVar 1) mANil))) (m2 mulD (mC (.int 104729)) (m2 addD (mVar 1) (mC (.int 1))))) (mC (.int 4294967291))))
 (mSeq (mSet 2 (m2 modD (m2 powD (mVar 2) (mC (.int 5))) (mC (.int 4294967279))))
 (mRet (m2 modD (m2 addD (m2 mulD (m2 divD (mVar 2) (mC (.int 64))) (mC (.int 69621))) (mVar 2)) (mC (.int 4294967231)))))))
noncomputable def L_draw : Mir := mFn 3 0
 ((mSeq (mMut 1 appendD (mC (.int 0)))
 (mRet (m2 modD (m2 divD (mCall L_mix (mAr 0 (mAv (mLenP 1) mANil))) (mC (.int 8))) (mVar 2)))))
noncomputable def L_pick : Mir := mFn 3 0
 ((mRet (m2 ixD (mVar 2) (mCall L_draw (mAr 0 (mAb 1 (mAv (mN lenD (mCons (mVar 2) mNil)) mANil)))))))
noncomputable def L_word : Mir := mFn 2 2
 ((mSeq (mSet 2 (mC (.str "abcdefghijklmnopqrstuvwxyz")))
 (mSeq (mIfS (mB (m2 gtD (mCall L_draw (mAr 0 (mAb 1 (mAv (mC (.int 8)) mANil)))) (mC (.int 0)))) (mRet (mCall L_pick (mAr 0 (mAb 1 (mAv (mLst (mDsp (mCons (mC (.str "a")) (mCons (mC (.str "ab")) (mCons (mC (.str "abc")) (mCons (mC (.str "b")) (mCons (mC (.str "ba")) (mCons (mC (.str "count")) (mCons (mC (.str "band")) mNil))))))))) mANil))))) mNx)
 (mRet (mStr1 joinD (mC (.str "")) (mLst (mLc (mItA range1D (mCons (m2 addD (mC (.int 1)) (mCall L_draw (mAr 0 (mAb 1 (mAv (mC (.int 8)) mANil))))) mNil)) (gNm 3) mYes (m2 ixD (mVar 2) (mCall L_draw (mAr 0 (mAb 1 (mAv (mC (.int 26)) mANil))))) [3])))))))
noncomputable def L_value : Mir := mFn 3 1
 ((mSeq (mIfS (mB (m2 eqD (mCall L_draw (mAr 0 (mAb 1 (mAv (mC (.int 6)) mANil)))) (mC (.int 0)))) (mRet (mC .none)) mNx)
 (mSeq (mIfS (mB (m2 eqD (mVar 2) (mC (.str "word")))) (mRet (mCall L_word (mAr 0 (mAb 1 mANil)))) mNx)
 (mSeq (mSet 3 (mLst (mDsp (mCons (mC (.int 0)) (mCons (mC (.int 1)) (mCons (mC (.int 1)) (mCons (mC (.int 2)) (mCons (mC (.int 7)) (mCons (m2 subD (mC (.int 0)) (mC (.int 1))) (mCons (m2 subD (mC (.int 0)) (mC (.int 7))) (mCons (mC (.int 1000000)) (mCons (m2 subD (mC (.int 0)) (mC (.int 1000000))) (mCons (m2 subD (mCall L_draw (mAr 0 (mAb 1 (mAv (mC (.int 100)) mANil)))) (mC (.int 50))) mNil)))))))))))))
 (mRet (mCall L_pick (mAr 0 (mAb 1 (mAv (mVar 3) mANil)))))))))
noncomputable def L_row : Mir := mFn 3 2
 ((mRet (mN tupD (mCons (mLst (mLc (mIt (mVar 2)) (gTp [(gNm 3), (gNm 4)]) mYes (mCall L_value (mAr 0 (mAb 1 (mAv (mVar 4) mANil)))) [3, 4])) mNil))))
noncomputable def L_behind : Mir := mFn 2 4
 ((mSeq (mAsg (gTp [(gNm 2), (gNm 3)]) (mVar 1))
 (mSeq (mSet 4 (mLst (mLc (mIt (mVar 0)) (gNm 5) (mB (m2 eqD (mSl (m2 ixD (mVar 5) (mC (.int 1))) mPn (mPs (mN lenD (mCons (mVar 2) mNil)))) (mVar 2))) (mVar 5) [5])))
 (mRet (mLst (mLc (mIt (mVar 4)) (gNm 5) (mB (m2 eqD (mSl (m2 ixD (mVar 5) (mC (.int 2))) mPn (mPs (mN lenD (mCons (mVar 3) mNil)))) (mVar 3))) (m2 ixD (mVar 5) (mC (.int 0))) [5]))))))
noncomputable def L_path : Mir := mFn 3 3
 ((mSeq (mSetO 3 (mDsp mNil))
 (mSeq (mFor (mIt (mVar 1)) (gNm 4) (mSeq (mSet 5 (mCall L_at (mAv (mVar 0) (mAv (mVar 2) (mAv (mIf (mTru (m1 (isiD "str") (mVar 4))) (mVar 4) (m2 ixD (mVar 4) (mC (.int 1)))) mANil)))))
 (mSeq (mIfS (mAnd (mB (m2 isntD (mVar 5) (mC .none))) (mNot (mTru (m1 (isiD "str") (mVar 4))))) (mSet 5 (mIf (mB (m2 eqD (m2 ixD (mVar 4) (mC (.int 0))) (mC (.str "band")))) (m2 subD (mVar 5) (m2 modD (mVar 5) (m2 ixD (mVar 4) (mC (.int 2))))) (mSl (mVar 5) mPn (mPs (m2 ixD (mVar 4) (mC (.int 2))))))) mNx)
 (mMut 3 appendD (mVar 5)))))
 (mRet (mN tupD (mCons (mRd 3) mNil))))))
noncomputable def L_counts : Mir := mFn 3 2
 ((mSeq (mFor (mIt (mVar 1)) (gNm 3) (mSeq (mSet 4 (mCall L_at (mAv (mVar 0) (mAv (mVar 2) (mAv (m2 ixD (mVar 3) (mC (.int 1))) mANil)))))
 (mSeq (mIfS (mOr (mAnd (mB (m2 eqD (m2 ixD (mVar 3) (mC (.int 0))) (mC (.str "is")))) (mB (m2 neD (mVar 4) (m2 ixD (mVar 3) (mC (.int 2)))))) (mAnd (mB (m2 eqD (m2 ixD (mVar 3) (mC (.int 0))) (mC (.str "not")))) (mB (m2 eqD (mVar 4) (m2 ixD (mVar 3) (mC (.int 2))))))) (mRet (mC (.bool false))) mNx)
 (mSeq (mIfS (mAnd (mB (m2 eqD (m2 ixD (mVar 3) (mC (.int 0))) (mC (.str "from")))) (mB (m2 isD (mVar 4) (mC .none)))) (mRet (mC (.bool false))) mNx)
 (mIfS (mAnd (mB (m2 eqD (m2 ixD (mVar 3) (mC (.int 0))) (mC (.str "from")))) (mOr (mB (m2 ltD (mVar 4) (m2 ixD (mVar 3) (mC (.int 2))))) (mB (m2 ltD (m2 ixD (mVar 3) (mC (.int 3))) (mVar 4))))) (mRet (mC (.bool false))) mNx)))))
 (mRet (mC (.bool true)))))
noncomputable def L_rows : Mir := mFn 2 5
 ((mSeq (mSet 2 (m2 ixD (mVar 0) (mC (.int 0))))
 (mSeq (mSet 3 (mLst (mLc (mItA range1D (mCons (mN lenD (mCons (m2 ixD (mVar 0) (mC (.int 1))) mNil)) mNil)) (gNm 4) (mTru (mCall L_counts (mAv (mVar 2) (mAv (m2 ixD (mVar 1) (mC (.int 3))) (mAv (m2 ixD (m2 ixD (mVar 0) (mC (.int 1))) (mVar 4)) mANil))))) (mVar 4) [4])))
 (mSeq (mSetO 5 (mDsp mNil))
 (mSeq (mFor (mIt (mVar 3)) (gNm 4) (mSeq (mSet 6 (m2 ixD (m2 ixD (mVar 0) (mC (.int 1))) (mVar 4)))
 (mMut 5 appendD (mTup (mCons (mVar 4) (mCons (mCall L_path (mAv (mVar 2) (mAv (m2 ixD (mVar 1) (mC (.int 0))) (mAv (mVar 6) mANil)))) (mCons (mCall L_path (mAv (mVar 2) (mAv (m2 ixD (mVar 1) (mC (.int 1))) (mAv (mVar 6) mANil)))) mNil)))))))
 (mRet (mRd 5)))))))
noncomputable def L_columns : Mir := mFn 2 5
 ((mSeq (mSet 2 (mLst (mDsp (mCons (mC (.str "w")) (mCons (mC (.str "n")) (mCons (mC (.str "word")) (mCons (mC (.str "size")) (mCons (mC (.str "of")) (mCons (mC (.str "abcdefgh")) mNil)))))))))
 (mSeq (mSet 3 (mCall L_draw (mAr 0 (mAb 1 (mAv (mC (.int 6)) mANil)))))
 (mSeq (mSet 2 (m2 addD (mSl (mVar 2) (mPs (mVar 3)) mPn) (mSl (mVar 2) mPn (mPs (mVar 3)))))
 (mSeq (mSet 4 (m2 addD (mLst (mDsp (mCons (mC (.str "word")) (mCons (mC (.str "number")) mNil)))) (mLst (mLc (mItA range1D (mCons (mC (.int 4)) mNil)) (gNm 5) mYes (mCall L_pick (mAr 0 (mAb 1 (mAv (mLst (mDsp (mCons (mC (.str "word")) (mCons (mC (.str "number")) mNil)))) mANil)))) [5]))))
 (mSeq (mSet 6 (mLst (mLc (mItA range1D (mCons (m2 addD (mC (.int 2)) (mCall L_draw (mAr 0 (mAb 1 (mAv (mC (.int 5)) mANil))))) mNil)) (gNm 5) mYes (mTup (mCons (m2 ixD (mVar 2) (mVar 5)) (mCons (m2 ixD (mVar 4) (mVar 5)) mNil))) [5])))
 (mSeq (mSet 3 (mCall L_draw (mAr 0 (mAb 1 (mAv (mN lenD (mCons (mVar 6) mNil)) mANil)))))
 (mRet (mN tupD (mCons (m2 addD (mSl (mVar 6) (mPs (mVar 3)) mPn) (mSl (mVar 6) mPn (mPs (mVar 3)))) mNil))))))))))
noncomputable def L_least : Mir := mFn 2 3
 ((mSeq (mIfS (mB (m2 eqD (mVar 1) (mC (.int 0)))) (mRet (mC .none)) mNx)
 (mSeq (mSet2 2 3 (mN absD (mCons (mVar 0) mNil)) (mN absD (mCons (mVar 1) mNil)))
 (mSeq (mWhile (mB (m2 gtD (mVar 3) (mC (.int 0)))) (mSet2 2 3 (mVar 3) (m2 modD (mVar 2) (mVar 3))))
 (mSeq (mSet 4 (mIf (mB (m2 gtD (mVar 1) (mC (.int 0)))) (mVar 2) (m2 subD (mC (.int 0)) (mVar 2))))
 (mRet (mTup (mCons (m2 divD (mVar 0) (mVar 4)) (mCons (m2 divD (mVar 1) (mVar 4)) mNil)))))))))
noncomputable def L_key : Mir := mFn 3 3
 ((mSeq (mAsg (gTp [(gNm 3), (gNm 4)]) (mCall L_pick (mAr 0 (mAb 1 (mAv (mVar 2) mANil)))))
 (mSeq (mSet 5 (mCall L_draw (mAr 0 (mAb 1 (mAv (mC (.int 3)) mANil)))))
 (mSeq (mIfS (mB (m2 gtD (mVar 5) (mC (.int 0)))) (mRet (mVar 3)) mNx)
 (mSeq (mIfS (mB (m2 eqD (mVar 4) (mC (.str "number")))) (mRet (mTup (mCons (mC (.str "band")) (mCons (mVar 3) (mCons (mCall L_pick (mAr 0 (mAb 1 (mAv (mLst (mDsp (mCons (mC (.int 1)) (mCons (mC (.int 2)) (mCons (mC (.int 3)) (mCons (mC (.int 10)) (mCons (mC (.int 1000000)) mNil))))))) mANil)))) mNil))))) mNx)
 (mRet (mTup (mCons (mC (.str "first")) (mCons (mVar 3) (mCons (mCall L_pick (mAr 0 (mAb 1 (mAv (mLst (mDsp (mCons (mC (.int 1)) (mCons (mC (.int 1)) (mCons (mC (.int 2)) (mCons (mC (.int 8)) mNil)))))) mANil)))) mNil))))))))))
noncomputable def L_table : Mir := mFn 3 3
 ((mSeq (mSet 3 (mCall L_columns (mAr 0 (mAb 1 mANil))))
 (mSeq (mSet 4 (mLst (mLc (mItA range1D (mCons (mCall L_draw (mAr 0 (mAb 1 (mAv (m2 addD (mVar 2) (mC (.int 1))) mANil)))) mNil)) (gNm 5) mYes (mCall L_row (mAr 0 (mAb 1 (mAv (mVar 3) mANil)))) [5])))
 (mRet (mTup (mCons (mVar 3) (mCons (mVar 4) mNil)))))))
noncomputable def L_sum : Mir := mFn 3 5
 ((mSeq (mSet 3 (mCall L_draw (mAr 0 (mAb 1 (mAv (mC (.int 10)) mANil)))))
 (mSeq (mSet 4 (mLst (mLc (mIt (mVar 2)) (gTp [(gNm 5), (gNm 6)]) (mB (m2 eqD (mVar 6) (mC (.str "number")))) (mVar 5) [5, 6])))
 (mSeq (mIfS (mB (m2 eqD (mVar 3) (mC (.int 0)))) (mRet (mTup (mCons (mC (.str "count")) mNil))) mNx)
 (mSeq (mIfS (mB (m2 ltD (mVar 3) (mC (.int 3)))) (mRet (mTup (mCons (mCall L_pick (mAr 0 (mAb 1 (mAv (mLst (mDsp (mCons (mC (.str "unlike")) (mCons (mC (.str "filled")) mNil)))) mANil)))) (mCons (m2 ixD (mCall L_pick (mAr 0 (mAb 1 (mAv (mVar 2) mANil)))) (mC (.int 0))) mNil)))) mNx)
 (mSeq (mSet 7 (mLst (mDsp (mCons (mC (.str "sum")) (mCons (mC (.str "least")) (mCons (mC (.str "greatest")) (mCons (mC (.str "mean")) (mCons (mC (.str "of all")) (mCons (mC (.str "of row")) (mCons (mC (.str "of column")) mNil))))))))))
 (mRet (mTup (mCons (m2 ixD (mVar 7) (m2 subD (mVar 3) (mC (.int 3)))) (mCons (mCall L_pick (mAr 0 (mAb 1 (mAv (mVar 4) mANil)))) mNil))))))))))
noncomputable def L_sift : Mir := mFn 3 3
 ((mSeq (mAsg (gTp [(gNm 3), (gNm 4)]) (mCall L_pick (mAr 0 (mAb 1 (mAv (mVar 2) mANil)))))
 (mSeq (mIfS (mAnd (mB (m2 eqD (mVar 4) (mC (.str "number")))) (mB (m2 eqD (mCall L_draw (mAr 0 (mAb 1 (mAv (mC (.int 2)) mANil)))) (mC (.int 0))))) (mSeq (mSet 5 (mCall L_pick (mAr 0 (mAb 1 (mAv (mLst (mDsp (mCons (m2 subD (mC (.int 0)) (mC (.int 1000000))) (mCons (m2 subD (mC (.int 0)) (mC (.int 5))) (mCons (mC (.int 0)) mNil))))) mANil)))))
 (mRet (mTup (mCons (mC (.str "from")) (mCons (mVar 3) (mCons (mVar 5) (mCons (mCall L_pick (mAr 0 (mAb 1 (mAv (mLst (mDsp (mCons (mC (.int 1)) (mCons (mC (.int 50)) (mCons (mC (.int 1000000)) (mCons (m2 subD (mC (.int 0)) (mC (.int 9))) mNil)))))) mANil)))) mNil))))))) mNx)
 (mRet (mTup (mCons (mCall L_pick (mAr 0 (mAb 1 (mAv (mLst (mDsp (mCons (mC (.str "is")) (mCons (mC (.str "not")) (mCons (mC (.str "not")) mNil))))) mANil)))) (mCons (mVar 3) (mCons (mCall L_value (mAr 0 (mAb 1 (mAv (mVar 4) mANil)))) mNil))))))))
noncomputable def L_plan : Mir := mFn 4 6
 ((mSeq (mSet 4 (mLst (mLc (mItA range1D (mCons (m2 mulD (mC (.int 2)) (mVar 3)) mNil)) (gNm 5) mYes (mCall L_key (mAr 0 (mAb 1 (mAv (mVar 2) mANil)))) [5])))
 (mSeq (mSet 6 (mN tupD (mCons (mSl (mVar 4) mPn (mPs (mCall L_draw (mAr 0 (mAb 1 (mAv (m2 addD (mVar 3) (mC (.int 1))) mANil)))))) mNil)))
 (mSeq (mSet 7 (mN tupD (mCons (mLst (mLc (mItA range1D (mCons (m2 addD (mC (.int 1)) (mCall L_draw (mAr 0 (mAb 1 (mAv (mC (.int 4)) mANil))))) mNil)) (gNm 5) mYes (mCall L_sum (mAr 0 (mAb 1 (mAv (mVar 2) mANil)))) [5])) mNil)))
 (mSeq (mSet 8 (mCall L_pick (mAr 0 (mAb 1 (mAv (mLst (mDsp (mCons (mC (.int 0)) (mCons (mC (.int 0)) (mCons (mC (.int 1)) (mCons (mC (.int 2)) (mCons (mC (.int 3)) mNil))))))) mANil)))))
 (mSeq (mSet 9 (mN tupD (mCons (mLst (mLc (mItA range1D (mCons (mVar 8) mNil)) (gNm 5) mYes (mCall L_sift (mAr 0 (mAb 1 (mAv (mVar 2) mANil)))) [5])) mNil)))
 (mRet (mTup (mCons (mVar 6) (mCons (mN tupD (mCons (mSl (mVar 4) (mPs (mVar 3)) (mPs (m2 addD (mVar 3) (mCall L_draw (mAr 0 (mAb 1 (mAv (m2 addD (mVar 3) (mC (.int 1))) mANil))))))) mNil)) (mCons (mVar 7) (mCons (mVar 9) mNil))))))))))))
noncomputable def L_table_k10 : Mir := mFn 3 3
 ((mSeq (mSet 3 (mCall L_columns (mAr 0 (mAb 1 mANil))))
 (mSeq (mSet 4 (mLst (mLc (mItA range1D (mCons (mCall L_draw (mAr 0 (mAb 1 (mAv (m2 addD (mVar 2) (mC (.int 1))) mANil)))) mNil)) (gNm 5) mYes (mCall L_row (mAr 0 (mAb 1 (mAv (mVar 3) mANil)))) [5])))
 (mRet (mTup (mCons (mVar 3) (mCons (mVar 4) mNil)))))))
noncomputable def M_place_of : Mir := mFn 2 2
 ((mSeq (mSet 2 (mLst (mLc (mItA range1D (mCons (mN lenD (mCons (mVar 0) mNil)) mNil)) (gNm 3) (mB (m2 eqD (m2 ixD (m2 ixD (mVar 0) (mVar 3)) (mC (.int 0))) (mVar 1))) (mVar 3) [3])))
 (mRet (mIf (mTru (mVar 2)) (m2 ixD (mVar 2) (mC (.int 0))) (mC .none)))))
noncomputable def M_counts : Mir := mFn 3 2
 ((mSeq (mFor (mIt (mVar 1)) (gNm 3) (mSeq (mSet 4 (m2 ixD (mVar 2) (mCall M_place_of (mAv (mVar 0) (mAv (m2 ixD (mVar 3) (mC (.int 1))) mANil)))))
 (mIfS (mB (m2 eqD (m2 ixD (mVar 3) (mC (.int 0))) (mC (.str "from")))) (mIfS (mOr (mB (m2 isD (mVar 4) (mC .none))) (mNot (mB (mChain leD leD (m2 ixD (mVar 3) (mC (.int 2))) (mVar 4) (m2 ixD (mVar 3) (mC (.int 3))))))) (mRet (mC (.bool false))) mNx) (mIfS (mB (m2 neD (m2 eqD (mVar 4) (m2 ixD (mVar 3) (mC (.int 2)))) (m2 eqD (m2 ixD (mVar 3) (mC (.int 0))) (mC (.str "is"))))) (mRet (mC (.bool false))) mNx))))
 (mRet (mC (.bool true)))))
noncomputable def L_two : Mir := mFn 3 6
 ((mSeq (mSet 3 (mCall L_table (mAr 0 (mAb 1 (mAv (mVar 2) mANil)))))
 (mSeq (mAsg (gTp [(gNm 4), (gNm 5)]) (mVar 3))
 (mSeq (mSet 6 (m2 addD (mSl (mVar 5) (mPs (mCall L_draw (mAr 0 (mAb 1 (mAv (m2 addD (mN lenD (mCons (mVar 5) mNil)) (mC (.int 1))) mANil))))) mPn) (mSl (mVar 5) mPn (mPs (mCall L_draw (mAr 0 (mAb 1 (mAv (mC (.int 3)) mANil))))))))
 (mSeq (mSet 7 (mLst (mLc (mItA range1D (mCons (mCall L_draw (mAr 0 (mAb 1 (mAv (mC (.int 4)) mANil)))) mNil)) (gNm 8) mYes (mCall L_row (mAr 0 (mAb 1 (mAv (mVar 4) mANil)))) [8])))
 (mRet (mTup (mCons (mVar 3) (mCons (mTup (mCons (mVar 4) (mCons (m2 addD (mVar 6) (mVar 7)) mNil))) mNil)))))))))
noncomputable def M_is_word : Mir := mFn 1 1
 ((mRet (mAndV (m1 (isiD "str") (mVar 0)) (mAndV (mChain leD leD (mC (.int 1)) (mN lenD (mCons (mVar 0) mNil)) (mC (.int 8))) (mN allD (mCons (mLst (mLc (mItS (mVar 0)) (gNm 1) mYes (m2 (inD id) (mVar 1) (mC (.str "abcdefghijklmnopqrstuvwxyz"))) [1])) mNil))))))
noncomputable def M_are_columns : Mir := mFn 1 1
 ((mSeq (mIfS (mOr (mNot (mTru (m1 (isiD "tuple") (mVar 0)))) (mNot (mB (mChain leD leD (mC (.int 1)) (mN lenD (mCons (mVar 0) mNil)) (mC (.int 6)))))) (mRet (mC (.bool false))) mNx)
 (mSeq (mIfS (mNot (mTru (mN allD (mCons (mLst (mLc (mIt (mVar 0)) (gNm 1) mYes (mAndV (m1 (isiD "tuple") (mVar 1)) (mAndV (m2 eqD (mN lenD (mCons (mVar 1) mNil)) (mC (.int 2))) (mCall M_is_word (mAv (m2 ixD (mVar 1) (mC (.int 0))) mANil)))) [1])) mNil)))) (mRet (mC (.bool false))) mNx)
 (mSeq (mIfS (mNot (mTru (mN allD (mCons (mLst (mLc (mIt (mVar 0)) (gNm 1) mYes (mAndV (m1 (isiD "str") (m2 ixD (mVar 1) (mC (.int 1)))) (m2 (inD id) (m2 ixD (mVar 1) (mC (.int 1))) (mC (.tuple [(.str "word"), (.str "number")])))) [1])) mNil)))) (mRet (mC (.bool false))) mNx)
 (mRet (m2 eqD (m1 lenSetD (mLst (mLc (mIt (mVar 0)) (gNm 1) mYes (m2 ixD (mVar 1) (mC (.int 0))) [1]))) (mN lenD (mCons (mVar 0) mNil))))))))
noncomputable def M_look_columns : Mir := mFn 1 0
 ((mIfS (mNot (mTru (mCall M_are_columns (mAv (mVar 0) mANil)))) (mRaise 0) mNx))
noncomputable def M_is_whole : Mir := mFn 3 0
 ((mRet (mAndV (m1 (isiD "int") (mVar 0)) (mAndV (mNotV (m1 (isiD "bool") (mVar 0))) (mChain leD leD (mVar 1) (mVar 0) (mVar 2))))))
noncomputable def M_is_value : Mir := mFn 2 0
 ((mSeq (mIfS (mB (m2 isD (mVar 1) (mC .none))) (mRet (mC (.bool true))) mNx)
 (mRet (mIf (mB (m2 eqD (mVar 0) (mC (.str "word")))) (mCall M_is_word (mAv (mVar 1) mANil)) (mCall M_is_whole (mAv (mVar 1) (mAv (m2 subD (mC (.int 0)) (mC (.int 1000000))) (mAv (mC (.int 1000000)) mANil))))))))
noncomputable def M_look_row : Mir := mFn 2 1
 ((mSeq (mIfS (mOr (mNot (mTru (m1 (isiD "tuple") (mVar 1)))) (mB (m2 neD (mN lenD (mCons (mVar 1) mNil)) (mN lenD (mCons (mVar 0) mNil))))) (mRaise 1) mNx)
 (mIfS (mNot (mTru (mN allD (mCons (mLst (mLc (mItA range1D (mCons (mN lenD (mCons (mVar 1) mNil)) mNil)) (gNm 2) mYes (mCall M_is_value (mAv (m2 ixD (m2 ixD (mVar 0) (mVar 2)) (mC (.int 1))) (mAv (m2 ixD (mVar 1) (mVar 2)) mANil))) [2])) mNil)))) (mRaise 1) mNx)))
noncomputable def M_look_table : Mir := mFn 1 1
 ((mSeq (mIfS (mOr (mNot (mTru (m1 (isiD "tuple") (mVar 0)))) (mB (m2 neD (mN lenD (mCons (mVar 0) mNil)) (mC (.int 2))))) (mRaise 0) mNx)
 (mSeq (mDrop (mCall M_look_columns (mAv (m2 ixD (mVar 0) (mC (.int 0))) mANil)))
 (mSeq (mIfS (mOr (mNot (mTru (m1 (isiD "list") (m2 ixD (mVar 0) (mC (.int 1)))))) (mB (m2 gtD (mN lenD (mCons (m2 ixD (mVar 0) (mC (.int 1))) mNil)) (mC (.int 24))))) (mRaise 0) mNx)
 (mFor (mIt (m2 ixD (mVar 0) (mC (.int 1)))) (gNm 1) (mDrop (mCall M_look_row (mAv (m2 ixD (mVar 0) (mC (.int 0))) (mAv (mVar 1) mANil)))))))))
noncomputable def M_look_two : Mir := mFn 2 0
 ((mSeq (mDrop (mCall M_look_table (mAv (mVar 0) mANil)))
 (mSeq (mDrop (mCall M_look_table (mAv (mVar 1) mANil)))
 (mIfS (mB (m2 neD (m2 ixD (mVar 0) (mC (.int 0))) (m2 ixD (mVar 1) (mC (.int 0))))) (mRaise 0) mNx))))
noncomputable def M_changes : Mir := mFn 2 5
 ((mSeq (mDrop (mCall M_look_two (mAv (mVar 0) (mAv (mVar 1) mANil))))
 (mSeq (mSetO 2 (mLR1 (mN lenD (mCons (m2 ixD (mVar 1) (mC (.int 1))) mNil))))
 (mSeq (mSetO 3 (mDsp mNil))
 (mSeq (mFor (mItA range1D (mCons (mN lenD (mCons (m2 ixD (mVar 0) (mC (.int 1))) mNil)) mNil)) (gNm 4) (mSeq (mSet 5 (mLst (mPeek 2 fun ds => mLc (mKn ds) (gNm 6) (mB (m2 eqD (m2 ixD (m2 ixD (mVar 1) (mC (.int 1))) (mVar 6)) (m2 ixD (m2 ixD (mVar 0) (mC (.int 1))) (mVar 4)))) (mVar 6) [6])))
 (mIfS (mTru (mVar 5)) (mMut 2 removeD (m2 ixD (mVar 5) (mC (.int 0)))) (mMut 3 appendD (mVar 4)))))
 (mRet (mTup (mCons (mRd 3) (mCons (mRd 2) mNil)))))))))
noncomputable def M_look_sum : Mir := mFn 2 0
 ((mIfS (mNot (mTru (mCall M_is_whole (mAv (mVar 1) (mAv (mC (.int 0)) (mAv (m2 subD (mN lenD (mCons (m2 ixD (mVar 0) (mC (.int 2))) mNil)) (mC (.int 1))) mANil)))))) (mRaise 4) mNx))
noncomputable def M_look_runs : Mir := mFn 2 0
 ((mSeq (mDrop (mCall M_look_sum (mAv (mVar 0) (mAv (mVar 1) mANil))))
 (mIfS (mB (m2 (inD not) (m2 ixD (m2 ixD (m2 ixD (mVar 0) (mC (.int 2))) (mVar 1)) (mC (.int 0))) (mTup (mCons (mC (.str "count")) (mCons (mC (.str "sum")) (mCons (mC (.str "filled")) mNil)))))) (mRaise 4) mNx)))
noncomputable def L_least_k12 : Mir := mFn 2 3
 ((mSeq (mIfS (mB (m2 eqD (mVar 1) (mC (.int 0)))) (mRet (mC .none)) mNx)
 (mSeq (mSet2 2 3 (mN absD (mCons (mVar 0) mNil)) (mN absD (mCons (mVar 1) mNil)))
 (mSeq (mWhile (mB (m2 gtD (mVar 3) (mC (.int 0)))) (mSet2 2 3 (mVar 3) (m2 modD (mVar 2) (mVar 3))))
 (mSeq (mSet 4 (mIf (mB (m2 gtD (mVar 1) (mC (.int 0)))) (mVar 2) (m2 subD (mC (.int 0)) (mVar 2))))
 (mRet (mTup (mCons (m2 divD (mVar 0) (mVar 4)) (mCons (m2 divD (mVar 1) (mVar 4)) mNil)))))))))
noncomputable def L_mark : Mir := mFn 1 1
 ((mRet (mLst (mLc (mIt (mVar 0)) (gNm 1) mYes (mIf (mB (m2 isD (mVar 1) (mC .none))) (mTup (mCons (mC (.int 0)) (mCons (mC (.int 0)) (mCons (mC (.str "")) mNil)))) (mIf (mTru (m1 (isiD "str") (mVar 1))) (mTup (mCons (mC (.int 1)) (mCons (mC (.int 0)) (mCons (mVar 1) mNil)))) (mTup (mCons (mC (.int 1)) (mCons (mVar 1) (mCons (mC (.str "")) mNil)))))) [1]))))
noncomputable def L_mark_k04 : Mir := mFn 1 1
 ((mRet (mLst (mLc (mIt (mVar 0)) (gNm 1) mYes (mIf (mB (m2 isD (mVar 1) (mC .none))) (mTup (mCons (mC (.int 0)) (mCons (mC (.int 0)) (mCons (mC (.str "")) mNil)))) (mIf (mTru (m1 (isiD "str") (mVar 1))) (mTup (mCons (mC (.int 1)) (mCons (mC (.int 0)) (mCons (mVar 1) mNil)))) (mTup (mCons (mC (.int 1)) (mCons (mVar 1) (mCons (mC (.str "")) mNil)))))) [1]))))
noncomputable def L_mark_k70 : Mir := mFn 1 1
 ((mRet (mLst (mLc (mIt (mVar 0)) (gNm 1) mYes (mIf (mB (m2 isD (mVar 1) (mC .none))) (mTup (mCons (mC (.int 0)) (mCons (mC (.int 0)) (mCons (mC (.str "")) mNil)))) (mIf (mTru (m1 (isiD "str") (mVar 1))) (mTup (mCons (mC (.int 1)) (mCons (mC (.int 0)) (mCons (mVar 1) mNil)))) (mTup (mCons (mC (.int 1)) (mCons (mVar 1) (mCons (mC (.str "")) mNil)))))) [1]))))
noncomputable def M_key_in : Mir := mFn 3 1
 ((mSeq (mIfS (mTru (m1 (isiD "str") (mVar 1))) (mRet (m2 ixD (mVar 2) (mCall M_place_of (mAv (mVar 0) (mAv (mVar 1) mANil))))) mNx)
 (mSeq (mSet 3 (m2 ixD (mVar 2) (mCall M_place_of (mAv (mVar 0) (mAv (m2 ixD (mVar 1) (mC (.int 1))) mANil)))))
 (mSeq (mIfS (mB (m2 isD (mVar 3) (mC .none))) (mRet (mC .none)) mNx)
 (mRet (mIf (mB (m2 eqD (m2 ixD (mVar 1) (mC (.int 0))) (mC (.str "band")))) (m2 mulD (m2 divD (mVar 3) (m2 ixD (mVar 1) (mC (.int 2)))) (m2 ixD (mVar 1) (mC (.int 2)))) (mSl (mVar 3) mPn (mPs (m2 ixD (mVar 1) (mC (.int 2)))))))))))
noncomputable def M_path_in : Mir := mFn 3 1
 ((mRet (mN tupD (mCons (mLst (mLc (mIt (mVar 1)) (gNm 3) mYes (mCall M_key_in (mAv (mVar 0) (mAv (mVar 3) (mAv (mVar 2) mANil)))) [3])) mNil))))
noncomputable def M_counted : Mir := mFn 2 4
 ((mSeq (mAsg (gTp [(gNm 2), (gNm 3)]) (mVar 0))
 (mSeq (mSetO 4 (mDsp mNil))
 (mSeq (mFor (mItA range1D (mCons (mN lenD (mCons (mVar 3) mNil)) mNil)) (gNm 5) (mIfS (mTru (mCall M_counts (mAv (mVar 2) (mAv (m2 ixD (mVar 1) (mC (.int 3))) (mAv (m2 ixD (mVar 3) (mVar 5)) mANil))))) (mMut 4 appendD (mTup (mCons (mVar 5) (mCons (mCall M_path_in (mAv (mVar 2) (mAv (m2 ixD (mVar 1) (mC (.int 0))) (mAv (m2 ixD (mVar 3) (mVar 5)) mANil)))) (mCons (mCall M_path_in (mAv (mVar 2) (mAv (m2 ixD (mVar 1) (mC (.int 1))) (mAv (m2 ixD (mVar 3) (mVar 5)) mANil)))) mNil))))) mNx))
 (mRet (mRd 4))))))
noncomputable def M_kind_of : Mir := mFn 2 1
 ((mSeq (mSet 2 (mIf (mTru (mCall M_is_word (mAv (mVar 1) mANil))) (mCall M_place_of (mAv (mVar 0) (mAv (mVar 1) mANil))) (mC .none)))
 (mRet (mIf (mB (m2 isD (mVar 2) (mC .none))) (mC .none) (m2 ixD (m2 ixD (mVar 0) (mVar 2)) (mC (.int 1)))))))
noncomputable def M_fitted : Mir := mFn 2 0
 ((mSeq (mIfS (mOr (mB (m2 gtD (mN lenD (mCons (mVar 0) mNil)) (mC (.int 6)))) (mB (m2 gtD (mN lenD (mCons (mVar 1) mNil)) (mC (.int 24))))) (mRaise 0) mNx)
 (mRet (mTup (mCons (mVar 0) (mCons (mVar 1) mNil))))))
noncomputable def M_joined : Mir := mFn 4 8
 ((mSeq (mDrop (mCall M_look_table (mAv (mVar 0) mANil)))
 (mSeq (mDrop (mCall M_look_table (mAv (mVar 1) mANil)))
 (mSeq (mIfS (mOr (mB (m2 isD (mCall M_kind_of (mAv (m2 ixD (mVar 0) (mC (.int 0))) (mAv (mVar 2) mANil))) (mC .none))) (mB (m2 neD (mCall M_kind_of (mAv (m2 ixD (mVar 0) (mC (.int 0))) (mAv (mVar 2) mANil))) (mCall M_kind_of (mAv (m2 ixD (mVar 1) (mC (.int 0))) (mAv (mVar 2) mANil)))))) (mRaise 0) mNx)
 (mSeq (mAsg (gTp [(gNm 4), (gNm 5)]) (mTup (mCons (mCall M_place_of (mAv (m2 ixD (mVar 0) (mC (.int 0))) (mAv (mVar 2) mANil))) (mCons (mCall M_place_of (mAv (m2 ixD (mVar 1) (mC (.int 0))) (mAv (mVar 2) mANil))) mNil))))
 (mSeq (mSet 6 (mLst (mLc (mItA range1D (mCons (mN lenD (mCons (m2 ixD (mVar 1) (mC (.int 0))) mNil)) mNil)) (gNm 7) (mB (m2 neD (mVar 7) (mVar 5))) (mVar 7) [7])))
 (mSeq (mIfS (mTru (mN anyD (mCons (mLst (mLc (mIt (mVar 6)) (gNm 7) mYes (m2 isntD (mCall M_place_of (mAv (m2 ixD (mVar 0) (mC (.int 0))) (mAv (m2 ixD (m2 ixD (m2 ixD (mVar 1) (mC (.int 0))) (mVar 7)) (mC (.int 0))) mANil))) (mC .none)) [7])) mNil))) (mRaise 0) mNx)
 (mSeq (mSetO 8 (mDsp mNil))
 (mSeq (mFor (mIt (m2 ixD (mVar 0) (mC (.int 1)))) (gNm 9) (mSeq (mSet 10 (mLst (mLc (mIt (m2 ixD (mVar 1) (mC (.int 1)))) (gNm 11) (mAnd (mB (m2 eqD (m2 ixD (mVar 11) (mVar 5)) (m2 ixD (mVar 9) (mVar 4)))) (mB (m2 isntD (m2 ixD (mVar 9) (mVar 4)) (mC .none)))) (mVar 11) [11])))
 (mSeq (mMut 8 extendD (mLst (mLc (mIt (mVar 10)) (gNm 11) mYes (m2 addD (mVar 9) (mN tupD (mCons (mLst (mLc (mIt (mVar 6)) (gNm 7) mYes (m2 ixD (mVar 11) (mVar 7)) [7])) mNil))) [11])))
 (mIfS (mAnd (mNot (mTru (mVar 10))) (mTru (mVar 3))) (mMut 8 appendD (m2 addD (mVar 9) (m2 mulD (mTup (mCons (mC .none) mNil)) (mN lenD (mCons (mVar 6) mNil))))) mNx))))
 (mRet (mCall M_fitted (mAv (m2 addD (m2 ixD (mVar 0) (mC (.int 0))) (mN tupD (mCons (mLst (mLc (mIt (mVar 6)) (gNm 7) mYes (m2 ixD (m2 ixD (mVar 1) (mC (.int 0))) (mVar 7)) [7])) mNil))) (mAv (mRd 8) mANil)))))))))))))
noncomputable def M_stacked : Mir := mFn 2 0
 ((mSeq (mDrop (mCall M_look_table (mAv (mVar 0) mANil)))
 (mSeq (mDrop (mCall M_look_table (mAv (mVar 1) mANil)))
 (mSeq (mIfS (mB (m2 neD (m2 ixD (mVar 0) (mC (.int 0))) (m2 ixD (mVar 1) (mC (.int 0))))) (mRaise 0) mNx)
 (mRet (mCall M_fitted (mAv (m2 ixD (mVar 0) (mC (.int 0))) (mAv (m2 addD (m2 ixD (mVar 0) (mC (.int 1))) (m2 ixD (mVar 1) (mC (.int 1)))) mANil))))))))
noncomputable def M_picked : Mir := mFn 2 5
 ((mSeq (mDrop (mCall M_look_table (mAv (mVar 0) mANil)))
 (mSeq (mIfS (mOr (mNot (mTru (m1 (isiD "tuple") (mVar 1)))) (mB (m2 eqD (mN lenD (mCons (mVar 1) mNil)) (mC (.int 0))))) (mRaise 0) mNx)
 (mSeq (mIfS (mNot (mTru (mN allD (mCons (mLst (mLc (mIt (mVar 1)) (gNm 2) mYes (m2 isntD (mCall M_kind_of (mAv (m2 ixD (mVar 0) (mC (.int 0))) (mAv (mVar 2) mANil))) (mC .none)) [2])) mNil)))) (mRaise 0) mNx)
 (mSeq (mIfS (mB (m2 ltD (m1 lenSetD (mVar 1)) (mN lenD (mCons (mVar 1) mNil)))) (mRaise 0) mNx)
 (mSeq (mSet 3 (mLst (mLc (mIt (mVar 1)) (gNm 2) mYes (mCall M_place_of (mAv (m2 ixD (mVar 0) (mC (.int 0))) (mAv (mVar 2) mANil))) [2])))
 (mSeq (mSet 4 (mN tupD (mCons (mLst (mLc (mIt (mVar 3)) (gNm 5) mYes (m2 ixD (m2 ixD (mVar 0) (mC (.int 0))) (mVar 5)) [5])) mNil)))
 (mRet (mTup (mCons (mVar 4) (mCons (mLst (mLc (mIt (m2 ixD (mVar 0) (mC (.int 1)))) (gNm 6) mYes (mN tupD (mCons (mLst (mLc (mIt (mVar 3)) (gNm 5) mYes (m2 ixD (mVar 6) (mVar 5)) [5])) mNil)) [6])) mNil)))))))))))
noncomputable def M_begins : Mir := mFn 2 0
 ((mRet (m2 eqD (mSl (mVar 0) mPn (mPs (mN lenD (mCons (mVar 1) mNil)))) (mVar 1))))
noncomputable def M_children : Mir := mFn 2 1
 ((mRet (mLst (mLc (mIt (mVar 0)) (gNm 2) (mAnd (mB (m2 eqD (mN lenD (mCons (mVar 2) mNil)) (m2 addD (mN lenD (mCons (mVar 1) mNil)) (mC (.int 1))))) (mTru (mCall M_begins (mAv (mVar 2) (mAv (mVar 1) mANil))))) (mVar 2) [2]))))
noncomputable def M_divisor : Mir := mFn 2 0
 ((mSeq (mWhile (mTru (mVar 1)) (mSet2 0 1 (mVar 1) (m2 modD (mVar 0) (mVar 1))))
 (mRet (mN absD (mCons (mVar 0) mNil)))))
noncomputable def M_is_share : Mir := mFn 1 0
 ((mSeq (mIfS (mOr (mNot (mTru (m1 (isiD "tuple") (mVar 0)))) (mB (m2 neD (mN lenD (mCons (mVar 0) mNil)) (mC (.int 2))))) (mRet (mC (.bool false))) mNx)
 (mRet (mAndV (mCall M_is_whole (mAv (m2 ixD (mVar 0) (mC (.int 1))) (mAv (mC (.int 1)) (mAv (mC (.int 1000)) mANil)))) (mCall M_is_whole (mAv (m2 ixD (mVar 0) (mC (.int 0))) (mAv (mC (.int 0)) (mAv (m2 ixD (mVar 0) (mC (.int 1))) mANil))))))))
noncomputable def M_members : Mir := mFn 3 1
 ((mRet (mLst (mLc (mIt (mVar 0)) (gNm 3) (mAnd (mTru (mCall M_begins (mAv (m2 ixD (mVar 3) (mC (.int 1))) (mAv (mVar 1) mANil)))) (mTru (mCall M_begins (mAv (m2 ixD (mVar 3) (mC (.int 2))) (mAv (mVar 2) mANil))))) (m2 ixD (mVar 3) (mC (.int 0))) [3]))))
noncomputable def M_is_before : Mir := mFn 3 2
 ((mSeq (mIfS (mOr (mB (m2 isD (mVar 0) (mC .none))) (mB (m2 isD (mVar 1) (mC .none)))) (mRet (mAndV (m2 isntD (mVar 0) (mC .none)) (m2 isD (mVar 1) (mC .none)))) mNx)
 (mSeq (mIfS (mTru (m1 (isiD "tuple") (mVar 0))) (mSeq (mSet2 3 4 (m2 mulD (m2 ixD (mVar 0) (mC (.int 0))) (m2 ixD (mVar 1) (mC (.int 1)))) (m2 mulD (m2 ixD (mVar 1) (mC (.int 0))) (m2 ixD (mVar 0) (mC (.int 1)))))
 (mRet (mIf (mTru (mVar 2)) (m2 gtD (mVar 3) (mVar 4)) (m2 ltD (mVar 3) (mVar 4))))) mNx)
 (mRet (mIf (mTru (mVar 2)) (m2 gtD (mVar 0) (mVar 1)) (m2 ltD (mVar 0) (mVar 1)))))))
noncomputable def M_is_key : Mir := mFn 2 0
 ((mSeq (mIfS (mTru (m1 (isiD "str") (mVar 1))) (mRet (m2 isntD (mCall M_kind_of (mAv (mVar 0) (mAv (mVar 1) mANil))) (mC .none))) mNx)
 (mSeq (mIfS (mOr (mNot (mTru (m1 (isiD "tuple") (mVar 1)))) (mOr (mB (m2 neD (mN lenD (mCons (mVar 1) mNil)) (mC (.int 3)))) (mNot (mTru (m1 (isiD "str") (m2 ixD (mVar 1) (mC (.int 0)))))))) (mRet (mC (.bool false))) mNx)
 (mSeq (mIfS (mB (m2 eqD (m2 ixD (mVar 1) (mC (.int 0))) (mC (.str "band")))) (mRet (mAndV (m2 eqD (mCall M_kind_of (mAv (mVar 0) (mAv (m2 ixD (mVar 1) (mC (.int 1))) mANil))) (mC (.str "number"))) (mCall M_is_whole (mAv (m2 ixD (mVar 1) (mC (.int 2))) (mAv (mC (.int 1)) (mAv (mC (.int 1000000)) mANil)))))) mNx)
 (mRet (mAndV (m2 eqD (m2 ixD (mVar 1) (mC (.int 0))) (mC (.str "first"))) (mAndV (m2 eqD (mCall M_kind_of (mAv (mVar 0) (mAv (m2 ixD (mVar 1) (mC (.int 1))) mANil))) (mC (.str "word"))) (mCall M_is_whole (mAv (m2 ixD (mVar 1) (mC (.int 2))) (mAv (mC (.int 1)) (mAv (mC (.int 8)) mANil)))))))))))
noncomputable def M_is_sift : Mir := mFn 2 2
 ((mSeq (mIfS (mOr (mNot (mTru (m1 (isiD "tuple") (mVar 1)))) (mOr (mB (m2 eqD (mN lenD (mCons (mVar 1) mNil)) (mC (.int 0)))) (mNot (mTru (m1 (isiD "str") (m2 ixD (mVar 1) (mC (.int 0)))))))) (mRet (mC (.bool false))) mNx)
 (mSeq (mIfS (mB (m2 (inD id) (m2 ixD (mVar 1) (mC (.int 0))) (mTup (mCons (mC (.str "is")) (mCons (mC (.str "not")) mNil))))) (mSeq (mSet 2 (mIf (mB (m2 eqD (mN lenD (mCons (mVar 1) mNil)) (mC (.int 3)))) (mCall M_kind_of (mAv (mVar 0) (mAv (m2 ixD (mVar 1) (mC (.int 1))) mANil))) (mC .none)))
 (mRet (mAndV (m2 isntD (mVar 2) (mC .none)) (mCall M_is_value (mAv (mVar 2) (mAv (m2 ixD (mVar 1) (mC (.int 2))) mANil)))))) mNx)
 (mSeq (mIfS (mOr (mB (m2 neD (m2 ixD (mVar 1) (mC (.int 0))) (mC (.str "from")))) (mOr (mB (m2 neD (mN lenD (mCons (mVar 1) mNil)) (mC (.int 4)))) (mB (m2 neD (mCall M_kind_of (mAv (mVar 0) (mAv (m2 ixD (mVar 1) (mC (.int 1))) mANil))) (mC (.str "number")))))) (mRet (mC (.bool false))) mNx)
 (mRet (mN allD (mCons (mLst (mLc (mIt (mSl (mVar 1) (mPs (mC (.int 2))) mPn)) (gNm 3) mYes (mCall M_is_whole (mAv (mVar 3) (mAv (m2 subD (mC (.int 0)) (mC (.int 1000000))) (mAv (mC (.int 1000000)) mANil)))) [3])) mNil)))))))
noncomputable def M_is_sum : Mir := mFn 2 0
 ((mSeq (mIfS (mOr (mNot (mTru (m1 (isiD "tuple") (mVar 1)))) (mOr (mB (m2 eqD (mN lenD (mCons (mVar 1) mNil)) (mC (.int 0)))) (mNot (mTru (m1 (isiD "str") (m2 ixD (mVar 1) (mC (.int 0)))))))) (mRet (mC (.bool false))) mNx)
 (mSeq (mIfS (mB (m2 eqD (m2 ixD (mVar 1) (mC (.int 0))) (mC (.str "count")))) (mRet (m2 eqD (mN lenD (mCons (mVar 1) mNil)) (mC (.int 1)))) mNx)
 (mSeq (mIfS (mB (m2 neD (mN lenD (mCons (mVar 1) mNil)) (mC (.int 2)))) (mRet (mC (.bool false))) mNx)
 (mSeq (mIfS (mOr (mB (m2 (inD id) (m2 ixD (mVar 1) (mC (.int 0))) (mC (.tuple [(.str "sum"), (.str "least"), (.str "greatest"), (.str "mean")])))) (mB (m2 (inD id) (m2 ixD (mVar 1) (mC (.int 0))) (mC (.tuple [(.str "of all"), (.str "of row"), (.str "of column")]))))) (mRet (m2 eqD (mCall M_kind_of (mAv (mVar 0) (mAv (m2 ixD (mVar 1) (mC (.int 1))) mANil))) (mC (.str "number")))) mNx)
 (mRet (mAndV (m2 (inD id) (m2 ixD (mVar 1) (mC (.int 0))) (mTup (mCons (mC (.str "unlike")) (mCons (mC (.str "filled")) mNil)))) (m2 isntD (mCall M_kind_of (mAv (mVar 0) (mAv (m2 ixD (mVar 1) (mC (.int 1))) mANil))) (mC .none)))))))))
noncomputable def M_key_text : Mir := mFn 1 0
 ((mRet (mIf (mTru (m1 (isiD "str") (mVar 0))) (mVar 0) (mStr1 joinD (mC (.str ":")) (mLst (mDsp (mCons (m2 ixD (mVar 0) (mC (.int 0))) (mCons (m2 ixD (mVar 0) (mC (.int 1))) (mCons (mN strD (mCons (m2 ixD (mVar 0) (mC (.int 2))) mNil)) mNil)))))))))
noncomputable def M_least : Mir := mFn 2 1
 ((mSeq (mIfS (mB (m2 eqD (mVar 1) (mC (.int 0)))) (mRet (mC .none)) mNx)
 (mSeq (mIfS (mB (m2 ltD (mVar 1) (mC (.int 0)))) (mSet2 0 1 (m2 subD (mC (.int 0)) (mVar 0)) (m2 subD (mC (.int 0)) (mVar 1))) mNx)
 (mSeq (mSet 2 (mCall M_divisor (mAv (mVar 0) (mAv (mVar 1) mANil))))
 (mRet (mTup (mCons (m2 divD (mVar 0) (mVar 2)) (mCons (m2 divD (mVar 1) (mVar 2)) mNil))))))))
noncomputable def M_value_text : Mir := mFn 1 0
 ((mRet (mIf (mB (m2 isD (mVar 0) (mC .none))) (mC (.str "-")) (mN strD (mCons (mVar 0) mNil)))))
noncomputable def M_path_text : Mir := mFn 1 1
 ((mRet (mIf (mTru (mVar 0)) (mStr1 joinD (mC (.str "/")) (mLst (mLc (mIt (mVar 0)) (gNm 1) mYes (mCall M_value_text (mAv (mVar 1) mANil)) [1]))) (mC (.str "*")))))
noncomputable def M_rank : Mir := mFn 1 0
 ((mSeq (mIfS (mB (m2 isD (mVar 0) (mC .none))) (mRet (mTup (mCons (mC (.int 0)) (mCons (mC (.int 0)) (mCons (mC (.str "")) mNil))))) mNx)
 (mRet (mIf (mTru (m1 (isiD "int") (mVar 0))) (mTup (mCons (mC (.int 1)) (mCons (mVar 0) (mCons (mC (.str "")) mNil)))) (mTup (mCons (mC (.int 1)) (mCons (mC (.int 0)) (mCons (mVar 0) mNil))))))))
noncomputable def M_ranked : Mir := mFn 1 1
 ((mRet (mLst (mLc (mIt (mVar 0)) (gNm 1) mYes (mCall M_rank (mAv (mVar 1) mANil)) [1]))))
noncomputable def M_sum_text : Mir := mFn 1 0
 ((mSeq (mIfS (mB (m2 isD (mVar 0) (mC .none))) (mRet (mC (.str "."))) mNx)
 (mRet (mIf (mTru (m1 (isiD "tuple") (mVar 0))) (m2 addD (m2 addD (mN strD (mCons (m2 ixD (mVar 0) (mC (.int 0))) mNil)) (mC (.str "/"))) (mN strD (mCons (m2 ixD (mVar 0) (mC (.int 1))) mNil))) (mN strD (mCons (mVar 0) mNil))))))
noncomputable def M_value_in : Mir := mFn 1 2
 ((mSeq (mIfS (mB (m2 eqD (mVar 0) (mC (.str "-")))) (mRet (mC .none)) mNx)
 (mSeq (mSet 1 (mIf (mB (m2 eqD (mSl (mVar 0) mPn (mPs (mC (.int 1)))) (mC (.str "-")))) (mSl (mVar 0) (mPs (mC (.int 1))) mPn) (mVar 0)))
 (mSeq (mIfS (mAnd (mB (m2 neD (mVar 1) (mC (.str "")))) (mAnd (mB (m2 ltD (mN lenD (mCons (mVar 1) mNil)) (mC (.int 9)))) (mTru (mN allD (mCons (mLst (mLc (mItS (mVar 1)) (gNm 2) mYes (m2 (inD id) (mVar 2) (mC (.str "0123456789"))) [2])) mNil))))) (mRet (mN int1D (mCons (mVar 0) mNil))) mNx)
 (mRet (mVar 0))))))
noncomputable def M_values_of : Mir := mFn 3 4
 ((mSeq (mSet 3 (mCall M_place_of (mAv (m2 ixD (mVar 0) (mC (.int 0))) (mAv (mVar 1) mANil))))
 (mSeq (mSet 4 (mLst (mLc (mIt (mVar 2)) (gNm 5) mYes (m2 ixD (m2 ixD (m2 ixD (mVar 0) (mC (.int 1))) (mVar 5)) (mVar 3)) [5])))
 (mRet (mLst (mLc (mIt (mVar 4)) (gNm 6) (mB (m2 isntD (mVar 6) (mC .none))) (mVar 6) [6]))))))
noncomputable def M_wall : Mir := mFn 1 0
 ((mWhile (mTru (mC (.bool true))) mNx))
end VL

set_option Elab.async false
set_option linter.all false
set_option maxRecDepth 100000
set_option maxHeartbeats 4000000
/-! VM1: the draws of the laws. -/
namespace VL
open PySem L2
theorem log2_small {n : Nat} (h : n < 2 ^ 64) : n.log2 < 64 := by
  by_cases z : n = 0
  · subst z; decide
  · exact (Nat.log2_lt z).mpr h
theorem fmod_lt {a b : Int} (h : 0 < b) : 0 ≤ a.fmod b ∧ a.fmod b < b := by
  rw [Int.fmod_eq_emod_of_nonneg a (Int.le_of_lt h)]
  exact ⟨Int.emod_nonneg a (by omega), Int.emod_lt_of_pos a h⟩
theorem modD_i {i j : Int} (h : j ≠ 0) : modD (.int i) (.int j) = some (.int (i.fmod j)) := by
  show (if decide (j ≠ 0) = true then _ else _) = _
  rw [if_pos (decide_eq_true h)]
theorem divD_i {i j : Int} (h : 0 < j) (h2 : j.natAbs < 2 ^ 64) : divD (.int i) (.int j) = some (.int (i / j)) := by
  show (if decide (0 < j ∧ j.natAbs.log2 < 9000) = true then _ else _) = _
  have z := log2_small h2
  rw [if_pos (decide_eq_true ⟨h, by omega⟩)]
theorem mulD_i {i j : Int} (h1 : i.natAbs < 2 ^ 64) (h2 : j.natAbs < 2 ^ 64) : mulD (.int i) (.int j) = some (.int (i * j)) := by
  show (if decide (i.natAbs.log2 + j.natAbs.log2 < 1000000) = true then _ else _) = _
  have z1 := log2_small h1
  have z2 := log2_small h2
  rw [if_pos (decide_eq_true (by omega))]
theorem powD_i {i j : Int} (h1 : 0 ≤ j) (h2 : j ≤ 1000000) (h3 : i.natAbs < 2 ^ 64) : powD (.int i) (.int j) = some (.int (i ^ j.toNat)) := by
  show (if decide (0 ≤ j ∧ j ≤ 1000000 ∧ i.natAbs < 2 ^ 64) = true then _ else _) = _
  rw [if_pos (decide_eq_true ⟨h1, h2, h3⟩)]
theorem addD_i {i j : Int} : addD (.int i) (.int j) = some (.int (i + j)) := rfl
theorem subD_i {i j : Int} : subD (.int i) (.int j) = some (.int (i - j)) := rfl
theorem atI_in {α : Type} {xs : List α} {i : Int} (h0 : 0 ≤ i) (h1 : i < xs.length) : atI xs i = xs[i.toNat]? := by
  unfold atI ixN
  rw [if_pos h0, if_pos h1]
  rfl
def cellI (ns : List Int) (k : Int) : Int := if ns.isEmpty then 0 else (atI ns (k.fmod (ns.length : Nat))).getD 0
theorem cell_ok (ns : List Int) (k : Int) : L_cell [.scr ns, .val (.int k)] = .ok (.int (cellI ns k)) [.un, .un] := by
  cases ns with
  | nil => rfl
  | cons n ns =>
    have hp : (0 : Int) < (((n :: ns).length : Nat) : Int) := by simp only [List.length_cons]; omega
    obtain ⟨h1, h2⟩ := fmod_lt (a := k) hp
    obtain ⟨z, hz⟩ : ∃ z, atI (n :: ns) (k.fmod ((n :: ns).length : Nat)) = some z := by
      rw [atI_in h1 h2]
      exact ⟨_, List.getElem?_eq_getElem (by omega)⟩
    have e : cellI (n :: ns) k = z := by unfold cellI; rw [hz]; rfl
    rw [e]
    have hm := modD_i (i := k) (j := ((n :: ns).length : Nat)) (by omega)
    unfold L_cell mFn
    simp only [mSeq, mIfS, mScrT, mScrIx, mScrLen, scrR, mRet, mNx, m2, mVar, List.replicate, List.append_nil, List.getElem?_cons_zero, List.getElem?_cons_succ, Oc.bind, Oc.opt, List.isEmpty_cons, Bool.not_false, if_true, hm, hz, Option.map, finR, Sl.fin]
    rfl
def mixI (ns : List Int) (k : Int) : Int :=
  let a := (cellI ns k + 104729 * (k + 1)).fmod 4294967291
  let b := (a ^ 5).fmod 4294967279
  (b / 64 * 69621 + b).fmod 4294967231
theorem mix_ok (ns : List Int) (k : Int) (h0 : 0 ≤ k) (h1 : k ≤ 100000000) : L_mix [.scr ns, .val (.int k)] = .ok (.int (mixI ns k)) [.un, .un] := by
  obtain ⟨a0, a1⟩ := fmod_lt (a := cellI ns k + 104729 * (k + 1)) (b := 4294967291) (by decide)
  have ha : mixI ns k = ((((cellI ns k + 104729 * (k + 1)).fmod 4294967291) ^ 5).fmod 4294967279 / 64 * 69621 + (((cellI ns k + 104729 * (k + 1)).fmod 4294967291) ^ 5).fmod 4294967279).fmod 4294967231 := rfl
  rw [ha]
  have e1 : mulD (.int 104729) (.int (k + 1)) = some (.int (104729 * (k + 1))) := mulD_i (by decide) (by omega)
  have e2 : modD (.int (cellI ns k + 104729 * (k + 1))) (.int 4294967291) = some (.int ((cellI ns k + 104729 * (k + 1)).fmod 4294967291)) := modD_i (by decide)
  generalize (cellI ns k + 104729 * (k + 1)).fmod 4294967291 = a at *
  have e3 : powD (.int a) (.int 5) = some (.int (a ^ 5)) := powD_i (by decide) (by decide) (by omega)
  have e4 : modD (.int (a ^ 5)) (.int 4294967279) = some (.int ((a ^ 5).fmod 4294967279)) := modD_i (by decide)
  obtain ⟨b0, b1⟩ := fmod_lt (a := a ^ 5) (b := 4294967279) (by decide)
  generalize (a ^ 5).fmod 4294967279 = b at *
  have e5 : divD (.int b) (.int 64) = some (.int (b / 64)) := divD_i (by decide) (by decide)
  have b2 : 0 ≤ b / 64 ∧ b / 64 < 4294967279 := by omega
  have e6 : mulD (.int (b / 64)) (.int 69621) = some (.int (b / 64 * 69621)) := mulD_i (by omega) (by decide)
  have e7 : modD (.int (b / 64 * 69621 + b)) (.int 4294967231) = some (.int ((b / 64 * 69621 + b).fmod 4294967231)) := modD_i (by decide)
  unfold L_mix mFn
  simp only [mSeq, mSet, mRet, m2, mVar, mC, mCall, mAr, mAv, mANil, hasR, toSl, bs, back, cell_ok, List.replicate, List.append_nil, List.cons_append, List.nil_append, List.getElem?_cons_zero, List.getElem?_cons_succ, List.set_cons_zero, List.set_cons_succ, Oc.bind, Oc.opt, if_true, Option.map, List.nodup_nil, addD_i, e1, e2, e3, e4, e5, e6, e7, finR, Sl.fin]
  rfl
theorem mix_nn (ns : List Int) (k : Int) : 0 ≤ mixI ns k ∧ mixI ns k < 4294967231 := fmod_lt (by decide)
/-- the draw at a town that is t long afterwards -/
def drawI (ns : List Int) (t m : Int) : Int := (mixI ns t / 8).fmod m
theorem draw_in (ns : List Int) (t : Int) {m : Int} (h : 0 < m) : 0 ≤ drawI ns t m ∧ drawI ns t m < m := fmod_lt h
/-- a town: that many noughts -/
def town (k : Nat) : List PyData := List.replicate k (.int 0)
theorem town_snoc (k : Nat) : town k ++ [.int 0] = town (k + 1) := by unfold town; rw [List.replicate_succ']
theorem town_len (k : Nat) : (town k).length = k := List.length_replicate
theorem draw_ok (ns : List Int) (k : Nat) (m : Int) (hk : k < 1000000) (hm : 0 < m) : L_draw [.scr ns, .bor (town k), .val (.int m)] = .ok (.int (drawI ns ((k : Int) + 1) m)) [.un, .bor (town (k + 1)), .un] := by
  have e1 : appendD (town k) (.int 0) = some (town (k + 1)) := by
    unfold appendD
    rw [if_pos (show fits ((town k).length + 1) = true from decide_eq_true (by rw [town_len]; omega)), town_snoc]
  have e2 := mix_ok ns ((k : Int) + 1) (by omega) (by omega)
  obtain ⟨b0, b1⟩ := mix_nn ns ((k : Int) + 1)
  have e3 : divD (.int (mixI ns ((k : Int) + 1))) (.int 8) = some (.int (mixI ns ((k : Int) + 1) / 8)) := divD_i (by decide) (by decide)
  have e4 : modD (.int (mixI ns ((k : Int) + 1) / 8)) (.int m) = some (.int (drawI ns ((k : Int) + 1) m)) := modD_i (by omega)
  have e5 : (((town (k + 1)).length : Nat) : Int) = (k : Int) + 1 := by rw [town_len]; omega
  unfold L_draw mFn
  simp only [mSeq, mMut, heldR, setR, mRet, m2, mVar, mC, mCall, mAr, mAv, mANil, mLenP, peekR, hasR, toSl, bs, back, e1, e2, e3, e4, e5, List.replicate, List.append_nil, List.cons_append, List.nil_append, List.getElem?_cons_zero, List.getElem?_cons_succ, List.set_cons_zero, List.set_cons_succ, Oc.bind, Oc.opt, if_true, Option.map, List.nodup_nil, finR, Sl.fin]
  rfl
theorem pick_ok (ns : List Int) (k : Nat) (ds : List PyData) (hk : k < 1000000) (hd : ds ≠ []) : ∃ (j : Nat) (d : PyData), ds[j]? = some d ∧ L_pick [.scr ns, .bor (town k), .val (.list ds)] = .ok d [.un, .bor (town (k + 1)), .un] := by
  have hl : (0 : Int) < ((ds.length : Nat) : Int) := by
    have := List.length_pos_iff.mpr hd
    omega
  have e1 := draw_ok ns k ((ds.length : Nat) : Int) hk hl
  obtain ⟨b0, b1⟩ := draw_in ns ((k : Int) + 1) hl
  have lt : (drawI ns ((k : Int) + 1) ((ds.length : Nat) : Int)).toNat < ds.length := by omega
  refine ⟨_, ds[(drawI ns ((k : Int) + 1) ((ds.length : Nat) : Int)).toNat], List.getElem?_eq_getElem lt, ?_⟩
  have e2 : ixD (.list ds) (.int (drawI ns ((k : Int) + 1) ((ds.length : Nat) : Int))) = some ds[(drawI ns ((k : Int) + 1) ((ds.length : Nat) : Int)).toNat] := by
    show atI ds _ = _
    rw [atI_in b0 b1, List.getElem?_eq_getElem lt]
  unfold L_pick mFn
  simp only [mRet, m2, mVar, mN, lenD, mCons, mNil, mCall, mAr, mAv, mAb, mANil, hasR, hasB, toSl, bs, back, e1, e2, List.nodup_cons, List.nodup_nil, List.not_mem_nil, not_false_eq_true, and_self, List.replicate, List.append_nil, List.cons_append, List.nil_append, List.getElem?_cons_zero, List.getElem?_cons_succ, List.set_cons_zero, List.set_cons_succ, Oc.bind, Oc.opt, if_true, Option.map, finR, Sl.fin]
  rfl
end VL

set_option Elab.async false
set_option linter.all false
set_option maxRecDepth 100000
set_option maxHeartbeats 4000000
/-! VM2: good data, words, columns, rows, tables; what the program's looks say of them. -/
namespace VL
open PySem L2
noncomputable instance decPy : DecidableEq PyData := fun _ _ => Classical.propDecidable _
/-- data without truths or dicts, no deeper than n -/
def gdn : Nat → PyData → Bool
  | _, .none => true
  | _, .int _ => true
  | _, .str _ => true
  | n + 1, .list xs => xs.all (gdn n)
  | n + 1, .tuple xs => xs.all (gdn n)
  | _, _ => false
theorem eqvAll_of {p : PyData → Bool} (ih : ∀ d e, p d = true → p e = true → (PyData.eqv d e = true ↔ d = e)) : ∀ xs ys : List PyData, xs.all p = true → ys.all p = true → (PyData.eqvAll xs ys = true ↔ xs = ys)
  | [], [], _, _ => by simp [PyData.eqvAll]
  | [], _ :: _, _, _ => by simp [PyData.eqvAll]
  | _ :: _, [], _, _ => by simp [PyData.eqvAll]
  | x :: xs, y :: ys, h1, h2 => by
    simp only [List.all_cons, Bool.and_eq_true] at h1 h2
    simp only [PyData.eqvAll, Bool.and_eq_true, List.cons.injEq, ih x y h1.1 h2.1, eqvAll_of ih xs ys h1.2 h2.2]
theorem eqv_gdn : ∀ (n : Nat) (d e : PyData), gdn n d = true → gdn n e = true → (PyData.eqv d e = true ↔ d = e) := by
  intro n
  induction n with
  | zero => intro d e h1 h2; cases d <;> cases e <;> simp_all [gdn, PyData.eqv]
  | succ n ih =>
    intro d e h1 h2
    cases d with
    | list xs => cases e with
      | list ys => simp only [PyData.eqv, eqvAll_of ih xs ys h1 h2, PyData.list.injEq]
      | _ => simp_all [gdn, PyData.eqv]
    | tuple xs => cases e with
      | tuple ys => simp only [PyData.eqv, eqvAll_of ih xs ys h1 h2, PyData.tuple.injEq]
      | _ => simp_all [gdn, PyData.eqv]
    | _ => cases e <;> simp_all [gdn, PyData.eqv]
theorem plainAll_of {p : PyData → Bool} (ih : ∀ d, p d = true → d.plain = true) : ∀ xs : List PyData, xs.all p = true → PyData.plainAll xs = true
  | [], _ => rfl
  | x :: xs, h => by
    simp only [List.all_cons, Bool.and_eq_true] at h
    simp only [PyData.plainAll, ih x h.1, plainAll_of ih xs h.2, Bool.and_self]
theorem depthAll_of {p : PyData → Bool} {n : Nat} (ih : ∀ d, p d = true → d.depth ≤ n) : ∀ xs : List PyData, xs.all p = true → PyData.depthAll xs ≤ n
  | [], _ => Nat.zero_le _
  | x :: xs, h => by
    simp only [List.all_cons, Bool.and_eq_true] at h
    simp only [PyData.depthAll]
    have a := ih x h.1
    have b := depthAll_of ih xs h.2
    omega
theorem plain_gdn : ∀ (n : Nat) (d : PyData), gdn n d = true → d.plain = true := by
  intro n
  induction n with
  | zero => intro d h; cases d <;> simp_all [gdn, PyData.plain]
  | succ n ih =>
    intro d h
    cases d with
    | list xs => exact plainAll_of ih xs h
    | tuple xs => exact plainAll_of ih xs h
    | dict _ => simp [gdn] at h
    | _ => rfl
theorem depth_gdn : ∀ (n : Nat) (d : PyData), gdn n d = true → d.depth ≤ n := by
  intro n
  induction n with
  | zero => intro d h; cases d <;> simp_all [gdn, PyData.depth]
  | succ n ih =>
    intro d h
    cases d with
    | list xs => simp only [PyData.depth]; have := depthAll_of ih xs h; omega
    | tuple xs => simp only [PyData.depth]; have := depthAll_of ih xs h; omega
    | dict _ => simp [gdn] at h
    | _ => simp [PyData.depth]
theorem gdn_up : ∀ (n m : Nat) (d : PyData), n ≤ m → gdn n d = true → gdn m d = true := by
  intro n
  induction n with
  | zero => intro m d hm h; cases d <;> cases m <;> simp_all [gdn]
  | succ n ih =>
    intro m d hm h
    obtain ⟨m, rfl⟩ : ∃ k, m = k + 1 := ⟨m - 1, by omega⟩
    cases d with
    | list xs => exact List.all_eq_true.mpr fun x hx => ih m x (by omega) (List.all_eq_true.mp h x hx)
    | tuple xs => exact List.all_eq_true.mpr fun x hx => ih m x (by omega) (List.all_eq_true.mp h x hx)
    | dict _ => simp [gdn] at h
    | bool _ => simp [gdn] at h
    | none => cases m <;> rfl
    | int _ => cases m <;> rfl
    | str _ => cases m <;> rfl
theorem isi_str_str (z : Str) : isiD "str" (.str z) = some (.bool true) := by show some (PyData.bool ("str" == "str")) = _; rfl
theorem isi_str_tup (z : List PyData) : isiD "str" (.tuple z) = some (.bool false) := by show some (PyData.bool ("str" == "tuple")) = _; rfl
theorem isi_str_int (z : Int) : isiD "str" (.int z) = some (.bool false) := by show some (PyData.bool ("str" == "int")) = _; rfl
theorem isi_str_lst (z : List PyData) : isiD "str" (.list z) = some (.bool false) := by show some (PyData.bool ("str" == "list")) = _; rfl
theorem isi_str_non : isiD "str" .none = some (.bool false) := rfl
theorem isi_tup_str (z : Str) : isiD "tuple" (.str z) = some (.bool false) := by show some (PyData.bool ("tuple" == "str")) = _; rfl
theorem isi_tup_tup (z : List PyData) : isiD "tuple" (.tuple z) = some (.bool true) := by show some (PyData.bool ("tuple" == "tuple")) = _; rfl
theorem isi_tup_int (z : Int) : isiD "tuple" (.int z) = some (.bool false) := by show some (PyData.bool ("tuple" == "int")) = _; rfl
theorem isi_tup_lst (z : List PyData) : isiD "tuple" (.list z) = some (.bool false) := by show some (PyData.bool ("tuple" == "list")) = _; rfl
theorem isi_tup_non : isiD "tuple" .none = some (.bool false) := rfl
theorem isi_int_str (z : Str) : isiD "int" (.str z) = some (.bool false) := by show some (PyData.bool ("int" == "str")) = _; rfl
theorem isi_int_tup (z : List PyData) : isiD "int" (.tuple z) = some (.bool false) := by show some (PyData.bool ("int" == "tuple")) = _; rfl
theorem isi_int_int (z : Int) : isiD "int" (.int z) = some (.bool true) := by show some (PyData.bool ("int" == "int")) = _; rfl
theorem isi_int_lst (z : List PyData) : isiD "int" (.list z) = some (.bool false) := by show some (PyData.bool ("int" == "list")) = _; rfl
theorem isi_int_non : isiD "int" .none = some (.bool false) := rfl
theorem isi_lst_str (z : Str) : isiD "list" (.str z) = some (.bool false) := by show some (PyData.bool ("list" == "str")) = _; rfl
theorem isi_lst_tup (z : List PyData) : isiD "list" (.tuple z) = some (.bool false) := by show some (PyData.bool ("list" == "tuple")) = _; rfl
theorem isi_lst_int (z : Int) : isiD "list" (.int z) = some (.bool false) := by show some (PyData.bool ("list" == "int")) = _; rfl
theorem isi_lst_lst (z : List PyData) : isiD "list" (.list z) = some (.bool true) := by show some (PyData.bool ("list" == "list")) = _; rfl
theorem isi_lst_non : isiD "list" .none = some (.bool false) := rfl
theorem isi_bool_str (z : Str) : isiD "bool" (.str z) = some (.bool false) := by show some (PyData.bool ("bool" == "str")) = _; rfl
theorem isi_bool_tup (z : List PyData) : isiD "bool" (.tuple z) = some (.bool false) := by show some (PyData.bool ("bool" == "tuple")) = _; rfl
theorem isi_bool_int (z : Int) : isiD "bool" (.int z) = some (.bool false) := by show some (PyData.bool ("bool" == "int")) = _; rfl
theorem isi_bool_lst (z : List PyData) : isiD "bool" (.list z) = some (.bool false) := by show some (PyData.bool ("bool" == "list")) = _; rfl
theorem isi_bool_non : isiD "bool" .none = some (.bool false) := rfl
theorem lenD_l (ds : List PyData) : lenD [.list ds] = some (.int (ds.length : Nat)) := rfl
theorem lenD_t (ds : List PyData) : lenD [.tuple ds] = some (.int (ds.length : Nat)) := rfl
theorem lenD_s {z : Str} (h : z.length ≤ 16777216) : lenD [.str z] = some (.int (z.length : Nat)) := by show (if fits z.length then _ else _) = _; rw [if_pos (show fits z.length = true from decide_eq_true h)]
/-- good data -/
abbrev Gd (d : PyData) : Prop := gdn 50 d = true
theorem Gd.ok {d : PyData} (h : Gd d) : okD d = true := by
  unfold okD
  have := depth_gdn 50 d h
  simp only [plain_gdn 50 d h, Bool.true_and, decide_eq_true_eq]
  omega
theorem eqv_gd {d e : PyData} (h1 : Gd d) (h2 : Gd e) : PyData.eqv d e = decide (d = e) := by
  rw [Bool.eq_iff_iff, eqv_gdn 50 d e h1 h2, decide_eq_true_eq]
theorem eqD_g {d e : PyData} (h1 : Gd d) (h2 : Gd e) : eqD d e = some (.bool (decide (d = e))) := by
  unfold eqD
  rw [h1.ok, h2.ok, eqv_gd h1 h2]
  rfl
theorem neD_g {d e : PyData} (h1 : Gd d) (h2 : Gd e) : neD d e = some (.bool (!decide (d = e))) := by
  unfold neD
  rw [h1.ok, h2.ok, eqv_gd h1 h2]
  rfl
theorem inSeq_g {d : PyData} {es : List PyData} {f : Bool → Bool} (h1 : Gd d) (h2 : ∀ e ∈ es, Gd e) : inSeq f d es = some (.bool (f (decide (d ∈ es)))) := by
  have hp : PyData.plainAll es = true := plainAll_of (p := gdn 50) (fun d h => plain_gdn 50 d h) es (List.all_eq_true.mpr h2)
  unfold inSeq
  have e1 : (es.any fun y => PyData.eqv y d) = decide (d ∈ es) := by
    rw [Bool.eq_iff_iff, List.any_eq_true, decide_eq_true_eq]
    constructor
    · rintro ⟨y, hy, h⟩
      rw [eqv_gd (h2 y hy) h1, decide_eq_true_eq] at h
      exact h ▸ hy
    · intro h
      exact ⟨d, h, by rw [eqv_gd h1 h1]; simp⟩
  rw [h1.ok, hp, e1]
  rfl
theorem leD_t {i j : Int} (h : i ≤ j) : leD (.int i) (.int j) = some (.bool true) := by show some (PyData.bool (decide (i ≤ j))) = _; rw [decide_eq_true h]
theorem leD_f {i j : Int} (h : ¬ i ≤ j) : leD (.int i) (.int j) = some (.bool false) := by show some (PyData.bool (decide (i ≤ j))) = _; rw [decide_eq_false h]
theorem gtD_t {i j : Int} (h : j < i) : gtD (.int i) (.int j) = some (.bool true) := by show some (PyData.bool (decide (j < i))) = _; rw [decide_eq_true h]
theorem gtD_f {i j : Int} (h : ¬ j < i) : gtD (.int i) (.int j) = some (.bool false) := by show some (PyData.bool (decide (j < i))) = _; rw [decide_eq_false h]
theorem eqD_i {i j : Int} : eqD (.int i) (.int j) = some (.bool (decide (i = j))) := by
  rw [eqD_g rfl rfl]; simp
theorem neD_i {i j : Int} : neD (.int i) (.int j) = some (.bool (!decide (i = j))) := by
  rw [neD_g rfl rfl]; simp
theorem eqD_s {i j : Str} : eqD (.str i) (.str j) = some (.bool (decide (i = j))) := by
  rw [eqD_g rfl rfl]; simp
theorem rng1_n (n : Nat) (h : n ≤ 16777216) : rng1 (n : Int) = true := decide_eq_true (by omega)
theorem rngD_n (n : Nat) : rngD 0 ((n : Int)).toNat = (List.range n).map fun i => .int ((i : Nat) : Int) := by
  unfold rngD
  rw [Int.toNat_natCast]
  exact List.map_congr_left fun i _ => by rw [Int.zero_add]
theorem range1_n (n : Nat) (h : n ≤ 16777216) : range1D [.int (n : Int)] = some ((List.range n).map fun i => .int ((i : Nat) : Int)) := by
  show (if rng1 (n : Int) = true then some (rngD 0 ((n : Int)).toNat) else none) = _
  rw [rng1_n n h, rngD_n]
  rfl
theorem range1_i {i : Int} (h0 : 0 ≤ i) (h : i ≤ 16777216) : range1D [.int i] = some ((List.range i.toNat).map fun j => .int ((j : Nat) : Int)) := by
  have := range1_n i.toNat (by omega)
  rwa [show ((i.toNat : Nat) : Int) = i by omega] at this
theorem atI_n {α : Type} (xs : List α) (i : Nat) : atI xs (i : Int) = xs[i]? := by
  by_cases h : i < xs.length
  · rw [atI_in (by omega) (by omega)]; rfl
  · unfold atI ixN
    rw [if_pos (by omega), if_neg (by omega), List.getElem?_eq_none (by omega)]
    rfl
theorem allD_map {α : Type} (xs : List α) (f : α → Bool) (h : ∀ x ∈ xs, f x = true) : allD [.list (xs.map fun x => .bool (f x))] = some (.bool true) := by
  have e : ∀ ys : List α, boolsD (ys.map fun x => .bool (f x)) = some (ys.map f) := by
    intro ys
    induction ys with
    | nil => rfl
    | cons y ys ih => simp [boolsD, ih]
  show ((boolsD _).map _) = _
  rw [e]
  simp only [Option.map]
  congr 2
  simpa using h
/-! ### words -/
def smallC : List Nat := [97, 98, 99, 100, 101, 102, 103, 104, 105, 106, 107, 108, 109, 110, 111, 112, 113, 114, 115, 116, 117, 118, 119, 120, 121, 122]
def wordB (z : Str) : Bool := decide (1 ≤ z.length) && decide (z.length ≤ 8) && z.cps.toList.all (smallC.contains ·)
theorem small_str : Str.ofString "abcdefghijklmnopqrstuvwxyz" = SX.S smallC := by decide +kernel
theorem in_small (c : Nat) : inD id (.str ⟨#[c]⟩) (.str (Str.ofString "abcdefghijklmnopqrstuvwxyz")) = some (.bool (smallC.contains c)) := by
  show some (PyData.bool (id (!(Builtin.Str.occurrences _ _ 0 _ 1).isEmpty))) = _
  rw [small_str]
  have z := SX.in_one smallC c
  rw [show (⟨#[c]⟩ : Str) = SX.S [c] from rfl, z]
  simp only [id]
  congr 2
  rw [Bool.eq_iff_iff, decide_eq_true_eq, List.contains_iff_mem]
theorem is_word_ok {z : Str} (h : wordB z = true) : M_is_word [.val (.str z)] = .ok (.bool true) [.un] := by
  simp only [wordB, Bool.and_eq_true, decide_eq_true_eq] at h
  obtain ⟨⟨h1, h2⟩, h3⟩ := h
  have e3 := mLc_map (fs := mItS (mVar 0)) (g := gNm 1) (f := m2 (inD id) (mVar 1) (mC (.str "abcdefghijklmnopqrstuvwxyz"))) (vs := [1]) (ρ := [.val (.str z), .un]) (ρ1 := [.val (.str z), .un]) z.cps.toList (fun c => .str ⟨#[c]⟩) (fun c => .bool (smallC.contains c)) rfl rfl
    (fun c hc => ⟨[.val (.str z), .val (.str ⟨#[c]⟩)], rfl, by simp only [mSeq, mSet, mSetO, mSet2, mRet, mRetN, mDrop, mIfS, mIf, mB, mTru, mAnd, mOr, mNot, mAndV, mOrV, mNotV, mChain, mRaise, mNx, m1, m2, mN, mNL, mVar, mC, mNil, mCons, mLst, mTup, mDsp, mCall, mANil, mAv, mAr, mAb, hasR, hasB, toSl, VL.bs, back, mMut, heldR, setR, peekR, mLenP, mLenO, mRd, mItA, mIt, mAsg, gNm, gTp, gSeq, mYes, mSl, mPs, mPn, mKn, ok_bind, Oc.bind, Oc.opt, lenD_l, lenD_t, tupD, truD, isi_str_str, isi_str_tup, isi_str_int, isi_str_non, isi_str_lst, isi_tup_tup, isi_tup_lst, isi_tup_str, isi_tup_int, isi_tup_non, isi_lst_lst, isi_lst_tup, isi_int_int, isi_int_str, isi_int_non, isi_bool_int, isi_int_tup, isi_bool_tup, isi_bool_str, isi_bool_non, isi_lst_str, isi_lst_int, isi_lst_non, isD, isntD, isNoneD, addD_i, subD_i, seqD, appendD, List.replicate, List.append_nil, List.cons_append, List.nil_append, List.getElem?_cons_zero, List.getElem?_cons_succ, List.set_cons_zero, List.set_cons_succ, List.length_cons, List.length_nil, List.nodup_nil, List.nodup_cons, List.not_mem_nil, not_false_eq_true, and_self, Option.map, if_true, if_false, Bool.false_eq_true, Bool.not_true, Bool.not_false, Bool.and_true, Bool.true_and, Bool.false_and, Bool.and_false, finR, Sl.fin, wipeR, restR, List.getD_cons_zero, List.getD_cons_succ, decide_true, decide_false, Nat.reduceAdd, Nat.reduceLT, in_small], rfl, rfl⟩) (by rw [Array.length_toList]; show z.length ≤ _; omega)
  have e4 := allD_map z.cps.toList (fun c => smallC.contains c) (fun c hc => List.all_eq_true.mp h3 c hc)
  have e1 : leD (.int 1) (.int (z.length : Nat)) = some (.bool true) := leD_t (by omega)
  have e2 : leD (.int (z.length : Nat)) (.int 8) = some (.bool true) := leD_t (by omega)
  unfold M_is_word mFn
  simp only [mSeq, mSet, mSetO, mSet2, mRet, mRetN, mDrop, mIfS, mIf, mB, mTru, mAnd, mOr, mNot, mAndV, mOrV, mNotV, mChain, mRaise, mNx, m1, m2, mN, mNL, mVar, mC, mNil, mCons, mLst, mTup, mDsp, mCall, mANil, mAv, mAr, mAb, hasR, hasB, toSl, VL.bs, back, mMut, heldR, setR, peekR, mLenP, mLenO, mRd, mItA, mIt, mAsg, gNm, gTp, gSeq, mYes, mSl, mPs, mPn, mKn, ok_bind, Oc.bind, Oc.opt, lenD_l, lenD_t, tupD, truD, isi_str_str, isi_str_tup, isi_str_int, isi_str_non, isi_str_lst, isi_tup_tup, isi_tup_lst, isi_tup_str, isi_tup_int, isi_tup_non, isi_lst_lst, isi_lst_tup, isi_int_int, isi_int_str, isi_int_non, isi_bool_int, isi_int_tup, isi_bool_tup, isi_bool_str, isi_bool_non, isi_lst_str, isi_lst_int, isi_lst_non, isD, isntD, isNoneD, addD_i, subD_i, seqD, appendD, List.replicate, List.append_nil, List.cons_append, List.nil_append, List.getElem?_cons_zero, List.getElem?_cons_succ, List.set_cons_zero, List.set_cons_succ, List.length_cons, List.length_nil, List.nodup_nil, List.nodup_cons, List.not_mem_nil, not_false_eq_true, and_self, Option.map, if_true, if_false, Bool.false_eq_true, Bool.not_true, Bool.not_false, Bool.and_true, Bool.true_and, Bool.false_and, Bool.and_false, finR, Sl.fin, wipeR, restR, List.getD_cons_zero, List.getD_cons_succ, decide_true, decide_false, Nat.reduceAdd, Nat.reduceLT, mChain, lenD_s (show z.length ≤ 16777216 by omega), e1, e2, e3, e4]
  rfl
/-! ### columns -/
structure Col where
  n : Str
  num : Bool
def kindS (b : Bool) : Str := if b then Str.ofString "number" else Str.ofString "word"
def colD (c : Col) : PyData := .tuple [.str c.n, .str (kindS c.num)]
def colsD (cs : List Col) : PyData := .tuple (cs.map colD)
structure ColsOk (cs : List Col) : Prop where
  lo : 1 ≤ cs.length
  hi : cs.length ≤ 6
  nd : (cs.map (·.n)).Nodup
  wd : ∀ c ∈ cs, wordB c.n = true
theorem mem_snoc_nodup {α : Type} {s : List α} {k : α} (h : s.Nodup) (hk : k ∉ s) : (s ++ [k]).Nodup := by
  rw [List.nodup_append]
  refine ⟨h, by simp, ?_⟩
  intro a ha b hb
  simp at hb
  subst hb
  intro e
  exact hk (e ▸ ha)
theorem metK_nodup {κ : Type} [DecidableEq κ] : ∀ (ks σ : List κ), (σ ++ ks).Nodup → ks.foldl ddK σ = σ ++ ks
  | [], σ, _ => by simp
  | k :: ks, σ, h => by
    have hk : k ∉ σ := by
      rw [List.nodup_append] at h
      exact fun z => h.2.2 k z k (by simp) rfl
    have e : ddK σ k = σ ++ [k] := by unfold ddK; rw [if_neg hk]
    show ks.foldl ddK (ddK σ k) = _
    rw [e, metK_nodup ks (σ ++ [k]) (by simpa using h)]
    simp
theorem leaves_strs : ∀ zs : List Str, leavesD (zs.map .str) = some (zs.map .text)
  | [] => rfl
  | z :: zs => by
    show (match leafD (.str z) with | none => none | some l => (leavesD (zs.map .str)).map (l :: ·)) = _
    rw [leaves_strs zs]
    rfl
theorem nodup_text {zs : List Str} (h : zs.Nodup) : (zs.map Leaf.text).Nodup := by
  induction zs with
  | nil => simp
  | cons z zs ih =>
    simp only [List.map_cons, List.nodup_cons, List.mem_map] at h ⊢
    refine ⟨?_, ih h.2⟩
    rintro ⟨y, hy, e⟩
    cases e
    exact h.1 hy
theorem lenSet_strs {zs : List Str} (h : zs.Nodup) (hl : zs.length ≤ 4000) : lenSetD (.list (zs.map .str)) = some (.int (zs.length : Nat)) := by
  show (match leavesD (zs.map .str) with | none => none | some ls => _) = _
  rw [leaves_strs]
  show (if decide ((zs.map PyData.str).length ≤ 4000) then _ else _) = _
  rw [if_pos (by simpa using hl)]
  have e : metK (zs.map Leaf.text) = zs.map Leaf.text := by
    have := metK_nodup (zs.map Leaf.text) [] (by simpa using nodup_text h)
    simpa [metK] using this
  rw [e]
  simp
theorem kind_in (b : Bool) : inD id (.str (kindS b)) (.tuple [.str "word", .str "number"]) = some (.bool true) := by
  show inSeq id _ _ = _
  rw [inSeq_g rfl (by intro e he; simp at he; rcases he with rfl | rfl <;> rfl)]
  cases b <;> simp [kindS]
theorem are_columns_ok {cs : List Col} (h : ColsOk cs) : M_are_columns [.val (colsD cs)] = .ok (.bool true) [.un] := by
  obtain ⟨lo, hi, nd, wd⟩ := h
  have f1 := mLc_map (fs := mIt (mVar 0)) (g := gNm 1) (f := mAndV (m1 (isiD "tuple") (mVar 1)) (mAndV (m2 eqD (mN lenD (mCons (mVar 1) mNil)) (mC (.int 2))) (mCall M_is_word (mAv (m2 ixD (mVar 1) (mC (.int 0))) mANil)))) (vs := [1]) (ρ := [.val (colsD cs), .un]) (ρ1 := [.val (colsD cs), .un]) cs colD (fun _ => .bool true) rfl rfl
    (fun c hc => ⟨[.val (colsD cs), .val (colD c)], rfl, by
      have e0 : ixD (colD c) (.int 0) = some (.str c.n) := rfl
      have e1 := is_word_ok (wd c hc)
      have e2 : isiD "tuple" (colD c) = some (.bool true) := rfl
      have e3 : lenD [colD c] = some (.int 2) := rfl
      simp only [mSeq, mSet, mSetO, mSet2, mRet, mRetN, mDrop, mIfS, mIf, mB, mTru, mAnd, mOr, mNot, mAndV, mOrV, mNotV, mChain, mRaise, mNx, m1, m2, mN, mNL, mVar, mC, mNil, mCons, mLst, mTup, mDsp, mCall, mANil, mAv, mAr, mAb, hasR, hasB, toSl, VL.bs, back, mMut, heldR, setR, peekR, mLenP, mLenO, mRd, mItA, mIt, mAsg, gNm, gTp, gSeq, mYes, mSl, mPs, mPn, mKn, ok_bind, Oc.bind, Oc.opt, lenD_l, lenD_t, tupD, truD, isi_str_str, isi_str_tup, isi_str_int, isi_str_non, isi_str_lst, isi_tup_tup, isi_tup_lst, isi_tup_str, isi_tup_int, isi_tup_non, isi_lst_lst, isi_lst_tup, isi_int_int, isi_int_str, isi_int_non, isi_bool_int, isi_int_tup, isi_bool_tup, isi_bool_str, isi_bool_non, isi_lst_str, isi_lst_int, isi_lst_non, isD, isntD, isNoneD, addD_i, subD_i, seqD, appendD, List.replicate, List.append_nil, List.cons_append, List.nil_append, List.getElem?_cons_zero, List.getElem?_cons_succ, List.set_cons_zero, List.set_cons_succ, List.length_cons, List.length_nil, List.nodup_nil, List.nodup_cons, List.not_mem_nil, not_false_eq_true, and_self, Option.map, if_true, if_false, Bool.false_eq_true, Bool.not_true, Bool.not_false, Bool.and_true, Bool.true_and, Bool.false_and, Bool.and_false, finR, Sl.fin, wipeR, restR, List.getD_cons_zero, List.getD_cons_succ, decide_true, decide_false, Nat.reduceAdd, Nat.reduceLT, e0, e1, e2, e3, eqD_i], rfl, rfl⟩) (by omega)
  have f2 := mLc_map (fs := mIt (mVar 0)) (g := gNm 1) (f := mAndV (m1 (isiD "str") (m2 ixD (mVar 1) (mC (.int 1)))) (m2 (inD id) (m2 ixD (mVar 1) (mC (.int 1))) (mC (.tuple [(.str "word"), (.str "number")])))) (vs := [1]) (ρ := [.val (colsD cs), .un]) (ρ1 := [.val (colsD cs), .un]) cs colD (fun _ => .bool true) rfl rfl
    (fun c hc => ⟨[.val (colsD cs), .val (colD c)], rfl, by
      have e0 : ixD (colD c) (.int 1) = some (.str (kindS c.num)) := rfl
      have e1 : isiD "str" (.str (kindS c.num)) = some (.bool true) := rfl
      simp only [mSeq, mSet, mSetO, mSet2, mRet, mRetN, mDrop, mIfS, mIf, mB, mTru, mAnd, mOr, mNot, mAndV, mOrV, mNotV, mChain, mRaise, mNx, m1, m2, mN, mNL, mVar, mC, mNil, mCons, mLst, mTup, mDsp, mCall, mANil, mAv, mAr, mAb, hasR, hasB, toSl, VL.bs, back, mMut, heldR, setR, peekR, mLenP, mLenO, mRd, mItA, mIt, mAsg, gNm, gTp, gSeq, mYes, mSl, mPs, mPn, mKn, ok_bind, Oc.bind, Oc.opt, lenD_l, lenD_t, tupD, truD, isi_str_str, isi_str_tup, isi_str_int, isi_str_non, isi_str_lst, isi_tup_tup, isi_tup_lst, isi_tup_str, isi_tup_int, isi_tup_non, isi_lst_lst, isi_lst_tup, isi_int_int, isi_int_str, isi_int_non, isi_bool_int, isi_int_tup, isi_bool_tup, isi_bool_str, isi_bool_non, isi_lst_str, isi_lst_int, isi_lst_non, isD, isntD, isNoneD, addD_i, subD_i, seqD, appendD, List.replicate, List.append_nil, List.cons_append, List.nil_append, List.getElem?_cons_zero, List.getElem?_cons_succ, List.set_cons_zero, List.set_cons_succ, List.length_cons, List.length_nil, List.nodup_nil, List.nodup_cons, List.not_mem_nil, not_false_eq_true, and_self, Option.map, if_true, if_false, Bool.false_eq_true, Bool.not_true, Bool.not_false, Bool.and_true, Bool.true_and, Bool.false_and, Bool.and_false, finR, Sl.fin, wipeR, restR, List.getD_cons_zero, List.getD_cons_succ, decide_true, decide_false, Nat.reduceAdd, Nat.reduceLT, e0, e1, kind_in], rfl, rfl⟩) (by omega)
  have f3 := mLc_map (fs := mIt (mVar 0)) (g := gNm 1) (f := m2 ixD (mVar 1) (mC (.int 0))) (vs := [1]) (ρ := [.val (colsD cs), .un]) (ρ1 := [.val (colsD cs), .un]) cs colD (fun c => .str c.n) rfl rfl
    (fun c hc => ⟨[.val (colsD cs), .val (colD c)], rfl, rfl, rfl, rfl⟩) (by omega)
  have e4 := allD_map cs (fun _ => true) (fun _ _ => rfl)
  have e5 := lenSet_strs nd (by simp; omega)
  rw [List.map_map, List.length_map] at e5
  have e6 : lenD [colsD cs] = some (.int (cs.length : Nat)) := by show some (PyData.int ((cs.map colD).length : Nat)) = _; rw [List.length_map]
  have e7 : isiD "tuple" (colsD cs) = some (.bool true) := rfl
  have e8 : leD (.int 1) (.int (cs.length : Nat)) = some (.bool true) := leD_t (by omega)
  have e9 : leD (.int (cs.length : Nat)) (.int 6) = some (.bool true) := leD_t (by omega)
  have e5' : lenSetD (.list (cs.map fun c => .str c.n)) = some (.int (cs.length : Nat)) := e5
  unfold M_are_columns mFn
  simp only [mSeq, mSet, mSetO, mSet2, mRet, mRetN, mDrop, mIfS, mIf, mB, mTru, mAnd, mOr, mNot, mAndV, mOrV, mNotV, mChain, mRaise, mNx, m1, m2, mN, mNL, mVar, mC, mNil, mCons, mLst, mTup, mDsp, mCall, mANil, mAv, mAr, mAb, hasR, hasB, toSl, VL.bs, back, mMut, heldR, setR, peekR, mLenP, mLenO, mRd, mItA, mIt, mAsg, gNm, gTp, gSeq, mYes, mSl, mPs, mPn, mKn, ok_bind, Oc.bind, Oc.opt, lenD_l, lenD_t, tupD, truD, isi_str_str, isi_str_tup, isi_str_int, isi_str_non, isi_str_lst, isi_tup_tup, isi_tup_lst, isi_tup_str, isi_tup_int, isi_tup_non, isi_lst_lst, isi_lst_tup, isi_int_int, isi_int_str, isi_int_non, isi_bool_int, isi_int_tup, isi_bool_tup, isi_bool_str, isi_bool_non, isi_lst_str, isi_lst_int, isi_lst_non, isD, isntD, isNoneD, addD_i, subD_i, seqD, appendD, List.replicate, List.append_nil, List.cons_append, List.nil_append, List.getElem?_cons_zero, List.getElem?_cons_succ, List.set_cons_zero, List.set_cons_succ, List.length_cons, List.length_nil, List.nodup_nil, List.nodup_cons, List.not_mem_nil, not_false_eq_true, and_self, Option.map, if_true, if_false, Bool.false_eq_true, Bool.not_true, Bool.not_false, Bool.and_true, Bool.true_and, Bool.false_and, Bool.and_false, finR, Sl.fin, wipeR, restR, List.getD_cons_zero, List.getD_cons_succ, decide_true, decide_false, Nat.reduceAdd, Nat.reduceLT, mChain, f1, f2, f3, e4, e5', e6, e7, e8, e9, eqD_i]
  rfl
theorem look_columns_ok {cs : List Col} (h : ColsOk cs) : M_look_columns [.val (colsD cs)] = .ok .none [.un] := by
  unfold M_look_columns mFn
  simp only [mSeq, mSet, mSetO, mSet2, mRet, mRetN, mDrop, mIfS, mIf, mB, mTru, mAnd, mOr, mNot, mAndV, mOrV, mNotV, mChain, mRaise, mNx, m1, m2, mN, mNL, mVar, mC, mNil, mCons, mLst, mTup, mDsp, mCall, mANil, mAv, mAr, mAb, hasR, hasB, toSl, VL.bs, back, mMut, heldR, setR, peekR, mLenP, mLenO, mRd, mItA, mIt, mAsg, gNm, gTp, gSeq, mYes, mSl, mPs, mPn, mKn, ok_bind, Oc.bind, Oc.opt, lenD_l, lenD_t, tupD, truD, isi_str_str, isi_str_tup, isi_str_int, isi_str_non, isi_str_lst, isi_tup_tup, isi_tup_lst, isi_tup_str, isi_tup_int, isi_tup_non, isi_lst_lst, isi_lst_tup, isi_int_int, isi_int_str, isi_int_non, isi_bool_int, isi_int_tup, isi_bool_tup, isi_bool_str, isi_bool_non, isi_lst_str, isi_lst_int, isi_lst_non, isD, isntD, isNoneD, addD_i, subD_i, seqD, appendD, List.replicate, List.append_nil, List.cons_append, List.nil_append, List.getElem?_cons_zero, List.getElem?_cons_succ, List.set_cons_zero, List.set_cons_succ, List.length_cons, List.length_nil, List.nodup_nil, List.nodup_cons, List.not_mem_nil, not_false_eq_true, and_self, Option.map, if_true, if_false, Bool.false_eq_true, Bool.not_true, Bool.not_false, Bool.and_true, Bool.true_and, Bool.false_and, Bool.and_false, finR, Sl.fin, wipeR, restR, List.getD_cons_zero, List.getD_cons_succ, decide_true, decide_false, Nat.reduceAdd, Nat.reduceLT, are_columns_ok h]
  rfl
/-! ### values, rows -/
def ValOk (num : Bool) (d : PyData) : Prop := d = .none ∨ (num = true ∧ ∃ i, d = .int i ∧ -1000000 ≤ i ∧ i ≤ 1000000) ∨ (num = false ∧ ∃ z, d = .str z ∧ wordB z = true)
theorem ValOk.gd {num : Bool} {d : PyData} (h : ValOk num d) (n : Nat) : gdn n d = true := by
  rcases h with rfl | ⟨_, i, rfl, _⟩ | ⟨_, z, rfl, _⟩ <;> cases n <;> rfl
theorem is_whole_ok {i lo hi : Int} (h1 : lo ≤ i) (h2 : i ≤ hi) : M_is_whole [.val (.int i), .val (.int lo), .val (.int hi)] = .ok (.bool true) [.un, .un, .un] := by
  unfold M_is_whole mFn
  simp only [mSeq, mSet, mSetO, mSet2, mRet, mRetN, mDrop, mIfS, mIf, mB, mTru, mAnd, mOr, mNot, mAndV, mOrV, mNotV, mChain, mRaise, mNx, m1, m2, mN, mNL, mVar, mC, mNil, mCons, mLst, mTup, mDsp, mCall, mANil, mAv, mAr, mAb, hasR, hasB, toSl, VL.bs, back, mMut, heldR, setR, peekR, mLenP, mLenO, mRd, mItA, mIt, mAsg, gNm, gTp, gSeq, mYes, mSl, mPs, mPn, mKn, ok_bind, Oc.bind, Oc.opt, lenD_l, lenD_t, tupD, truD, isi_str_str, isi_str_tup, isi_str_int, isi_str_non, isi_str_lst, isi_tup_tup, isi_tup_lst, isi_tup_str, isi_tup_int, isi_tup_non, isi_lst_lst, isi_lst_tup, isi_int_int, isi_int_str, isi_int_non, isi_bool_int, isi_int_tup, isi_bool_tup, isi_bool_str, isi_bool_non, isi_lst_str, isi_lst_int, isi_lst_non, isD, isntD, isNoneD, addD_i, subD_i, seqD, appendD, List.replicate, List.append_nil, List.cons_append, List.nil_append, List.getElem?_cons_zero, List.getElem?_cons_succ, List.set_cons_zero, List.set_cons_succ, List.length_cons, List.length_nil, List.nodup_nil, List.nodup_cons, List.not_mem_nil, not_false_eq_true, and_self, Option.map, if_true, if_false, Bool.false_eq_true, Bool.not_true, Bool.not_false, Bool.and_true, Bool.true_and, Bool.false_and, Bool.and_false, finR, Sl.fin, wipeR, restR, List.getD_cons_zero, List.getD_cons_succ, decide_true, decide_false, Nat.reduceAdd, Nat.reduceLT, leD_t h1, leD_t h2]
  rfl
theorem kind_word (b : Bool) : decide (kindS b = Str.ofString "word") = !b := by cases b <;> decide +kernel
theorem is_value_ok {num : Bool} {d : PyData} (h : ValOk num d) : M_is_value [.val (.str (kindS num)), .val d] = .ok (.bool true) [.un, .un] := by
  rcases h with rfl | ⟨rfl, i, rfl, h1, h2⟩ | ⟨rfl, z, rfl, h⟩
  · unfold M_is_value mFn
    simp only [mSeq, mSet, mSetO, mSet2, mRet, mRetN, mDrop, mIfS, mIf, mB, mTru, mAnd, mOr, mNot, mAndV, mOrV, mNotV, mChain, mRaise, mNx, m1, m2, mN, mNL, mVar, mC, mNil, mCons, mLst, mTup, mDsp, mCall, mANil, mAv, mAr, mAb, hasR, hasB, toSl, VL.bs, back, mMut, heldR, setR, peekR, mLenP, mLenO, mRd, mItA, mIt, mAsg, gNm, gTp, gSeq, mYes, mSl, mPs, mPn, mKn, ok_bind, Oc.bind, Oc.opt, lenD_l, lenD_t, tupD, truD, isi_str_str, isi_str_tup, isi_str_int, isi_str_non, isi_str_lst, isi_tup_tup, isi_tup_lst, isi_tup_str, isi_tup_int, isi_tup_non, isi_lst_lst, isi_lst_tup, isi_int_int, isi_int_str, isi_int_non, isi_bool_int, isi_int_tup, isi_bool_tup, isi_bool_str, isi_bool_non, isi_lst_str, isi_lst_int, isi_lst_non, isD, isntD, isNoneD, addD_i, subD_i, seqD, appendD, List.replicate, List.append_nil, List.cons_append, List.nil_append, List.getElem?_cons_zero, List.getElem?_cons_succ, List.set_cons_zero, List.set_cons_succ, List.length_cons, List.length_nil, List.nodup_nil, List.nodup_cons, List.not_mem_nil, not_false_eq_true, and_self, Option.map, if_true, if_false, Bool.false_eq_true, Bool.not_true, Bool.not_false, Bool.and_true, Bool.true_and, Bool.false_and, Bool.and_false, finR, Sl.fin, wipeR, restR, List.getD_cons_zero, List.getD_cons_succ, decide_true, decide_false, Nat.reduceAdd, Nat.reduceLT]
    rfl
  · have e := is_whole_ok h1 h2
    unfold M_is_value mFn
    simp only [mSeq, mSet, mSetO, mSet2, mRet, mRetN, mDrop, mIfS, mIf, mB, mTru, mAnd, mOr, mNot, mAndV, mOrV, mNotV, mChain, mRaise, mNx, m1, m2, mN, mNL, mVar, mC, mNil, mCons, mLst, mTup, mDsp, mCall, mANil, mAv, mAr, mAb, hasR, hasB, toSl, VL.bs, back, mMut, heldR, setR, peekR, mLenP, mLenO, mRd, mItA, mIt, mAsg, gNm, gTp, gSeq, mYes, mSl, mPs, mPn, mKn, ok_bind, Oc.bind, Oc.opt, lenD_l, lenD_t, tupD, truD, isi_str_str, isi_str_tup, isi_str_int, isi_str_non, isi_str_lst, isi_tup_tup, isi_tup_lst, isi_tup_str, isi_tup_int, isi_tup_non, isi_lst_lst, isi_lst_tup, isi_int_int, isi_int_str, isi_int_non, isi_bool_int, isi_int_tup, isi_bool_tup, isi_bool_str, isi_bool_non, isi_lst_str, isi_lst_int, isi_lst_non, isD, isntD, isNoneD, addD_i, subD_i, seqD, appendD, List.replicate, List.append_nil, List.cons_append, List.nil_append, List.getElem?_cons_zero, List.getElem?_cons_succ, List.set_cons_zero, List.set_cons_succ, List.length_cons, List.length_nil, List.nodup_nil, List.nodup_cons, List.not_mem_nil, not_false_eq_true, and_self, Option.map, if_true, if_false, Bool.false_eq_true, Bool.not_true, Bool.not_false, Bool.and_true, Bool.true_and, Bool.false_and, Bool.and_false, finR, Sl.fin, wipeR, restR, List.getD_cons_zero, List.getD_cons_succ, decide_true, decide_false, Nat.reduceAdd, Nat.reduceLT, eqD_s, kind_word, Int.zero_sub, e]
    rfl
  · unfold M_is_value mFn
    simp only [mSeq, mSet, mSetO, mSet2, mRet, mRetN, mDrop, mIfS, mIf, mB, mTru, mAnd, mOr, mNot, mAndV, mOrV, mNotV, mChain, mRaise, mNx, m1, m2, mN, mNL, mVar, mC, mNil, mCons, mLst, mTup, mDsp, mCall, mANil, mAv, mAr, mAb, hasR, hasB, toSl, VL.bs, back, mMut, heldR, setR, peekR, mLenP, mLenO, mRd, mItA, mIt, mAsg, gNm, gTp, gSeq, mYes, mSl, mPs, mPn, mKn, ok_bind, Oc.bind, Oc.opt, lenD_l, lenD_t, tupD, truD, isi_str_str, isi_str_tup, isi_str_int, isi_str_non, isi_str_lst, isi_tup_tup, isi_tup_lst, isi_tup_str, isi_tup_int, isi_tup_non, isi_lst_lst, isi_lst_tup, isi_int_int, isi_int_str, isi_int_non, isi_bool_int, isi_int_tup, isi_bool_tup, isi_bool_str, isi_bool_non, isi_lst_str, isi_lst_int, isi_lst_non, isD, isntD, isNoneD, addD_i, subD_i, seqD, appendD, List.replicate, List.append_nil, List.cons_append, List.nil_append, List.getElem?_cons_zero, List.getElem?_cons_succ, List.set_cons_zero, List.set_cons_succ, List.length_cons, List.length_nil, List.nodup_nil, List.nodup_cons, List.not_mem_nil, not_false_eq_true, and_self, Option.map, if_true, if_false, Bool.false_eq_true, Bool.not_true, Bool.not_false, Bool.and_true, Bool.true_and, Bool.false_and, Bool.and_false, finR, Sl.fin, wipeR, restR, List.getD_cons_zero, List.getD_cons_succ, decide_true, decide_false, Nat.reduceAdd, Nat.reduceLT, eqD_s, kind_word, is_word_ok h]
    rfl
structure RowOk (cs : List Col) (r : List PyData) : Prop where
  len : r.length = cs.length
  val : ∀ (i : Nat) (c : Col) (d : PyData), cs[i]? = some c → r[i]? = some d → ValOk c.num d
theorem RowOk.gd {cs : List Col} {r : List PyData} (h : RowOk cs r) (n : Nat) : gdn (n + 1) (.tuple r) = true := by
  refine List.all_eq_true.mpr fun d hd => ?_
  obtain ⟨i, hi, e⟩ := List.getElem_of_mem hd
  have hc : i < cs.length := by have := h.len; omega
  exact (h.val i cs[i] d (List.getElem?_eq_getElem hc) (by rw [List.getElem?_eq_getElem hi, e])).gd n
theorem ix_cols {cs : List Col} {i : Nat} {c : Col} (h : cs[i]? = some c) : ixD (colsD cs) (.int (i : Int)) = some (colD c) := by
  show atI (cs.map colD) (i : Int) = _
  rw [atI_n, List.getElem?_map, h]
  rfl
theorem big6 {a b : Nat} (h : a = b) (hh : b ≤ 6) : a ≤ 16777216 := Nat.le_trans (Nat.le_of_eq h) (Nat.le_trans hh (by decide))
theorem look_row_1 {cs : List Col} {r : List PyData} (hc : ColsOk cs) (h : RowOk cs r) : mItA range1D (mCons (mN lenD (mCons (mVar 1) mNil)) mNil) [.val (colsD cs), .val (.tuple r), .un] = .ok ((List.range r.length).map fun i => .int ((i : Nat) : Int)) [.val (colsD cs), .val (.tuple r), .un] := by
  have hl := h.len
  have hh := hc.hi
  have e := range1_n r.length (big6 hl hh)
  simp only [mSeq, mSet, mSetO, mSet2, mRet, mRetN, mDrop, mIfS, mIf, mB, mTru, mAnd, mOr, mNot, mAndV, mOrV, mNotV, mChain, mRaise, mNx, m1, m2, mN, mNL, mVar, mC, mNil, mCons, mLst, mTup, mDsp, mCall, mANil, mAv, mAr, mAb, hasR, hasB, toSl, VL.bs, back, mMut, heldR, setR, peekR, mLenP, mLenO, mRd, mItA, mIt, mAsg, gNm, gTp, gSeq, mYes, mSl, mPs, mPn, mKn, ok_bind, Oc.bind, Oc.opt, lenD_l, lenD_t, tupD, truD, isi_str_str, isi_str_tup, isi_str_int, isi_str_non, isi_str_lst, isi_tup_tup, isi_tup_lst, isi_tup_str, isi_tup_int, isi_tup_non, isi_lst_lst, isi_lst_tup, isi_int_int, isi_int_str, isi_int_non, isi_bool_int, isi_int_tup, isi_bool_tup, isi_bool_str, isi_bool_non, isi_lst_str, isi_lst_int, isi_lst_non, isD, isntD, isNoneD, addD_i, subD_i, seqD, appendD, List.replicate, List.append_nil, List.cons_append, List.nil_append, List.getElem?_cons_zero, List.getElem?_cons_succ, List.set_cons_zero, List.set_cons_succ, List.length_cons, List.length_nil, List.nodup_nil, List.nodup_cons, List.not_mem_nil, not_false_eq_true, and_self, Option.map, if_true, if_false, Bool.false_eq_true, Bool.not_true, Bool.not_false, Bool.and_true, Bool.true_and, Bool.false_and, Bool.and_false, finR, Sl.fin, wipeR, restR, List.getD_cons_zero, List.getD_cons_succ, decide_true, decide_false, Nat.reduceAdd, Nat.reduceLT, e]
theorem look_row_2 {cs : List Col} {r : List PyData} (h : RowOk cs r) (i : Nat) (hi : i < r.length) : mCall M_is_value (mAv (m2 ixD (m2 ixD (mVar 0) (mVar 2)) (mC (.int 1))) (mAv (m2 ixD (mVar 1) (mVar 2)) mANil)) [.val (colsD cs), .val (.tuple r), .val (.int (i : Int))] = .ok (.bool true) [.val (colsD cs), .val (.tuple r), .val (.int (i : Int))] := by
  have hl := h.len
  have hcs : cs[i]? = some cs[i] := List.getElem?_eq_getElem (by omega)
  have hr : r[i]? = some r[i] := List.getElem?_eq_getElem hi
  have e0 := ix_cols hcs
  have e1 : ixD (.tuple r) (.int (i : Int)) = some r[i] := by show atI r (i : Int) = _; rw [atI_n, hr]
  have e2 : ixD (colD cs[i]) (.int 1) = some (.str (kindS cs[i].num)) := rfl
  have e3 := is_value_ok (h.val i _ _ hcs hr)
  simp only [mSeq, mSet, mSetO, mSet2, mRet, mRetN, mDrop, mIfS, mIf, mB, mTru, mAnd, mOr, mNot, mAndV, mOrV, mNotV, mChain, mRaise, mNx, m1, m2, mN, mNL, mVar, mC, mNil, mCons, mLst, mTup, mDsp, mCall, mANil, mAv, mAr, mAb, hasR, hasB, toSl, VL.bs, back, mMut, heldR, setR, peekR, mLenP, mLenO, mRd, mItA, mIt, mAsg, gNm, gTp, gSeq, mYes, mSl, mPs, mPn, mKn, ok_bind, Oc.bind, Oc.opt, lenD_l, lenD_t, tupD, truD, isi_str_str, isi_str_tup, isi_str_int, isi_str_non, isi_str_lst, isi_tup_tup, isi_tup_lst, isi_tup_str, isi_tup_int, isi_tup_non, isi_lst_lst, isi_lst_tup, isi_int_int, isi_int_str, isi_int_non, isi_bool_int, isi_int_tup, isi_bool_tup, isi_bool_str, isi_bool_non, isi_lst_str, isi_lst_int, isi_lst_non, isD, isntD, isNoneD, addD_i, subD_i, seqD, appendD, List.replicate, List.append_nil, List.cons_append, List.nil_append, List.getElem?_cons_zero, List.getElem?_cons_succ, List.set_cons_zero, List.set_cons_succ, List.length_cons, List.length_nil, List.nodup_nil, List.nodup_cons, List.not_mem_nil, not_false_eq_true, and_self, Option.map, if_true, if_false, Bool.false_eq_true, Bool.not_true, Bool.not_false, Bool.and_true, Bool.true_and, Bool.false_and, Bool.and_false, finR, Sl.fin, wipeR, restR, List.getD_cons_zero, List.getD_cons_succ, decide_true, decide_false, Nat.reduceAdd, Nat.reduceLT, e0, e1, e2, e3]
theorem look_row_3 {cs : List Col} {r : List PyData} (hc : ColsOk cs) (h : RowOk cs r) : mLc (mItA range1D (mCons (mN lenD (mCons (mVar 1) mNil)) mNil)) (gNm 2) mYes (mCall M_is_value (mAv (m2 ixD (m2 ixD (mVar 0) (mVar 2)) (mC (.int 1))) (mAv (m2 ixD (mVar 1) (mVar 2)) mANil))) [2] [.val (colsD cs), .val (.tuple r), .un] = .ok ((List.range r.length).map fun _ => .bool true) [.val (colsD cs), .val (.tuple r), .un] := by
  have hl := h.len
  have hh := hc.hi
  have f1 := mLc_map (ρ := [.val (colsD cs), .val (.tuple r), .un]) (ρ1 := [.val (colsD cs), .val (.tuple r), .un]) (g := gNm 2) (vs := [2]) (List.range r.length) (fun i => .int ((i : Nat) : Int)) (fun _ => .bool true) (look_row_1 hc h) rfl
    (fun i hi => ⟨[.val (colsD cs), .val (.tuple r), .val (.int (i : Int))], rfl, look_row_2 h i (List.mem_range.mp hi), rfl, rfl⟩) (by rw [List.length_range]; exact big6 hl hh)
  exact f1
theorem look_row_ok {cs : List Col} {r : List PyData} (hc : ColsOk cs) (h : RowOk cs r) : M_look_row [.val (colsD cs), .val (.tuple r)] = .ok .none [.un, .un] := by
  have hl := h.len
  have hh := hc.hi
  have f1 := look_row_3 hc h
  have e4 := allD_map (List.range r.length) (fun _ => true) (fun _ _ => rfl)
  have e6 : lenD [colsD cs] = some (.int (cs.length : Nat)) := by show some (PyData.int ((cs.map colD).length : Nat)) = _; rw [List.length_map]
  have e7 : neD (.int (r.length : Nat)) (.int (cs.length : Nat)) = some (.bool false) := by rw [neD_i, hl]; simp
  unfold M_look_row mFn
  simp only [mSeq, mSet, mSetO, mSet2, mRet, mRetN, mDrop, mIfS, mIf, mB, mTru, mAnd, mOr, mNot, mAndV, mOrV, mNotV, mChain, mRaise, mNx, m1, m2, mN, mNL, mVar, mC, mNil, mCons, mLst, mTup, mDsp, mCall, mANil, mAv, mAr, mAb, hasR, hasB, toSl, VL.bs, back, mMut, heldR, setR, peekR, mLenP, mLenO, mRd, mItA, mIt, mAsg, gNm, gTp, gSeq, mYes, mSl, mPs, mPn, mKn, ok_bind, Oc.bind, Oc.opt, lenD_l, lenD_t, tupD, truD, isi_str_str, isi_str_tup, isi_str_int, isi_str_non, isi_str_lst, isi_tup_tup, isi_tup_lst, isi_tup_str, isi_tup_int, isi_tup_non, isi_lst_lst, isi_lst_tup, isi_int_int, isi_int_str, isi_int_non, isi_bool_int, isi_int_tup, isi_bool_tup, isi_bool_str, isi_bool_non, isi_lst_str, isi_lst_int, isi_lst_non, isD, isntD, isNoneD, addD_i, subD_i, seqD, appendD, List.replicate, List.append_nil, List.cons_append, List.nil_append, List.getElem?_cons_zero, List.getElem?_cons_succ, List.set_cons_zero, List.set_cons_succ, List.length_cons, List.length_nil, List.nodup_nil, List.nodup_cons, List.not_mem_nil, not_false_eq_true, and_self, Option.map, if_true, if_false, Bool.false_eq_true, Bool.not_true, Bool.not_false, Bool.and_true, Bool.true_and, Bool.false_and, Bool.and_false, finR, Sl.fin, wipeR, restR, List.getD_cons_zero, List.getD_cons_succ, decide_true, decide_false, Nat.reduceAdd, Nat.reduceLT, f1, e4, e6, e7]
  rfl
/-! ### tables -/
def rowsD (rs : List (List PyData)) : PyData := .list (rs.map .tuple)
def tabD (cs : List Col) (rs : List (List PyData)) : PyData := .tuple [colsD cs, rowsD rs]
structure TabOk (cs : List Col) (rs : List (List PyData)) : Prop where
  cols : ColsOk cs
  few : rs.length ≤ 24
  rows : ∀ r ∈ rs, RowOk cs r
theorem look_table_ok {cs : List Col} {rs : List (List PyData)} (h : TabOk cs rs) : M_look_table [.val (tabD cs rs)] = .ok .none [.un] := by
  have e0 : ixD (tabD cs rs) (.int 0) = some (colsD cs) := rfl
  have e1 : ixD (tabD cs rs) (.int 1) = some (rowsD rs) := rfl
  have e2 : isiD "tuple" (tabD cs rs) = some (.bool true) := rfl
  have e3 : isiD "list" (rowsD rs) = some (.bool true) := rfl
  have e4 : lenD [tabD cs rs] = some (.int 2) := rfl
  have e5 : lenD [rowsD rs] = some (.int (rs.length : Nat)) := by show some (PyData.int ((rs.map PyData.tuple).length : Nat)) = _; rw [List.length_map]
  have e6 : gtD (.int (rs.length : Nat)) (.int 24) = some (.bool false) := gtD_f (by have := h.few; omega)
  have e7 : neD (.int 2) (.int 2) = some (.bool false) := by rw [neD_i]; rfl
  have e8 := look_columns_ok h.cols
  have e9 : mIt (m2 ixD (mVar 0) (mC (.int 1))) [.val (tabD cs rs), .un] = .ok (rs.map .tuple) [.val (tabD cs rs), .un] := rfl
  obtain ⟨fl, ρ, ef, rfl, s, hs, rfl⟩ := mFor_inv (fs := mIt (m2 ixD (mVar 0) (mC (.int 1)))) (g := gNm 1) (m := mDrop (mCall M_look_row (mAv (m2 ixD (mVar 0) (mC (.int 0))) (mAv (mVar 1) mANil)))) (P := fun fl ρ => fl = .nx ∧ ∃ s : Sl, s.fin = .un ∧ ρ = [.val (tabD cs rs), s])
    (fun _ ρ => ∃ s : Sl, s.fin = .un ∧ ρ = [.val (tabD cs rs), s]) (rs.map .tuple) e9 ⟨.un, rfl, rfl⟩
    (fun i d ρ hd ⟨s, _, e⟩ => by
      subst e
      rw [List.getElem?_map] at hd
      obtain ⟨r, hr, rfl⟩ := Option.map_eq_some_iff.mp hd
      have e := look_row_ok h.cols (h.rows r (List.mem_of_getElem? hr))
      refine ⟨[.val (tabD cs rs), .val (.tuple r)], rfl, .nx, [.val (tabD cs rs), .val (.tuple r)], ?_, _, rfl, rfl⟩
      simp only [mSeq, mSet, mSetO, mSet2, mRet, mRetN, mDrop, mIfS, mIf, mB, mTru, mAnd, mOr, mNot, mAndV, mOrV, mNotV, mChain, mRaise, mNx, m1, m2, mN, mNL, mVar, mC, mNil, mCons, mLst, mTup, mDsp, mCall, mANil, mAv, mAr, mAb, hasR, hasB, toSl, VL.bs, back, mMut, heldR, setR, peekR, mLenP, mLenO, mRd, mItA, mIt, mAsg, gNm, gTp, gSeq, mYes, mSl, mPs, mPn, mKn, ok_bind, Oc.bind, Oc.opt, lenD_l, lenD_t, tupD, truD, isi_str_str, isi_str_tup, isi_str_int, isi_str_non, isi_str_lst, isi_tup_tup, isi_tup_lst, isi_tup_str, isi_tup_int, isi_tup_non, isi_lst_lst, isi_lst_tup, isi_int_int, isi_int_str, isi_int_non, isi_bool_int, isi_int_tup, isi_bool_tup, isi_bool_str, isi_bool_non, isi_lst_str, isi_lst_int, isi_lst_non, isD, isntD, isNoneD, addD_i, subD_i, seqD, appendD, List.replicate, List.append_nil, List.cons_append, List.nil_append, List.getElem?_cons_zero, List.getElem?_cons_succ, List.set_cons_zero, List.set_cons_succ, List.length_cons, List.length_nil, List.nodup_nil, List.nodup_cons, List.not_mem_nil, not_false_eq_true, and_self, Option.map, if_true, if_false, Bool.false_eq_true, Bool.not_true, Bool.not_false, Bool.and_true, Bool.true_and, Bool.false_and, Bool.and_false, finR, Sl.fin, wipeR, restR, List.getD_cons_zero, List.getD_cons_succ, decide_true, decide_false, Nat.reduceAdd, Nat.reduceLT, e0, e]) (fun ρ h => ⟨rfl, h⟩)
  unfold M_look_table mFn
  simp only [mSeq, mSet, mSetO, mSet2, mRet, mRetN, mDrop, mIfS, mIf, mB, mTru, mAnd, mOr, mNot, mAndV, mOrV, mNotV, mChain, mRaise, mNx, m1, m2, mN, mNL, mVar, mC, mNil, mCons, mLst, mTup, mDsp, mCall, mANil, mAv, mAr, mAb, hasR, hasB, toSl, VL.bs, back, mMut, heldR, setR, peekR, mLenP, mLenO, mRd, mItA, mIt, mAsg, gNm, gTp, gSeq, mYes, mSl, mPs, mPn, mKn, ok_bind, Oc.bind, Oc.opt, lenD_l, lenD_t, tupD, truD, isi_str_str, isi_str_tup, isi_str_int, isi_str_non, isi_str_lst, isi_tup_tup, isi_tup_lst, isi_tup_str, isi_tup_int, isi_tup_non, isi_lst_lst, isi_lst_tup, isi_int_int, isi_int_str, isi_int_non, isi_bool_int, isi_int_tup, isi_bool_tup, isi_bool_str, isi_bool_non, isi_lst_str, isi_lst_int, isi_lst_non, isD, isntD, isNoneD, addD_i, subD_i, seqD, appendD, List.replicate, List.append_nil, List.cons_append, List.nil_append, List.getElem?_cons_zero, List.getElem?_cons_succ, List.set_cons_zero, List.set_cons_succ, List.length_cons, List.length_nil, List.nodup_nil, List.nodup_cons, List.not_mem_nil, not_false_eq_true, and_self, Option.map, if_true, if_false, Bool.false_eq_true, Bool.not_true, Bool.not_false, Bool.and_true, Bool.true_and, Bool.false_and, Bool.and_false, finR, Sl.fin, wipeR, restR, List.getD_cons_zero, List.getD_cons_succ, decide_true, decide_false, Nat.reduceAdd, Nat.reduceLT, e0, e1, e2, e3, e4, e5, e6, e7, e8, ef, hs]
  rfl
end VL

set_option Elab.async false
set_option linter.all false
set_option maxRecDepth 100000
set_option maxHeartbeats 4000000
/-! VM3: what the laws draw: words, values, rows, columns, tables. -/
namespace VL
open PySem L2
theorem draw_ex (ns : List Int) (k : Nat) (m : Int) (hk : k < 1000000) (hm : 0 < m) : ∃ i : Nat, (i : Int) < m ∧ L_draw [.scr ns, .bor (town k), .val (.int m)] = .ok (.int (i : Int)) [.un, .bor (town (k + 1)), .un] := by
  obtain ⟨a, b⟩ := draw_in ns ((k : Int) + 1) hm
  refine ⟨(drawI ns ((k : Int) + 1) m).toNat, by omega, ?_⟩
  rw [draw_ok ns k m hk hm, Int.toNat_of_nonneg a]
/-! ### words -/
theorem joinL_nil : ∀ cs : List Nat, TL.joinL [] (cs.map fun c => [c]) = cs
  | [] => rfl
  | [c] => rfl
  | c :: d :: cs => by
    have := joinL_nil (d :: cs)
    show [c] ++ ([] ++ TL.joinL [] ((d :: cs).map fun c => [c])) = _
    rw [this]
    rfl
theorem strs_signs : ∀ cs : List Nat, strsD (cs.map fun c => .str ⟨#[c]⟩) = some (cs.map fun c => SX.S [c])
  | [] => rfl
  | c :: cs => by
    show (strsD (cs.map fun c => .str ⟨#[c]⟩)).map _ = _
    rw [strs_signs cs]
    rfl
theorem empty_str : Str.ofString "" = SX.S [] := by decide +kernel
theorem join_signs {cs : List Nat} (h : cs.length ≤ 1000) : joinD (Str.ofString "") (.list (cs.map fun c => .str ⟨#[c]⟩)) = some (.str (SX.S cs)) := by
  show (match strsD (cs.map fun c => .str ⟨#[c]⟩) with | some ys => _ | none => _) = _
  rw [strs_signs]
  have e1 : (cs.map fun c => SX.S [c]) = (cs.map fun c => [c]).map SX.S := by rw [List.map_map]; rfl
  have e2 : Txt.join (Str.ofString "") (cs.map fun c => SX.S [c]) = SX.S cs := by rw [e1, empty_str, SX.join_S, joinL_nil]
  have e3 : ((cs.map fun c => SX.S [c]).map (·.length)).sum = cs.length := by
    rw [List.map_map]
    clear e1 e2 h
    induction cs with
    | nil => rfl
    | cons c cs ih =>
      simp only [List.map_cons, List.sum_cons, ih, List.length_cons]
      show 1 + _ = _
      omega
  show (if decide (((cs.map fun c => SX.S [c]).map (·.length)).sum + (cs.map fun c => SX.S [c]).length * (Str.ofString "").length ≤ 16777216) then _ else _) = _
  rw [e2, if_pos]
  rw [e3, List.length_map, empty_str]
  refine decide_eq_true ?_
  show cs.length + cs.length * 0 ≤ _
  omega
theorem word_S {cs : List Nat} (h1 : 1 ≤ cs.length) (h2 : cs.length ≤ 8) (h : ∀ c ∈ cs, c ∈ smallC) : wordB (SX.S cs) = true := by
  unfold wordB
  have e : (SX.S cs).length = cs.length := SX.S_len cs
  rw [e, decide_eq_true h1, decide_eq_true h2]
  simp only [Bool.true_and, List.all_eq_true]
  intro c hc
  exact List.contains_iff_mem.mpr (h c hc)
theorem ix_small {i : Nat} (h : i < 26) : ixD (.str (Str.ofString "abcdefghijklmnopqrstuvwxyz")) (.int (i : Int)) = some (.str ⟨#[smallC[i]'h]⟩) := by
  rw [small_str]
  show (atI smallC (i : Int)).map (fun c => PyData.str ⟨#[c]⟩) = _
  rw [atI_n, List.getElem?_eq_getElem (show i < smallC.length from h)]
  rfl
def wordsD : List PyData := [.str "a", .str "ab", .str "abc", .str "b", .str "ba", .str "count", .str "band"]
theorem words_ok : ∀ d ∈ wordsD, ∃ z, d = .str z ∧ wordB z = true := by
  intro d hd
  simp only [wordsD, List.mem_cons, List.not_mem_nil, or_false] at hd
  rcases hd with rfl | rfl | rfl | rfl | rfl | rfl | rfl <;> exact ⟨_, rfl, by decide +kernel⟩
theorem word_ok (ns : List Int) (k : Nat) (hk : k + 10 ≤ 1000000) : ∃ z k', wordB z = true ∧ k ≤ k' ∧ k' ≤ k + 10 ∧ L_word [.scr ns, .bor (town k)] = .ok (.str z) [.un, .bor (town k')] := by
  obtain ⟨i, hi, e1⟩ := draw_ex ns k 8 (by omega) (by decide)
  by_cases h : (0 : Int) < i
  · obtain ⟨j, d, hj, e2⟩ := pick_ok ns (k + 1) wordsD (by omega) (by simp [wordsD])
    obtain ⟨z, rfl, hz⟩ := words_ok d (List.mem_of_getElem? hj)
    refine ⟨z, k + 2, hz, by omega, by omega, ?_⟩
    have e3 : fits 7 = true := rfl
    unfold wordsD at e2
    unfold L_word mFn
    simp only [mSeq, mSet, mSetO, mSet2, mRet, mRetN, mDrop, mIfS, mIf, mB, mTru, mAnd, mOr, mNot, mAndV, mOrV, mNotV, mChain, mRaise, mNx, m1, m2, mN, mNL, mVar, mC, mNil, mCons, mLst, mTup, mDsp, mCall, mANil, mAv, mAr, mAb, hasR, hasB, toSl, VL.bs, back, mMut, heldR, setR, peekR, mLenP, mLenO, mRd, mItA, mIt, mAsg, gNm, gTp, gSeq, mYes, mSl, mPs, mPn, mKn, ok_bind, Oc.bind, Oc.opt, lenD_l, lenD_t, tupD, truD, isi_str_str, isi_str_tup, isi_str_int, isi_str_non, isi_str_lst, isi_tup_tup, isi_tup_lst, isi_tup_str, isi_tup_int, isi_tup_non, isi_lst_lst, isi_lst_tup, isi_int_int, isi_int_str, isi_int_non, isi_bool_int, isi_int_tup, isi_bool_tup, isi_bool_str, isi_bool_non, isi_lst_str, isi_lst_int, isi_lst_non, isD, isntD, isNoneD, addD_i, subD_i, seqD, appendD, List.replicate, List.append_nil, List.cons_append, List.nil_append, List.getElem?_cons_zero, List.getElem?_cons_succ, List.set_cons_zero, List.set_cons_succ, List.length_cons, List.length_nil, List.nodup_nil, List.nodup_cons, List.not_mem_nil, not_false_eq_true, and_self, Option.map, if_true, if_false, Bool.false_eq_true, Bool.not_true, Bool.not_false, Bool.and_true, Bool.true_and, Bool.false_and, Bool.and_false, finR, Sl.fin, wipeR, restR, List.getD_cons_zero, List.getD_cons_succ, decide_true, decide_false, Nat.reduceAdd, Nat.reduceLT, e1, gtD_t h, e2, e3]
    rfl
  · obtain ⟨j, hj, e2⟩ := draw_ex ns (k + 1) 8 (by omega) (by decide)
    have hr : range1D [.int (1 + (j : Int))] = some ((List.range (1 + j)).map fun i => .int ((i : Nat) : Int)) := by
      have := range1_n (1 + j) (by omega)
      rwa [show ((1 + j : Nat) : Int) = 1 + (j : Int) by omega] at this
    let A : Sl := .val (.str (Str.ofString "abcdefghijklmnopqrstuvwxyz"))
    obtain ⟨acc, ρ, ef, k', h1, h2, rfl, cs, rfl, h3, h4⟩ := mLc_invY (fs := mItA range1D (mCons (m2 addD (mC (.int 1)) (mCall L_draw (mAr 0 (mAb 1 (mAv (mC (.int 8)) mANil))))) mNil)) (g := gNm 3) (f := m2 ixD (mVar 2) (mCall L_draw (mAr 0 (mAb 1 (mAv (mC (.int 26)) mANil))))) (vs := [3])
      (ρ := [.scr ns, .bor (town (k + 1)), A, .un]) (ρ1 := [.scr ns, .bor (town (k + 2)), A, .un])
      (P := fun acc ρ => ∃ k', k + 2 ≤ k' ∧ k' ≤ k + 2 + (1 + j) ∧ ρ = [.scr ns, .bor (town k'), A, .un] ∧ ∃ cs : List Nat, acc = cs.map (fun c => .str ⟨#[c]⟩) ∧ cs.length = 1 + j ∧ ∀ c ∈ cs, c ∈ smallC)
      (fun i acc ρ => ∃ k', k + 2 ≤ k' ∧ k' ≤ k + 2 + i ∧ ρ = [.scr ns, .bor (town k'), A, .un] ∧ ∃ cs : List Nat, acc = cs.map (fun c => .str ⟨#[c]⟩) ∧ cs.length = i ∧ ∀ c ∈ cs, c ∈ smallC)
      ((List.range (1 + j)).map fun i => .int ((i : Nat) : Int)) (by simp only [mSeq, mSet, mSetO, mSet2, mRet, mRetN, mDrop, mIfS, mIf, mB, mTru, mAnd, mOr, mNot, mAndV, mOrV, mNotV, mChain, mRaise, mNx, m1, m2, mN, mNL, mVar, mC, mNil, mCons, mLst, mTup, mDsp, mCall, mANil, mAv, mAr, mAb, hasR, hasB, toSl, VL.bs, back, mMut, heldR, setR, peekR, mLenP, mLenO, mRd, mItA, mIt, mAsg, gNm, gTp, gSeq, mYes, mSl, mPs, mPn, mKn, ok_bind, Oc.bind, Oc.opt, lenD_l, lenD_t, tupD, truD, isi_str_str, isi_str_tup, isi_str_int, isi_str_non, isi_str_lst, isi_tup_tup, isi_tup_lst, isi_tup_str, isi_tup_int, isi_tup_non, isi_lst_lst, isi_lst_tup, isi_int_int, isi_int_str, isi_int_non, isi_bool_int, isi_int_tup, isi_bool_tup, isi_bool_str, isi_bool_non, isi_lst_str, isi_lst_int, isi_lst_non, isD, isntD, isNoneD, addD_i, subD_i, seqD, appendD, List.replicate, List.append_nil, List.cons_append, List.nil_append, List.getElem?_cons_zero, List.getElem?_cons_succ, List.set_cons_zero, List.set_cons_succ, List.length_cons, List.length_nil, List.nodup_nil, List.nodup_cons, List.not_mem_nil, not_false_eq_true, and_self, Option.map, if_true, if_false, Bool.false_eq_true, Bool.not_true, Bool.not_false, Bool.and_true, Bool.true_and, Bool.false_and, Bool.and_false, finR, Sl.fin, wipeR, restR, List.getD_cons_zero, List.getD_cons_succ, decide_true, decide_false, Nat.reduceAdd, Nat.reduceLT, e2, hr]) (by simp; omega) rfl
      ⟨k + 2, by omega, by omega, rfl, [], rfl, rfl, by simp⟩
      (by
        rintro i d ρ acc hd hl ⟨k', h1, h2, rfl, cs, rfl, h3, h4⟩
        have hi : i < 1 + j := by
          have := (List.getElem?_eq_some_iff.mp hd).1
          simpa using this
        obtain ⟨q, hq, e4⟩ := draw_ex ns k' 26 (by omega) (by decide)
        have hq' : q < 26 := by omega
        have e5 := ix_small hq'
        refine ⟨[.scr ns, .bor (town k'), A, .val d], rfl, .str ⟨#[smallC[q]'hq']⟩, [.scr ns, .bor (town (k' + 1)), A, .val d], ?_, rfl, k' + 1, by omega, by omega, rfl, cs ++ [smallC[q]'hq'], by simp, by simp [h3], ?_⟩
        · show m2 ixD _ _ [_, _, .val (.str (Str.ofString "abcdefghijklmnopqrstuvwxyz")), _] = _
          simp only [mSeq, mSet, mSetO, mSet2, mRet, mRetN, mDrop, mIfS, mIf, mB, mTru, mAnd, mOr, mNot, mAndV, mOrV, mNotV, mChain, mRaise, mNx, m1, m2, mN, mNL, mVar, mC, mNil, mCons, mLst, mTup, mDsp, mCall, mANil, mAv, mAr, mAb, hasR, hasB, toSl, VL.bs, back, mMut, heldR, setR, peekR, mLenP, mLenO, mRd, mItA, mIt, mAsg, gNm, gTp, gSeq, mYes, mSl, mPs, mPn, mKn, ok_bind, Oc.bind, Oc.opt, lenD_l, lenD_t, tupD, truD, isi_str_str, isi_str_tup, isi_str_int, isi_str_non, isi_str_lst, isi_tup_tup, isi_tup_lst, isi_tup_str, isi_tup_int, isi_tup_non, isi_lst_lst, isi_lst_tup, isi_int_int, isi_int_str, isi_int_non, isi_bool_int, isi_int_tup, isi_bool_tup, isi_bool_str, isi_bool_non, isi_lst_str, isi_lst_int, isi_lst_non, isD, isntD, isNoneD, addD_i, subD_i, seqD, appendD, List.replicate, List.append_nil, List.cons_append, List.nil_append, List.getElem?_cons_zero, List.getElem?_cons_succ, List.set_cons_zero, List.set_cons_succ, List.length_cons, List.length_nil, List.nodup_nil, List.nodup_cons, List.not_mem_nil, not_false_eq_true, and_self, Option.map, if_true, if_false, Bool.false_eq_true, Bool.not_true, Bool.not_false, Bool.and_true, Bool.true_and, Bool.false_and, Bool.and_false, finR, Sl.fin, wipeR, restR, List.getD_cons_zero, List.getD_cons_succ, decide_true, decide_false, Nat.reduceAdd, Nat.reduceLT, e4, e5]
          rfl
        · intro c hc
          rcases List.mem_append.mp hc with hc | hc
          · exact h4 c hc
          · rw [List.mem_singleton.mp hc]; exact List.getElem_mem _)
      (by
        rintro acc ρ ⟨k', h1, h2, rfl, cs, rfl, h3, h4⟩
        simp only [List.length_map, List.length_range] at h2 h3
        exact ⟨k', h1, h2, rfl, cs, rfl, h3, h4⟩)
    refine ⟨SX.S cs, k', word_S (by omega) (by omega) h4, by omega, by omega, ?_⟩
    have e6 := join_signs (cs := cs) (by omega)
    have e7 : mLc _ _ _ _ _ [Sl.scr ns, .bor (town (k + 1)), .val (.str (Str.ofString "abcdefghijklmnopqrstuvwxyz")), .un] = _ := ef
    unfold L_word mFn
    simp only [mSeq, mSet, mSetO, mSet2, mRet, mRetN, mDrop, mIfS, mIf, mB, mTru, mAnd, mOr, mNot, mAndV, mOrV, mNotV, mChain, mRaise, mNx, m1, m2, mN, mNL, mVar, mC, mNil, mCons, mLst, mTup, mDsp, mCall, mANil, mAv, mAr, mAb, hasR, hasB, toSl, VL.bs, back, mMut, heldR, setR, peekR, mLenP, mLenO, mRd, mItA, mIt, mAsg, gNm, gTp, gSeq, mYes, mSl, mPs, mPn, mKn, ok_bind, Oc.bind, Oc.opt, lenD_l, lenD_t, tupD, truD, isi_str_str, isi_str_tup, isi_str_int, isi_str_non, isi_str_lst, isi_tup_tup, isi_tup_lst, isi_tup_str, isi_tup_int, isi_tup_non, isi_lst_lst, isi_lst_tup, isi_int_int, isi_int_str, isi_int_non, isi_bool_int, isi_int_tup, isi_bool_tup, isi_bool_str, isi_bool_non, isi_lst_str, isi_lst_int, isi_lst_non, isD, isntD, isNoneD, addD_i, subD_i, seqD, appendD, List.replicate, List.append_nil, List.cons_append, List.nil_append, List.getElem?_cons_zero, List.getElem?_cons_succ, List.set_cons_zero, List.set_cons_succ, List.length_cons, List.length_nil, List.nodup_nil, List.nodup_cons, List.not_mem_nil, not_false_eq_true, and_self, Option.map, if_true, if_false, Bool.false_eq_true, Bool.not_true, Bool.not_false, Bool.and_true, Bool.true_and, Bool.false_and, Bool.and_false, finR, Sl.fin, wipeR, restR, List.getD_cons_zero, List.getD_cons_succ, decide_true, decide_false, Nat.reduceAdd, Nat.reduceLT, mStr1, e1, gtD_f h, e7, e6]
    rfl
/-! ### values -/
theorem value_ok (ns : List Int) (k : Nat) (num : Bool) (hk : k + 12 ≤ 1000000) : ∃ d k', ValOk num d ∧ k ≤ k' ∧ k' ≤ k + 12 ∧ L_value [.scr ns, .bor (town k), .val (.str (kindS num))] = .ok d [.un, .bor (town k'), .un] := by
  obtain ⟨i, hi, e1⟩ := draw_ex ns k 6 (by omega) (by decide)
  by_cases h : (i : Int) = 0
  · refine ⟨.none, k + 1, .inl rfl, by omega, by omega, ?_⟩
    have e2 : eqD (.int (i : Int)) (.int 0) = some (.bool true) := by rw [eqD_i, decide_eq_true h]
    unfold L_value mFn
    simp only [mSeq, mSet, mSetO, mSet2, mRet, mRetN, mDrop, mIfS, mIf, mB, mTru, mAnd, mOr, mNot, mAndV, mOrV, mNotV, mChain, mRaise, mNx, m1, m2, mN, mNL, mVar, mC, mNil, mCons, mLst, mTup, mDsp, mCall, mANil, mAv, mAr, mAb, hasR, hasB, toSl, VL.bs, back, mMut, heldR, setR, peekR, mLenP, mLenO, mRd, mItA, mIt, mAsg, gNm, gTp, gSeq, mYes, mSl, mPs, mPn, mKn, ok_bind, Oc.bind, Oc.opt, lenD_l, lenD_t, tupD, truD, isi_str_str, isi_str_tup, isi_str_int, isi_str_non, isi_str_lst, isi_tup_tup, isi_tup_lst, isi_tup_str, isi_tup_int, isi_tup_non, isi_lst_lst, isi_lst_tup, isi_int_int, isi_int_str, isi_int_non, isi_bool_int, isi_int_tup, isi_bool_tup, isi_bool_str, isi_bool_non, isi_lst_str, isi_lst_int, isi_lst_non, isD, isntD, isNoneD, addD_i, subD_i, seqD, appendD, List.replicate, List.append_nil, List.cons_append, List.nil_append, List.getElem?_cons_zero, List.getElem?_cons_succ, List.set_cons_zero, List.set_cons_succ, List.length_cons, List.length_nil, List.nodup_nil, List.nodup_cons, List.not_mem_nil, not_false_eq_true, and_self, Option.map, if_true, if_false, Bool.false_eq_true, Bool.not_true, Bool.not_false, Bool.and_true, Bool.true_and, Bool.false_and, Bool.and_false, finR, Sl.fin, wipeR, restR, List.getD_cons_zero, List.getD_cons_succ, decide_true, decide_false, Nat.reduceAdd, Nat.reduceLT, e1, e2]
    rfl
  · have e2 : eqD (.int (i : Int)) (.int 0) = some (.bool false) := by rw [eqD_i, decide_eq_false h]
    cases num with
    | false =>
      obtain ⟨z, k', hz, h1, h2, e3⟩ := word_ok ns (k + 1) (by omega)
      refine ⟨.str z, k', .inr (.inr ⟨rfl, z, rfl, hz⟩), by omega, by omega, ?_⟩
      unfold L_value mFn
      simp only [mSeq, mSet, mSetO, mSet2, mRet, mRetN, mDrop, mIfS, mIf, mB, mTru, mAnd, mOr, mNot, mAndV, mOrV, mNotV, mChain, mRaise, mNx, m1, m2, mN, mNL, mVar, mC, mNil, mCons, mLst, mTup, mDsp, mCall, mANil, mAv, mAr, mAb, hasR, hasB, toSl, VL.bs, back, mMut, heldR, setR, peekR, mLenP, mLenO, mRd, mItA, mIt, mAsg, gNm, gTp, gSeq, mYes, mSl, mPs, mPn, mKn, ok_bind, Oc.bind, Oc.opt, lenD_l, lenD_t, tupD, truD, isi_str_str, isi_str_tup, isi_str_int, isi_str_non, isi_str_lst, isi_tup_tup, isi_tup_lst, isi_tup_str, isi_tup_int, isi_tup_non, isi_lst_lst, isi_lst_tup, isi_int_int, isi_int_str, isi_int_non, isi_bool_int, isi_int_tup, isi_bool_tup, isi_bool_str, isi_bool_non, isi_lst_str, isi_lst_int, isi_lst_non, isD, isntD, isNoneD, addD_i, subD_i, seqD, appendD, List.replicate, List.append_nil, List.cons_append, List.nil_append, List.getElem?_cons_zero, List.getElem?_cons_succ, List.set_cons_zero, List.set_cons_succ, List.length_cons, List.length_nil, List.nodup_nil, List.nodup_cons, List.not_mem_nil, not_false_eq_true, and_self, Option.map, if_true, if_false, Bool.false_eq_true, Bool.not_true, Bool.not_false, Bool.and_true, Bool.true_and, Bool.false_and, Bool.and_false, finR, Sl.fin, wipeR, restR, List.getD_cons_zero, List.getD_cons_succ, decide_true, decide_false, Nat.reduceAdd, Nat.reduceLT, e1, e2, eqD_s, kind_word, e3]
      rfl
    | true =>
      obtain ⟨j, hj, e3⟩ := draw_ex ns (k + 1) 100 (by omega) (by decide)
      obtain ⟨q, d, hq, e4⟩ := pick_ok ns (k + 2) [.int 0, .int 1, .int 1, .int 2, .int 7, .int (0 - 1), .int (0 - 7), .int 1000000, .int (0 - 1000000), .int ((j : Int) - 50)] (by omega) (by simp)
      refine ⟨d, k + 3, ?_, by omega, by omega, ?_⟩
      · have hd := List.mem_of_getElem? hq
        simp only [List.mem_cons, List.not_mem_nil, or_false] at hd
        rcases hd with rfl | rfl | rfl | rfl | rfl | rfl | rfl | rfl | rfl | rfl <;> exact .inr (.inl ⟨rfl, _, rfl, by omega, by omega⟩)
      · have e5 : fits 10 = true := rfl
        unfold L_value mFn
        simp only [mSeq, mSet, mSetO, mSet2, mRet, mRetN, mDrop, mIfS, mIf, mB, mTru, mAnd, mOr, mNot, mAndV, mOrV, mNotV, mChain, mRaise, mNx, m1, m2, mN, mNL, mVar, mC, mNil, mCons, mLst, mTup, mDsp, mCall, mANil, mAv, mAr, mAb, hasR, hasB, toSl, VL.bs, back, mMut, heldR, setR, peekR, mLenP, mLenO, mRd, mItA, mIt, mAsg, gNm, gTp, gSeq, mYes, mSl, mPs, mPn, mKn, ok_bind, Oc.bind, Oc.opt, lenD_l, lenD_t, tupD, truD, isi_str_str, isi_str_tup, isi_str_int, isi_str_non, isi_str_lst, isi_tup_tup, isi_tup_lst, isi_tup_str, isi_tup_int, isi_tup_non, isi_lst_lst, isi_lst_tup, isi_int_int, isi_int_str, isi_int_non, isi_bool_int, isi_int_tup, isi_bool_tup, isi_bool_str, isi_bool_non, isi_lst_str, isi_lst_int, isi_lst_non, isD, isntD, isNoneD, addD_i, subD_i, seqD, appendD, List.replicate, List.append_nil, List.cons_append, List.nil_append, List.getElem?_cons_zero, List.getElem?_cons_succ, List.set_cons_zero, List.set_cons_succ, List.length_cons, List.length_nil, List.nodup_nil, List.nodup_cons, List.not_mem_nil, not_false_eq_true, and_self, Option.map, if_true, if_false, Bool.false_eq_true, Bool.not_true, Bool.not_false, Bool.and_true, Bool.true_and, Bool.false_and, Bool.and_false, finR, Sl.fin, wipeR, restR, List.getD_cons_zero, List.getD_cons_succ, decide_true, decide_false, Nat.reduceAdd, Nat.reduceLT, e1, e2, eqD_s, kind_word, e3, e4, e5]
        rfl
/-! ### rows -/
theorem row_ok {cs : List Col} (hc : ColsOk cs) (ns : List Int) (k : Nat) (hk : k + 72 ≤ 1000000) : ∃ r k', RowOk cs r ∧ k ≤ k' ∧ k' ≤ k + 72 ∧ L_row [.scr ns, .bor (town k), .val (colsD cs)] = .ok (.tuple r) [.un, .bor (town k'), .un] := by
  have hh := hc.hi
  obtain ⟨acc, ρ, ef, k', h1, h2, rfl, h3, h4⟩ := mLc_invY (fs := mIt (mVar 2)) (g := gTp [(gNm 3), (gNm 4)]) (f := mCall L_value (mAr 0 (mAb 1 (mAv (mVar 4) mANil)))) (vs := [3, 4])
    (ρ := [.scr ns, .bor (town k), .val (colsD cs), .un, .un]) (ρ1 := [.scr ns, .bor (town k), .val (colsD cs), .un, .un])
    (P := fun acc ρ => ∃ k', k ≤ k' ∧ k' ≤ k + 72 ∧ ρ = [.scr ns, .bor (town k'), .val (colsD cs), .un, .un] ∧ acc.length = cs.length ∧ ∀ (i : Nat) (c : Col) (d : PyData), cs[i]? = some c → acc[i]? = some d → ValOk c.num d)
    (fun i acc ρ => ∃ k', k ≤ k' ∧ k' ≤ k + 12 * i ∧ ρ = [.scr ns, .bor (town k'), .val (colsD cs), .un, .un] ∧ acc.length = i ∧ ∀ (i : Nat) (c : Col) (d : PyData), cs[i]? = some c → acc[i]? = some d → ValOk c.num d)
    (cs.map colD) rfl (by simp; omega) rfl ⟨k, by omega, by omega, rfl, rfl, by simp⟩
    (by
      rintro i d ρ acc hd hl ⟨k', h1, h2, rfl, h3, h4⟩
      rw [List.getElem?_map] at hd
      obtain ⟨c, hc, rfl⟩ := Option.map_eq_some_iff.mp hd
      have hi : i < cs.length := (List.getElem?_eq_some_iff.mp hc).1
      obtain ⟨d, k'', hv, h5, h6, e⟩ := value_ok ns k' c.num (by omega)
      refine ⟨[.scr ns, .bor (town k'), .val (colsD cs), .val (.str c.n), .val (.str (kindS c.num))], rfl, d, [.scr ns, .bor (town k''), .val (colsD cs), .val (.str c.n), .val (.str (kindS c.num))], ?_, rfl, k'', by omega, by omega, rfl, by simp [h3], ?_⟩
      · simp only [mSeq, mSet, mSetO, mSet2, mRet, mRetN, mDrop, mIfS, mIf, mB, mTru, mAnd, mOr, mNot, mAndV, mOrV, mNotV, mChain, mRaise, mNx, m1, m2, mN, mNL, mVar, mC, mNil, mCons, mLst, mTup, mDsp, mCall, mANil, mAv, mAr, mAb, hasR, hasB, toSl, VL.bs, back, mMut, heldR, setR, peekR, mLenP, mLenO, mRd, mItA, mIt, mAsg, gNm, gTp, gSeq, mYes, mSl, mPs, mPn, mKn, ok_bind, Oc.bind, Oc.opt, lenD_l, lenD_t, tupD, truD, isi_str_str, isi_str_tup, isi_str_int, isi_str_non, isi_str_lst, isi_tup_tup, isi_tup_lst, isi_tup_str, isi_tup_int, isi_tup_non, isi_lst_lst, isi_lst_tup, isi_int_int, isi_int_str, isi_int_non, isi_bool_int, isi_int_tup, isi_bool_tup, isi_bool_str, isi_bool_non, isi_lst_str, isi_lst_int, isi_lst_non, isD, isntD, isNoneD, addD_i, subD_i, seqD, appendD, List.replicate, List.append_nil, List.cons_append, List.nil_append, List.getElem?_cons_zero, List.getElem?_cons_succ, List.set_cons_zero, List.set_cons_succ, List.length_cons, List.length_nil, List.nodup_nil, List.nodup_cons, List.not_mem_nil, not_false_eq_true, and_self, Option.map, if_true, if_false, Bool.false_eq_true, Bool.not_true, Bool.not_false, Bool.and_true, Bool.true_and, Bool.false_and, Bool.and_false, finR, Sl.fin, wipeR, restR, List.getD_cons_zero, List.getD_cons_succ, decide_true, decide_false, Nat.reduceAdd, Nat.reduceLT, e]
      · intro j c' d' hc' hd'
        by_cases hj : j < acc.length
        · rw [List.getElem?_append_left hj] at hd'
          exact h4 j c' d' hc' hd'
        · rw [List.getElem?_append_right (by omega)] at hd'
          have hz : j = i := by
            by_cases z : j - acc.length = 0
            · omega
            · rw [List.getElem?_eq_none (by simp; omega)] at hd'; cases hd'
          subst hz
          rw [hc] at hc'
          cases hc'
          simp [h3] at hd'
          subst hd'
          exact hv)
    (by
      rintro acc ρ ⟨k', h1, h2, rfl, h3, h4⟩
      simp only [List.length_map] at h2 h3
      exact ⟨k', h1, by omega, rfl, h3, h4⟩)
  refine ⟨acc, k', ⟨h3, h4⟩, h1, h2, ?_⟩
  unfold L_row mFn
  simp only [mSeq, mSet, mSetO, mSet2, mRet, mRetN, mDrop, mIfS, mIf, mB, mTru, mAnd, mOr, mNot, mAndV, mOrV, mNotV, mChain, mRaise, mNx, m1, m2, mN, mNL, mVar, mC, mNil, mCons, mLst, mTup, mDsp, mCall, mANil, mAv, mAr, mAb, hasR, hasB, toSl, VL.bs, back, mMut, heldR, setR, peekR, mLenP, mLenO, mRd, mItA, mIt, mAsg, gNm, gTp, gSeq, mYes, mSl, mPs, mPn, mKn, ok_bind, Oc.bind, Oc.opt, lenD_l, lenD_t, tupD, truD, isi_str_str, isi_str_tup, isi_str_int, isi_str_non, isi_str_lst, isi_tup_tup, isi_tup_lst, isi_tup_str, isi_tup_int, isi_tup_non, isi_lst_lst, isi_lst_tup, isi_int_int, isi_int_str, isi_int_non, isi_bool_int, isi_int_tup, isi_bool_tup, isi_bool_str, isi_bool_non, isi_lst_str, isi_lst_int, isi_lst_non, isD, isntD, isNoneD, addD_i, subD_i, seqD, appendD, List.replicate, List.append_nil, List.cons_append, List.nil_append, List.getElem?_cons_zero, List.getElem?_cons_succ, List.set_cons_zero, List.set_cons_succ, List.length_cons, List.length_nil, List.nodup_nil, List.nodup_cons, List.not_mem_nil, not_false_eq_true, and_self, Option.map, if_true, if_false, Bool.false_eq_true, Bool.not_true, Bool.not_false, Bool.and_true, Bool.true_and, Bool.false_and, Bool.and_false, finR, Sl.fin, wipeR, restR, List.getD_cons_zero, List.getD_cons_succ, decide_true, decide_false, Nat.reduceAdd, Nat.reduceLT, ef]
  rfl
end VL

set_option Elab.async false
set_option linter.all false
set_option maxRecDepth 100000
set_option maxHeartbeats 4000000
/-! VM4: what the laws draw: columns, tables, two tables. -/
namespace VL
open PySem L2
theorem cutD_lo (ds : List PyData) (t : Nat) : cutD ds (some (t : Int)) none = ds.drop t := by
  unfold cutD
  rw [HT.sIx_nat, HT.sIx_none]
  by_cases h : t ≤ ds.length
  · rw [Nat.min_eq_left h, List.take_of_length_le (by rw [List.length_drop]; omega)]
  · rw [Nat.min_eq_right (by omega), List.drop_length, List.drop_eq_nil_of_le (by omega)]
    simp
theorem cutD_hi (ds : List PyData) (t : Nat) : cutD ds none (some (t : Int)) = ds.take t := by
  unfold cutD
  rw [HT.sIx_nat, HT.sIx_none]
  simp only [List.drop_zero, Nat.sub_zero]
  by_cases h : t ≤ ds.length
  · rw [Nat.min_eq_left h]
  · rw [Nat.min_eq_right (by omega), List.take_of_length_le (by omega), List.take_of_length_le (by omega)]
theorem slD_lo (ds : List PyData) (t : Nat) : slD (.list ds) (some (t : Int)) none = some (.list (ds.drop t)) := by
  show some (PyData.list (cutD ds _ _)) = _
  rw [cutD_lo]
theorem slD_hi (ds : List PyData) (t : Nat) : slD (.list ds) none (some (t : Int)) = some (.list (ds.take t)) := by
  show some (PyData.list (cutD ds _ _)) = _
  rw [cutD_hi]
theorem addD_l {a b : List PyData} (h : a.length + b.length ≤ 16777216) : addD (.list a) (.list b) = some (.list (a ++ b)) := by
  show (if fits (a.length + b.length) = true then some (PyData.list (a ++ b)) else none) = _
  rw [if_pos (show fits (a.length + b.length) = true from decide_eq_true h)]
def rot {α : Type} (xs : List α) (t : Nat) : List α := xs.drop t ++ xs.take t
theorem rot_perm {α : Type} (xs : List α) (t : Nat) : (rot xs t).Perm xs := by
  refine List.perm_append_comm.trans ?_
  rw [List.take_append_drop]
theorem rot_map {α β : Type} (f : α → β) (xs : List α) (t : Nat) : (xs.map f).drop t ++ (xs.map f).take t = (rot xs t).map f := by
  unfold rot
  rw [List.map_append, List.map_drop, List.map_take]
theorem rot_len {α : Type} (xs : List α) (t : Nat) : (rot xs t).length = xs.length := (rot_perm xs t).length_eq
def names0 : List Str := [Str.ofString "w", Str.ofString "n", Str.ofString "word", Str.ofString "size", Str.ofString "of", Str.ofString "abcdefgh"]
theorem names0_nd : names0.Nodup := by decide +kernel
theorem names0_wd : ∀ z ∈ names0, wordB z = true := by decide +kernel
def colAt (N : List Str) (K : List Bool) (i : Nat) : Col := ⟨N.getD i ⟨#[]⟩, K.getD i false⟩
theorem ix_list {α : Type} {f : α → PyData} {xs : List α} {i : Nat} {x : α} (h : xs[i]? = some x) : ixD (.list (xs.map f)) (.int (i : Int)) = some (f x) := by
  show atI (xs.map f) (i : Int) = _
  rw [atI_n, List.getElem?_map, h]
  rfl
theorem names_take (N : List Str) (K : List Bool) : ∀ m, m ≤ N.length → ((List.range m).map (colAt N K)).map (·.n) = N.take m := by
  intro m hm
  apply List.ext_getElem?
  intro i
  rw [List.getElem?_map, List.getElem?_map]
  by_cases h : i < m
  · rw [List.getElem?_range h, List.getElem?_take_of_lt h, List.getElem?_eq_getElem (by omega)]
    show some (N.getD i _) = _
    rw [List.getD_eq_getElem?_getD, List.getElem?_eq_getElem (by omega)]
    rfl
  · rw [List.getElem?_eq_none (by simp; omega), List.getElem?_eq_none (by simp; omega)]
    rfl
theorem cols_rot {N : List Str} {K : List Bool} {m t : Nat} (h1 : 1 ≤ m) (h2 : m ≤ 6) (hN : N.Perm names0) : ColsOk (rot ((List.range m).map (colAt N K)) t) := by
  have hl : N.length = 6 := hN.length_eq
  have hp := rot_perm ((List.range m).map (colAt N K)) t
  have e := names_take N K m (by omega)
  refine ⟨?_, ?_, ?_, ?_⟩
  · rw [rot_len]; simp; omega
  · rw [rot_len]; simp; omega
  · rw [(hp.map (·.n)).nodup_iff, e]
    exact List.Nodup.sublist (List.take_sublist m N) (hN.nodup_iff.mpr names0_nd)
  · intro c hc
    have z : c.n ∈ ((List.range m).map (colAt N K)).map (·.n) := List.mem_map_of_mem (hp.mem_iff.mp hc)
    rw [e] at z
    exact names0_wd _ (hN.mem_iff.mp (List.mem_of_mem_take z))
def kD (b : Bool) : PyData := .str (kindS b)
theorem picks_ok (ns : List Int) (k : Nat) (x : Sl) (y : Sl) (hk : k + 4 ≤ 1000000) : Ev (mLc (mItA range1D (mCons (mC (.int 4)) mNil)) (gNm 5) mYes (mCall L_pick (mAr 0 (mAb 1 (mAv (mLst (mDsp (mCons (mC (.str "word")) (mCons (mC (.str "number")) mNil)))) mANil)))) [5] [.scr ns, .bor (town k), x, y, .un, .un, .un])
    fun acc ρ => ∃ (bs : List Bool) (k' : Nat), acc = bs.map kD ∧ bs.length = 4 ∧ k ≤ k' ∧ k' ≤ k + 4 ∧ ρ = [.scr ns, .bor (town k'), x, y, .un, .un, .un] := by
  have hr := range1_n 4 (by decide)
  refine mLc_invY (ρ1 := [.scr ns, .bor (town k), x, y, .un, .un, .un])
    (fun i acc ρ => ∃ (bs : List Bool) (k' : Nat), acc = bs.map kD ∧ bs.length = i ∧ k ≤ k' ∧ k' ≤ k + i ∧ ρ = [.scr ns, .bor (town k'), x, y, .un, .un, .un])
    ((List.range 4).map fun i => .int ((i : Nat) : Int)) ?_ (by simp) rfl ⟨[], k, rfl, rfl, by omega, by omega, rfl⟩ ?_ ?_
  · simp only [mSeq, mSet, mSetO, mSet2, mRet, mRetN, mDrop, mIfS, mIf, mB, mTru, mAnd, mOr, mNot, mAndV, mOrV, mNotV, mChain, mRaise, mNx, m1, m2, mN, mNL, mVar, mC, mNil, mCons, mLst, mTup, mDsp, mCall, mANil, mAv, mAr, mAb, hasR, hasB, toSl, VL.bs, back, mMut, heldR, setR, peekR, mLenP, mLenO, mRd, mItA, mIt, mAsg, gNm, gTp, gSeq, mYes, mSl, mPs, mPn, mKn, ok_bind, Oc.bind, Oc.opt, lenD_l, lenD_t, tupD, truD, isi_str_str, isi_str_tup, isi_str_int, isi_str_non, isi_str_lst, isi_tup_tup, isi_tup_lst, isi_tup_str, isi_tup_int, isi_tup_non, isi_lst_lst, isi_lst_tup, isi_int_int, isi_int_str, isi_int_non, isi_bool_int, isi_int_tup, isi_bool_tup, isi_bool_str, isi_bool_non, isi_lst_str, isi_lst_int, isi_lst_non, isD, isntD, isNoneD, addD_i, subD_i, seqD, appendD, List.replicate, List.append_nil, List.cons_append, List.nil_append, List.getElem?_cons_zero, List.getElem?_cons_succ, List.set_cons_zero, List.set_cons_succ, List.length_cons, List.length_nil, List.nodup_nil, List.nodup_cons, List.not_mem_nil, not_false_eq_true, and_self, Option.map, if_true, if_false, Bool.false_eq_true, Bool.not_true, Bool.not_false, Bool.and_true, Bool.true_and, Bool.false_and, Bool.and_false, finR, Sl.fin, wipeR, restR, List.getD_cons_zero, List.getD_cons_succ, decide_true, decide_false, Nat.reduceAdd, Nat.reduceLT]
    have e : range1D [.int 4] = some ((List.range 4).map fun i => .int ((i : Nat) : Int)) := hr
    simp only [mSeq, mSet, mSetO, mSet2, mRet, mRetN, mDrop, mIfS, mIf, mB, mTru, mAnd, mOr, mNot, mAndV, mOrV, mNotV, mChain, mRaise, mNx, m1, m2, mN, mNL, mVar, mC, mNil, mCons, mLst, mTup, mDsp, mCall, mANil, mAv, mAr, mAb, hasR, hasB, toSl, VL.bs, back, mMut, heldR, setR, peekR, mLenP, mLenO, mRd, mItA, mIt, mAsg, gNm, gTp, gSeq, mYes, mSl, mPs, mPn, mKn, ok_bind, Oc.bind, Oc.opt, lenD_l, lenD_t, tupD, truD, isi_str_str, isi_str_tup, isi_str_int, isi_str_non, isi_str_lst, isi_tup_tup, isi_tup_lst, isi_tup_str, isi_tup_int, isi_tup_non, isi_lst_lst, isi_lst_tup, isi_int_int, isi_int_str, isi_int_non, isi_bool_int, isi_int_tup, isi_bool_tup, isi_bool_str, isi_bool_non, isi_lst_str, isi_lst_int, isi_lst_non, isD, isntD, isNoneD, addD_i, subD_i, seqD, appendD, List.replicate, List.append_nil, List.cons_append, List.nil_append, List.getElem?_cons_zero, List.getElem?_cons_succ, List.set_cons_zero, List.set_cons_succ, List.length_cons, List.length_nil, List.nodup_nil, List.nodup_cons, List.not_mem_nil, not_false_eq_true, and_self, Option.map, if_true, if_false, Bool.false_eq_true, Bool.not_true, Bool.not_false, Bool.and_true, Bool.true_and, Bool.false_and, Bool.and_false, finR, Sl.fin, wipeR, restR, List.getD_cons_zero, List.getD_cons_succ, decide_true, decide_false, Nat.reduceAdd, Nat.reduceLT, e]
  · rintro i d ρ acc hd hl ⟨bs, k', rfl, h1, h2, h3, rfl⟩
    have hi : i < 4 := by
      have := (List.getElem?_eq_some_iff.mp hd).1
      simpa using this
    obtain ⟨j, w, hj, e⟩ := pick_ok ns k' [.str "word", .str "number"] (by omega) (by simp)
    have hw : ∃ b, w = kD b := by
      have := List.mem_of_getElem? hj
      simp only [List.mem_cons, List.not_mem_nil, or_false] at this
      rcases this with rfl | rfl
      · exact ⟨false, rfl⟩
      · exact ⟨true, rfl⟩
    obtain ⟨b, rfl⟩ := hw
    have e2 : fits 2 = true := rfl
    refine ⟨[.scr ns, .bor (town k'), x, y, .un, .val d, .un], rfl, kD b, [.scr ns, .bor (town (k' + 1)), x, y, .un, .val d, .un], ?_, rfl, bs ++ [b], k' + 1, by simp, by simp [h1], by omega, by omega, rfl⟩
    simp only [mSeq, mSet, mSetO, mSet2, mRet, mRetN, mDrop, mIfS, mIf, mB, mTru, mAnd, mOr, mNot, mAndV, mOrV, mNotV, mChain, mRaise, mNx, m1, m2, mN, mNL, mVar, mC, mNil, mCons, mLst, mTup, mDsp, mCall, mANil, mAv, mAr, mAb, hasR, hasB, toSl, VL.bs, back, mMut, heldR, setR, peekR, mLenP, mLenO, mRd, mItA, mIt, mAsg, gNm, gTp, gSeq, mYes, mSl, mPs, mPn, mKn, ok_bind, Oc.bind, Oc.opt, lenD_l, lenD_t, tupD, truD, isi_str_str, isi_str_tup, isi_str_int, isi_str_non, isi_str_lst, isi_tup_tup, isi_tup_lst, isi_tup_str, isi_tup_int, isi_tup_non, isi_lst_lst, isi_lst_tup, isi_int_int, isi_int_str, isi_int_non, isi_bool_int, isi_int_tup, isi_bool_tup, isi_bool_str, isi_bool_non, isi_lst_str, isi_lst_int, isi_lst_non, isD, isntD, isNoneD, addD_i, subD_i, seqD, appendD, List.replicate, List.append_nil, List.cons_append, List.nil_append, List.getElem?_cons_zero, List.getElem?_cons_succ, List.set_cons_zero, List.set_cons_succ, List.length_cons, List.length_nil, List.nodup_nil, List.nodup_cons, List.not_mem_nil, not_false_eq_true, and_self, Option.map, if_true, if_false, Bool.false_eq_true, Bool.not_true, Bool.not_false, Bool.and_true, Bool.true_and, Bool.false_and, Bool.and_false, finR, Sl.fin, wipeR, restR, List.getD_cons_zero, List.getD_cons_succ, decide_true, decide_false, Nat.reduceAdd, Nat.reduceLT, e, e2]
  · rintro acc ρ ⟨bs, k', rfl, h1, h2, h3, rfl⟩
    simp only [List.length_map, List.length_range] at h1 h3
    exact ⟨bs, k', rfl, h1, h2, h3, rfl⟩
theorem columns_ok (ns : List Int) (k : Nat) (hk : k + 10 ≤ 1000000) : ∃ cs k', ColsOk cs ∧ k ≤ k' ∧ k' ≤ k + 10 ∧ L_columns [.scr ns, .bor (town k)] = .ok (colsD cs) [.un, .bor (town k')] := by
  obtain ⟨t, ht, e1⟩ := draw_ex ns k 6 (by omega) (by decide)
  have N0 : [PyData.str "w", .str "n", .str "word", .str "size", .str "of", .str "abcdefgh"] = names0.map .str := rfl
  have f6 : fits (names0.map PyData.str).length = true := rfl
  have f2 : fits 2 = true := rfl
  have a1 : addD (.list ((names0.map .str).drop t)) (.list ((names0.map .str).take t)) = some (.list ((rot names0 t).map .str)) := by
    have hz : ((names0.map PyData.str).drop t).length + ((names0.map PyData.str).take t).length ≤ 16777216 := by
      simp only [List.length_drop, List.length_take, List.length_map]
      have : names0.length = 6 := rfl
      omega
    rw [addD_l hz, rot_map]
  have s1 := slD_lo (names0.map .str) t
  have s2 := slD_hi (names0.map .str) t
  have hN := rot_perm names0 t
  generalize hrn : rot names0 t = N at *
  obtain ⟨acc, ρ, e2, bs, k1, rfl, hb, h1, h2, rfl⟩ := picks_ok ns (k + 1) (.val (.list (N.map .str))) (.val (.int (t : Int))) (by omega)
  have a2 : addD (.list [kD false, kD true]) (.list (bs.map kD)) = some (.list (([false, true] ++ bs).map kD)) := by
    rw [addD_l (by simp; omega), List.map_append]
    rfl
  have w1 : [PyData.str "word", .str "number"] = [kD false, kD true] := rfl
  have hK : ([false, true] ++ bs).length = 6 := by simp [hb]
  generalize [false, true] ++ bs = K at *
  obtain ⟨q, hq, e3⟩ := draw_ex ns k1 5 (by omega) (by decide)
  have hr : range1D [.int (2 + (q : Int))] = some ((List.range (2 + q)).map fun i => .int ((i : Nat) : Int)) := by
    have := range1_n (2 + q) (by omega)
    rwa [show ((2 + q : Nat) : Int) = 2 + (q : Int) by omega] at this
  have hNl : N.length = 6 := hN.length_eq
  have e4 := mLc_map (fs := mItA range1D (mCons (m2 addD (mC (.int 2)) (mCall L_draw (mAr 0 (mAb 1 (mAv (mC (.int 5)) mANil))))) mNil)) (g := gNm 5) (f := mTup (mCons (m2 ixD (mVar 2) (mVar 5)) (mCons (m2 ixD (mVar 4) (mVar 5)) mNil))) (vs := [5])
    (ρ := [.scr ns, .bor (town k1), .val (.list (N.map .str)), .val (.int (t : Int)), .val (.list (K.map kD)), .un, .un]) (ρ1 := [.scr ns, .bor (town (k1 + 1)), .val (.list (N.map .str)), .val (.int (t : Int)), .val (.list (K.map kD)), .un, .un])
    (List.range (2 + q)) (fun i => .int ((i : Nat) : Int)) (fun i => colD (colAt N K i)) (by simp only [mSeq, mSet, mSetO, mSet2, mRet, mRetN, mDrop, mIfS, mIf, mB, mTru, mAnd, mOr, mNot, mAndV, mOrV, mNotV, mChain, mRaise, mNx, m1, m2, mN, mNL, mVar, mC, mNil, mCons, mLst, mTup, mDsp, mCall, mANil, mAv, mAr, mAb, hasR, hasB, toSl, VL.bs, back, mMut, heldR, setR, peekR, mLenP, mLenO, mRd, mItA, mIt, mAsg, gNm, gTp, gSeq, mYes, mSl, mPs, mPn, mKn, ok_bind, Oc.bind, Oc.opt, lenD_l, lenD_t, tupD, truD, isi_str_str, isi_str_tup, isi_str_int, isi_str_non, isi_str_lst, isi_tup_tup, isi_tup_lst, isi_tup_str, isi_tup_int, isi_tup_non, isi_lst_lst, isi_lst_tup, isi_int_int, isi_int_str, isi_int_non, isi_bool_int, isi_int_tup, isi_bool_tup, isi_bool_str, isi_bool_non, isi_lst_str, isi_lst_int, isi_lst_non, isD, isntD, isNoneD, addD_i, subD_i, seqD, appendD, List.replicate, List.append_nil, List.cons_append, List.nil_append, List.getElem?_cons_zero, List.getElem?_cons_succ, List.set_cons_zero, List.set_cons_succ, List.length_cons, List.length_nil, List.nodup_nil, List.nodup_cons, List.not_mem_nil, not_false_eq_true, and_self, Option.map, if_true, if_false, Bool.false_eq_true, Bool.not_true, Bool.not_false, Bool.and_true, Bool.true_and, Bool.false_and, Bool.and_false, finR, Sl.fin, wipeR, restR, List.getD_cons_zero, List.getD_cons_succ, decide_true, decide_false, Nat.reduceAdd, Nat.reduceLT, e3, hr]) rfl
    (fun i hi => ⟨[.scr ns, .bor (town (k1 + 1)), .val (.list (N.map .str)), .val (.int (t : Int)), .val (.list (K.map kD)), .val (.int (i : Int)), .un], rfl, by
      have hi := List.mem_range.mp hi
      have x1 := ix_list (f := PyData.str) (xs := N) (i := i) (List.getElem?_eq_getElem (by omega))
      have x2 := ix_list (f := kD) (xs := K) (i := i) (List.getElem?_eq_getElem (by omega))
      simp only [mSeq, mSet, mSetO, mSet2, mRet, mRetN, mDrop, mIfS, mIf, mB, mTru, mAnd, mOr, mNot, mAndV, mOrV, mNotV, mChain, mRaise, mNx, m1, m2, mN, mNL, mVar, mC, mNil, mCons, mLst, mTup, mDsp, mCall, mANil, mAv, mAr, mAb, hasR, hasB, toSl, VL.bs, back, mMut, heldR, setR, peekR, mLenP, mLenO, mRd, mItA, mIt, mAsg, gNm, gTp, gSeq, mYes, mSl, mPs, mPn, mKn, ok_bind, Oc.bind, Oc.opt, lenD_l, lenD_t, tupD, truD, isi_str_str, isi_str_tup, isi_str_int, isi_str_non, isi_str_lst, isi_tup_tup, isi_tup_lst, isi_tup_str, isi_tup_int, isi_tup_non, isi_lst_lst, isi_lst_tup, isi_int_int, isi_int_str, isi_int_non, isi_bool_int, isi_int_tup, isi_bool_tup, isi_bool_str, isi_bool_non, isi_lst_str, isi_lst_int, isi_lst_non, isD, isntD, isNoneD, addD_i, subD_i, seqD, appendD, List.replicate, List.append_nil, List.cons_append, List.nil_append, List.getElem?_cons_zero, List.getElem?_cons_succ, List.set_cons_zero, List.set_cons_succ, List.length_cons, List.length_nil, List.nodup_nil, List.nodup_cons, List.not_mem_nil, not_false_eq_true, and_self, Option.map, if_true, if_false, Bool.false_eq_true, Bool.not_true, Bool.not_false, Bool.and_true, Bool.true_and, Bool.false_and, Bool.and_false, finR, Sl.fin, wipeR, restR, List.getD_cons_zero, List.getD_cons_succ, decide_true, decide_false, Nat.reduceAdd, Nat.reduceLT, x1, x2, f2]
      unfold colAt
      rw [List.getD_eq_getElem?_getD, List.getD_eq_getElem?_getD, List.getElem?_eq_getElem (by omega), List.getElem?_eq_getElem (by omega)]
      rfl, rfl, rfl⟩) (by rw [List.length_range]; omega)
  have e4' : (List.range (2 + q)).map (fun i => colD (colAt N K i)) = ((List.range (2 + q)).map (colAt N K)).map colD := by rw [List.map_map]; rfl
  rw [e4'] at e4
  have hcl : ((List.range (2 + q)).map (colAt N K)).length = 2 + q := by simp
  have hc := fun t => cols_rot (N := N) (K := K) (m := 2 + q) (t := t) (by omega) (by omega) (hrn ▸ hN)
  generalize (List.range (2 + q)).map (colAt N K) = cs at *
  obtain ⟨p, hp, e5⟩ := draw_ex ns (k1 + 1) ((cs.map colD).length : Nat) (by omega) (by rw [List.length_map]; omega)
  have a3 : addD (.list ((cs.map colD).drop p)) (.list ((cs.map colD).take p)) = some (.list ((rot cs p).map colD)) := by
    rw [addD_l (by simp; omega), rot_map]
  refine ⟨rot cs p, k1 + 2, hc p, by omega, by omega, ?_⟩
  unfold L_columns mFn
  simp only [mSeq, mSet, mSetO, mSet2, mRet, mRetN, mDrop, mIfS, mIf, mB, mTru, mAnd, mOr, mNot, mAndV, mOrV, mNotV, mChain, mRaise, mNx, m1, m2, mN, mNL, mVar, mC, mNil, mCons, mLst, mTup, mDsp, mCall, mANil, mAv, mAr, mAb, hasR, hasB, toSl, VL.bs, back, mMut, heldR, setR, peekR, mLenP, mLenO, mRd, mItA, mIt, mAsg, gNm, gTp, gSeq, mYes, mSl, mPs, mPn, mKn, ok_bind, Oc.bind, Oc.opt, lenD_l, lenD_t, tupD, truD, isi_str_str, isi_str_tup, isi_str_int, isi_str_non, isi_str_lst, isi_tup_tup, isi_tup_lst, isi_tup_str, isi_tup_int, isi_tup_non, isi_lst_lst, isi_lst_tup, isi_int_int, isi_int_str, isi_int_non, isi_bool_int, isi_int_tup, isi_bool_tup, isi_bool_str, isi_bool_non, isi_lst_str, isi_lst_int, isi_lst_non, isD, isntD, isNoneD, addD_i, subD_i, seqD, appendD, List.replicate, List.append_nil, List.cons_append, List.nil_append, List.getElem?_cons_zero, List.getElem?_cons_succ, List.set_cons_zero, List.set_cons_succ, List.length_cons, List.length_nil, List.nodup_nil, List.nodup_cons, List.not_mem_nil, not_false_eq_true, and_self, Option.map, if_true, if_false, Bool.false_eq_true, Bool.not_true, Bool.not_false, Bool.and_true, Bool.true_and, Bool.false_and, Bool.and_false, finR, Sl.fin, wipeR, restR, List.getD_cons_zero, List.getD_cons_succ, decide_true, decide_false, Nat.reduceAdd, Nat.reduceLT, e1, N0, f6, s1, s2, a1, f2, e2, w1, a2, e4, e5, slD_lo, slD_hi, a3]
  rfl
theorem rows_gen {cs : List Col} {fs : ML} {g : MG} {f : ME} {vs : List Nat} {ρ ρ1 : R} (St : Nat → R) (k m : Nat) (h1 : fs ρ = .ok ((List.range m).map fun i => .int ((i : Nat) : Int)) ρ1) (hw : wipeOk ρ1 vs = true) (h0 : wipeR ρ1 vs = St k) (hm : m ≤ 30) (hk : k + 72 * m ≤ 1000000)
    (step : ∀ (k' : Nat) (d : PyData), k' + 72 ≤ 1000000 → ∃ ρ1, g d (St k') = some ρ1 ∧ ∃ r k'' ρ3, RowOk cs r ∧ k' ≤ k'' ∧ k'' ≤ k' + 72 ∧ f ρ1 = .ok (.tuple r) ρ3 ∧ wipeOk ρ3 vs = true ∧ wipeR ρ3 vs = St k'') :
    Ev (mLc fs g mYes f vs ρ) fun acc ρ2 => ∃ (rs : List (List PyData)) (k' : Nat), acc = rs.map .tuple ∧ rs.length = m ∧ (∀ r ∈ rs, RowOk cs r) ∧ k ≤ k' ∧ k' ≤ k + 72 * m ∧ ρ2 = restR ρ1 (St k') vs := by
  refine mLc_invY (fun i acc ρ => ∃ (rs : List (List PyData)) (k' : Nat), acc = rs.map .tuple ∧ rs.length = i ∧ (∀ r ∈ rs, RowOk cs r) ∧ k ≤ k' ∧ k' ≤ k + 72 * i ∧ ρ = St k') _ h1 (by simp; omega) hw ⟨[], k, rfl, rfl, by simp, by omega, by omega, h0⟩ ?_ ?_
  · rintro i d ρ acc hd hl ⟨rs, k', rfl, h2, h3, h4, h5, rfl⟩
    have hi : i < m := by
      have := (List.getElem?_eq_some_iff.mp hd).1
      simpa using this
    obtain ⟨ρ1, e1, r, k'', ρ3, hr, h6, h7, e2, h8, h9⟩ := step k' d (by omega)
    refine ⟨ρ1, e1, _, ρ3, e2, h8, rs ++ [r], k'', by simp, by simp [h2], ?_, by omega, by omega, h9⟩
    intro x hx
    rcases List.mem_append.mp hx with hx | hx
    · exact h3 x hx
    · rw [List.mem_singleton.mp hx]; exact hr
  · rintro acc ρ ⟨rs, k', rfl, h2, h3, h4, h5, rfl⟩
    simp only [List.length_map, List.length_range] at h2 h5
    exact ⟨rs, k', rfl, h2, h3, h4, h5, rfl⟩
theorem table_ok (ns : List Int) (k most : Nat) (hm : most ≤ 24) (hk : k + 2000 ≤ 1000000) : ∃ cs rs k', ColsOk cs ∧ rs.length ≤ most ∧ (∀ r ∈ rs, RowOk cs r) ∧ k ≤ k' ∧ k' ≤ k + 2000 ∧ L_table [.scr ns, .bor (town k), .val (.int (most : Int))] = .ok (tabD cs rs) [.un, .bor (town k'), .un] := by
  obtain ⟨cs, k1, hc, h1, h2, e1⟩ := columns_ok ns k (by omega)
  obtain ⟨m, hm', e2⟩ := draw_ex ns k1 ((most : Int) + 1) (by omega) (by omega)
  have hr := range1_n m (by omega)
  obtain ⟨acc, ρ, e3, rs, k', rfl, h3, h4, h5, h6, rfl⟩ := rows_gen (cs := cs) (fs := mItA range1D (mCons (mCall L_draw (mAr 0 (mAb 1 (mAv (m2 addD (mVar 2) (mC (.int 1))) mANil)))) mNil)) (g := gNm 5) (f := mCall L_row (mAr 0 (mAb 1 (mAv (mVar 3) mANil)))) (vs := [5])
    (ρ := [.scr ns, .bor (town k1), .val (.int (most : Int)), .val (colsD cs), .un, .un]) (ρ1 := [.scr ns, .bor (town (k1 + 1)), .val (.int (most : Int)), .val (colsD cs), .un, .un]) (fun k => [.scr ns, .bor (town k), .val (.int (most : Int)), .val (colsD cs), .un, .un]) (k1 + 1) m (by simp only [mSeq, mSet, mSetO, mSet2, mRet, mRetN, mDrop, mIfS, mIf, mB, mTru, mAnd, mOr, mNot, mAndV, mOrV, mNotV, mChain, mRaise, mNx, m1, m2, mN, mNL, mVar, mC, mNil, mCons, mLst, mTup, mDsp, mCall, mANil, mAv, mAr, mAb, hasR, hasB, toSl, VL.bs, back, mMut, heldR, setR, peekR, mLenP, mLenO, mRd, mItA, mIt, mAsg, gNm, gTp, gSeq, mYes, mSl, mPs, mPn, mKn, ok_bind, Oc.bind, Oc.opt, lenD_l, lenD_t, tupD, truD, isi_str_str, isi_str_tup, isi_str_int, isi_str_non, isi_str_lst, isi_tup_tup, isi_tup_lst, isi_tup_str, isi_tup_int, isi_tup_non, isi_lst_lst, isi_lst_tup, isi_int_int, isi_int_str, isi_int_non, isi_bool_int, isi_int_tup, isi_bool_tup, isi_bool_str, isi_bool_non, isi_lst_str, isi_lst_int, isi_lst_non, isD, isntD, isNoneD, addD_i, subD_i, seqD, appendD, List.replicate, List.append_nil, List.cons_append, List.nil_append, List.getElem?_cons_zero, List.getElem?_cons_succ, List.set_cons_zero, List.set_cons_succ, List.length_cons, List.length_nil, List.nodup_nil, List.nodup_cons, List.not_mem_nil, not_false_eq_true, and_self, Option.map, if_true, if_false, Bool.false_eq_true, Bool.not_true, Bool.not_false, Bool.and_true, Bool.true_and, Bool.false_and, Bool.and_false, finR, Sl.fin, wipeR, restR, List.getD_cons_zero, List.getD_cons_succ, decide_true, decide_false, Nat.reduceAdd, Nat.reduceLT, e2, hr]) rfl rfl (by omega) (by omega)
    (fun k' d hk' => by
      obtain ⟨r, k'', hr, h7, h8, e⟩ := row_ok hc ns k' hk'
      refine ⟨[.scr ns, .bor (town k'), .val (.int (most : Int)), .val (colsD cs), .un, .val d], rfl, r, k'', [.scr ns, .bor (town k''), .val (.int (most : Int)), .val (colsD cs), .un, .val d], hr, h7, h8, ?_, rfl, rfl⟩
      simp only [mSeq, mSet, mSetO, mSet2, mRet, mRetN, mDrop, mIfS, mIf, mB, mTru, mAnd, mOr, mNot, mAndV, mOrV, mNotV, mChain, mRaise, mNx, m1, m2, mN, mNL, mVar, mC, mNil, mCons, mLst, mTup, mDsp, mCall, mANil, mAv, mAr, mAb, hasR, hasB, toSl, VL.bs, back, mMut, heldR, setR, peekR, mLenP, mLenO, mRd, mItA, mIt, mAsg, gNm, gTp, gSeq, mYes, mSl, mPs, mPn, mKn, ok_bind, Oc.bind, Oc.opt, lenD_l, lenD_t, tupD, truD, isi_str_str, isi_str_tup, isi_str_int, isi_str_non, isi_str_lst, isi_tup_tup, isi_tup_lst, isi_tup_str, isi_tup_int, isi_tup_non, isi_lst_lst, isi_lst_tup, isi_int_int, isi_int_str, isi_int_non, isi_bool_int, isi_int_tup, isi_bool_tup, isi_bool_str, isi_bool_non, isi_lst_str, isi_lst_int, isi_lst_non, isD, isntD, isNoneD, addD_i, subD_i, seqD, appendD, List.replicate, List.append_nil, List.cons_append, List.nil_append, List.getElem?_cons_zero, List.getElem?_cons_succ, List.set_cons_zero, List.set_cons_succ, List.length_cons, List.length_nil, List.nodup_nil, List.nodup_cons, List.not_mem_nil, not_false_eq_true, and_self, Option.map, if_true, if_false, Bool.false_eq_true, Bool.not_true, Bool.not_false, Bool.and_true, Bool.true_and, Bool.false_and, Bool.and_false, finR, Sl.fin, wipeR, restR, List.getD_cons_zero, List.getD_cons_succ, decide_true, decide_false, Nat.reduceAdd, Nat.reduceLT, e])
  refine ⟨cs, rs, k', hc, by omega, h4, by omega, by omega, ?_⟩
  have f2 : fits 2 = true := rfl
  unfold L_table mFn
  simp only [mSeq, mSet, mSetO, mSet2, mRet, mRetN, mDrop, mIfS, mIf, mB, mTru, mAnd, mOr, mNot, mAndV, mOrV, mNotV, mChain, mRaise, mNx, m1, m2, mN, mNL, mVar, mC, mNil, mCons, mLst, mTup, mDsp, mCall, mANil, mAv, mAr, mAb, hasR, hasB, toSl, VL.bs, back, mMut, heldR, setR, peekR, mLenP, mLenO, mRd, mItA, mIt, mAsg, gNm, gTp, gSeq, mYes, mSl, mPs, mPn, mKn, ok_bind, Oc.bind, Oc.opt, lenD_l, lenD_t, tupD, truD, isi_str_str, isi_str_tup, isi_str_int, isi_str_non, isi_str_lst, isi_tup_tup, isi_tup_lst, isi_tup_str, isi_tup_int, isi_tup_non, isi_lst_lst, isi_lst_tup, isi_int_int, isi_int_str, isi_int_non, isi_bool_int, isi_int_tup, isi_bool_tup, isi_bool_str, isi_bool_non, isi_lst_str, isi_lst_int, isi_lst_non, isD, isntD, isNoneD, addD_i, subD_i, seqD, appendD, List.replicate, List.append_nil, List.cons_append, List.nil_append, List.getElem?_cons_zero, List.getElem?_cons_succ, List.set_cons_zero, List.set_cons_succ, List.length_cons, List.length_nil, List.nodup_nil, List.nodup_cons, List.not_mem_nil, not_false_eq_true, and_self, Option.map, if_true, if_false, Bool.false_eq_true, Bool.not_true, Bool.not_false, Bool.and_true, Bool.true_and, Bool.false_and, Bool.and_false, finR, Sl.fin, wipeR, restR, List.getD_cons_zero, List.getD_cons_succ, decide_true, decide_false, Nat.reduceAdd, Nat.reduceLT, e1, e3, f2]
  rfl
theorem two_ok (ns : List Int) (k most : Nat) (hm : most ≤ 18) (hk : k + 3000 ≤ 1000000) : ∃ cs rs ss k', ColsOk cs ∧ rs.length ≤ most ∧ ss.length ≤ most + 5 ∧ (∀ r ∈ rs, RowOk cs r) ∧ (∀ r ∈ ss, RowOk cs r) ∧ k ≤ k' ∧ k' ≤ k + 3000 ∧
    L_two [.scr ns, .bor (town k), .val (.int (most : Int))] = .ok (.tuple [tabD cs rs, tabD cs ss]) [.un, .bor (town k'), .un] := by
  obtain ⟨cs, rs, k1, hc, hl, hrs, h1, h2, e1⟩ := table_ok ns k most (by omega) (by omega)
  obtain ⟨i, hi, e2⟩ := draw_ex ns k1 ((rs.length : Int) + 1) (by omega) (by omega)
  obtain ⟨j, hj, e3⟩ := draw_ex ns (k1 + 1) 3 (by omega) (by decide)
  obtain ⟨m, hm', e4⟩ := draw_ex ns (k1 + 2) 4 (by omega) (by decide)
  have hr := range1_n m (by omega)
  let so := rs.drop i ++ rs.take j
  have hso : so.length ≤ most + 2 := by simp [so]; omega
  have a1 : addD (.list ((rs.map .tuple).drop i)) (.list ((rs.map .tuple).take j)) = some (.list (so.map .tuple)) := by
    rw [addD_l (by simp; omega)]
    simp [so]
  obtain ⟨acc, ρ, e5, qs, k', rfl, h3, h4, h5, h6, rfl⟩ := rows_gen (cs := cs) (fs := mItA range1D (mCons (mCall L_draw (mAr 0 (mAb 1 (mAv (mC (.int 4)) mANil)))) mNil)) (g := gNm 8) (f := mCall L_row (mAr 0 (mAb 1 (mAv (mVar 4) mANil)))) (vs := [8])
    (ρ := [.scr ns, .bor (town (k1 + 2)), .val (.int (most : Int)), .val (tabD cs rs), .val (colsD cs), .val (rowsD rs), .val (.list (so.map .tuple)), .un, .un]) (ρ1 := [.scr ns, .bor (town (k1 + 3)), .val (.int (most : Int)), .val (tabD cs rs), .val (colsD cs), .val (rowsD rs), .val (.list (so.map .tuple)), .un, .un])
    (fun k => [.scr ns, .bor (town k), .val (.int (most : Int)), .val (tabD cs rs), .val (colsD cs), .val (rowsD rs), .val (.list (so.map .tuple)), .un, .un]) (k1 + 3) m (by simp only [mSeq, mSet, mSetO, mSet2, mRet, mRetN, mDrop, mIfS, mIf, mB, mTru, mAnd, mOr, mNot, mAndV, mOrV, mNotV, mChain, mRaise, mNx, m1, m2, mN, mNL, mVar, mC, mNil, mCons, mLst, mTup, mDsp, mCall, mANil, mAv, mAr, mAb, hasR, hasB, toSl, VL.bs, back, mMut, heldR, setR, peekR, mLenP, mLenO, mRd, mItA, mIt, mAsg, gNm, gTp, gSeq, mYes, mSl, mPs, mPn, mKn, ok_bind, Oc.bind, Oc.opt, lenD_l, lenD_t, tupD, truD, isi_str_str, isi_str_tup, isi_str_int, isi_str_non, isi_str_lst, isi_tup_tup, isi_tup_lst, isi_tup_str, isi_tup_int, isi_tup_non, isi_lst_lst, isi_lst_tup, isi_int_int, isi_int_str, isi_int_non, isi_bool_int, isi_int_tup, isi_bool_tup, isi_bool_str, isi_bool_non, isi_lst_str, isi_lst_int, isi_lst_non, isD, isntD, isNoneD, addD_i, subD_i, seqD, appendD, List.replicate, List.append_nil, List.cons_append, List.nil_append, List.getElem?_cons_zero, List.getElem?_cons_succ, List.set_cons_zero, List.set_cons_succ, List.length_cons, List.length_nil, List.nodup_nil, List.nodup_cons, List.not_mem_nil, not_false_eq_true, and_self, Option.map, if_true, if_false, Bool.false_eq_true, Bool.not_true, Bool.not_false, Bool.and_true, Bool.true_and, Bool.false_and, Bool.and_false, finR, Sl.fin, wipeR, restR, List.getD_cons_zero, List.getD_cons_succ, decide_true, decide_false, Nat.reduceAdd, Nat.reduceLT, e4, hr]) rfl rfl (by omega) (by omega)
    (fun k' d hk' => by
      obtain ⟨r, k'', hr, h7, h8, e⟩ := row_ok hc ns k' hk'
      refine ⟨[.scr ns, .bor (town k'), .val (.int (most : Int)), .val (tabD cs rs), .val (colsD cs), .val (rowsD rs), .val (.list (so.map .tuple)), .un, .val d], rfl, r, k'', [.scr ns, .bor (town k''), .val (.int (most : Int)), .val (tabD cs rs), .val (colsD cs), .val (rowsD rs), .val (.list (so.map .tuple)), .un, .val d], hr, h7, h8, ?_, rfl, rfl⟩
      simp only [mSeq, mSet, mSetO, mSet2, mRet, mRetN, mDrop, mIfS, mIf, mB, mTru, mAnd, mOr, mNot, mAndV, mOrV, mNotV, mChain, mRaise, mNx, m1, m2, mN, mNL, mVar, mC, mNil, mCons, mLst, mTup, mDsp, mCall, mANil, mAv, mAr, mAb, hasR, hasB, toSl, VL.bs, back, mMut, heldR, setR, peekR, mLenP, mLenO, mRd, mItA, mIt, mAsg, gNm, gTp, gSeq, mYes, mSl, mPs, mPn, mKn, ok_bind, Oc.bind, Oc.opt, lenD_l, lenD_t, tupD, truD, isi_str_str, isi_str_tup, isi_str_int, isi_str_non, isi_str_lst, isi_tup_tup, isi_tup_lst, isi_tup_str, isi_tup_int, isi_tup_non, isi_lst_lst, isi_lst_tup, isi_int_int, isi_int_str, isi_int_non, isi_bool_int, isi_int_tup, isi_bool_tup, isi_bool_str, isi_bool_non, isi_lst_str, isi_lst_int, isi_lst_non, isD, isntD, isNoneD, addD_i, subD_i, seqD, appendD, List.replicate, List.append_nil, List.cons_append, List.nil_append, List.getElem?_cons_zero, List.getElem?_cons_succ, List.set_cons_zero, List.set_cons_succ, List.length_cons, List.length_nil, List.nodup_nil, List.nodup_cons, List.not_mem_nil, not_false_eq_true, and_self, Option.map, if_true, if_false, Bool.false_eq_true, Bool.not_true, Bool.not_false, Bool.and_true, Bool.true_and, Bool.false_and, Bool.and_false, finR, Sl.fin, wipeR, restR, List.getD_cons_zero, List.getD_cons_succ, decide_true, decide_false, Nat.reduceAdd, Nat.reduceLT, e])
  refine ⟨cs, rs, so ++ qs, k', hc, hl, by simp; omega, hrs, ?_, by omega, by omega, ?_⟩
  · intro r hr
    rcases List.mem_append.mp hr with hr | hr
    · rcases List.mem_append.mp hr with hr | hr
      · exact hrs r (List.mem_of_mem_drop hr)
      · exact hrs r (List.mem_of_mem_take hr)
    · exact h4 r hr
  · have f2 : fits 2 = true := rfl
    have g1 : gTp [gNm 4, gNm 5] (tabD cs rs) [.scr ns, .bor (town k1), .val (.int (most : Int)), .val (tabD cs rs), .un, .un, .un, .un, .un] = some [.scr ns, .bor (town k1), .val (.int (most : Int)), .val (tabD cs rs), .val (colsD cs), .val (rowsD rs), .un, .un, .un] := rfl
    have l1 : lenD [rowsD rs] = some (.int (rs.length : Nat)) := by show some (PyData.int ((rs.map PyData.tuple).length : Nat)) = _; rw [List.length_map]
    have s1 : slD (rowsD rs) (some (i : Int)) none = some (.list ((rs.map .tuple).drop i)) := slD_lo _ _
    have s2 : slD (rowsD rs) none (some (j : Int)) = some (.list ((rs.map .tuple).take j)) := slD_hi _ _
    have a2 : addD (.list (so.map .tuple)) (.list (qs.map .tuple)) = some (rowsD (so ++ qs)) := by
      rw [addD_l (by simp; omega), ← List.map_append]
      rfl
    unfold L_two mFn
    simp only [mSeq, mSet, mSetO, mSet2, mRet, mRetN, mDrop, mIfS, mIf, mB, mTru, mAnd, mOr, mNot, mAndV, mOrV, mNotV, mChain, mRaise, mNx, m1, m2, mN, mNL, mVar, mC, mNil, mCons, mLst, mTup, mDsp, mCall, mANil, mAv, mAr, mAb, hasR, hasB, toSl, VL.bs, back, mMut, heldR, setR, peekR, mLenP, mLenO, mRd, mItA, mIt, mAsg, gNm, mYes, mSl, mPs, mPn, mKn, ok_bind, Oc.bind, Oc.opt, lenD_l, lenD_t, tupD, truD, isi_str_str, isi_str_tup, isi_str_int, isi_str_non, isi_str_lst, isi_tup_tup, isi_tup_lst, isi_tup_str, isi_tup_int, isi_tup_non, isi_lst_lst, isi_lst_tup, isi_int_int, isi_int_str, isi_int_non, isi_bool_int, isi_int_tup, isi_bool_tup, isi_bool_str, isi_bool_non, isi_lst_str, isi_lst_int, isi_lst_non, isD, isntD, isNoneD, addD_i, subD_i, seqD, appendD, List.replicate, List.append_nil, List.cons_append, List.nil_append, List.getElem?_cons_zero, List.getElem?_cons_succ, List.set_cons_zero, List.set_cons_succ, List.length_cons, List.length_nil, List.nodup_nil, List.nodup_cons, List.not_mem_nil, not_false_eq_true, and_self, Option.map, if_true, if_false, Bool.false_eq_true, Bool.not_true, Bool.not_false, Bool.and_true, Bool.true_and, Bool.false_and, Bool.and_false, finR, Sl.fin, wipeR, restR, List.getD_cons_zero, List.getD_cons_succ, decide_true, decide_false, Nat.reduceAdd, Nat.reduceLT, e1, g1, l1, e2, s1, e3, s2, a1, e5, f2, a2]
    rfl
end VL

set_option Elab.async false
set_option linter.all false
/-! Pl80: rows each of two tables has alone, in plain Lean. -/
namespace VL
section
variable {α : Type} [DecidableEq α]
def same80 (A B : List α) (l : List Nat) (i : Nat) : List Nat := l.filter fun j => decide (B[j]? = A[i]?)
def dstep (A B : List α) (s : List Nat × List Nat) (i : Nat) : List Nat × List Nat := match same80 A B s.1 i with
  | [] => (s.1, s.2 ++ [i])
  | j :: _ => (s.1.erase j, s.2)
def dueTo (A B : List α) (i : Nat) : List Nat × List Nat := (List.range i).foldl (dstep A B) (List.range B.length, [])
def due (A B : List α) : List Nat × List Nat := dueTo A B A.length
theorem dueTo_succ (A B : List α) (i : Nat) : dueTo A B (i + 1) = dstep A B (dueTo A B i) i := by
  unfold dueTo
  rw [List.range_succ, List.foldl_append]
  rfl
def cnt (A : List α) (g : List Nat) (r : α) : Nat := (g.filter fun j => decide (A[j]? = some r)).length
theorem cnt_app (A : List α) (g h : List Nat) (r : α) : cnt A (g ++ h) r = cnt A g r + cnt A h r := by simp [cnt]
theorem cnt_one (A : List α) (i : Nat) (r : α) : cnt A [i] r = if A[i]? = some r then 1 else 0 := by
  unfold cnt
  by_cases h : A[i]? = some r <;> simp [h]
theorem cnt_perm (A : List α) {g h : List Nat} (p : g.Perm h) (r : α) : cnt A g r = cnt A h r := (p.filter _).length_eq
theorem cnt_erase (A : List α) {g : List Nat} {j : Nat} (h : j ∈ g) (r : α) : cnt A g r = cnt A (g.erase j) r + if A[j]? = some r then 1 else 0 := by
  rw [cnt_perm A (List.perm_cons_erase h) r, show j :: g.erase j = [j] ++ g.erase j from rfl, cnt_app, cnt_one]
  omega
theorem cnt_range (A : List α) (r : α) : ∀ i, i ≤ A.length → cnt A (List.range i) r = (A.take i).count r
  | 0, _ => by simp [cnt]
  | i + 1, h => by
    rw [List.range_succ, cnt_app, cnt_one, cnt_range A r i (by omega), List.take_add_one, List.count_append, List.getElem?_eq_getElem (by omega)]
    simp only [Option.toList, List.count_singleton, Option.some.injEq, beq_iff_eq]
theorem cnt_all (A : List α) (r : α) : cnt A (List.range A.length) r = A.count r := by rw [cnt_range A r _ (Nat.le_refl _), List.take_length]
structure Due (A B : List α) (i : Nat) (s : List Nat × List Nat) : Prop where
  ln : s.1.Nodup
  lb : ∀ j ∈ s.1, j < B.length
  gn : s.2.Nodup
  gb : ∀ j ∈ s.2, j < i
  lc : ∀ r, cnt B s.1 r = B.count r - (A.take i).count r
  gc : ∀ r, cnt A s.2 r = (A.take i).count r - B.count r
theorem due_inv (A B : List α) : ∀ i, i ≤ A.length → Due A B i (dueTo A B i)
  | 0, _ => ⟨List.nodup_range, fun j hj => List.mem_range.mp hj, List.nodup_nil, by simp [dueTo], fun r => by simp [dueTo, cnt_all], fun r => by simp [dueTo, cnt]⟩
  | i + 1, h => by
    have I := due_inv A B i (by omega)
    rw [dueTo_succ]
    generalize dueTo A B i = s at I ⊢
    obtain ⟨l, g⟩ := s
    obtain ⟨ln, lb, gn, gb, lc, gc⟩ := I
    dsimp only at ln lb gn gb lc gc
    have hA : A[i]? = some A[i] := List.getElem?_eq_getElem (by omega)
    have ct : ∀ r, (A.take (i + 1)).count r = (A.take i).count r + if A[i] = r then 1 else 0 := fun r => by
      rw [List.take_add_one, List.count_append, hA]
      simp only [Option.toList, List.count_singleton, beq_iff_eq]
    have hs : (same80 A B l i).length = cnt B l A[i] := by unfold same80 cnt; rw [hA]
    unfold dstep
    cases e : same80 A B l i with
    | nil =>
      have z : cnt B l A[i] = 0 := by rw [← hs, e]; rfl
      rw [lc] at z
      refine ⟨ln, lb, ?_, ?_, fun r => ?_, fun r => ?_⟩
      · dsimp only
        rw [List.nodup_append]
        refine ⟨gn, by simp, fun a ha b hb => ?_⟩
        simp at hb
        have := gb a ha
        omega
      · intro j hj
        dsimp only at hj
        rcases List.mem_append.mp hj with hj | hj
        · have := gb j hj; omega
        · simp at hj; omega
      · dsimp only
        rw [lc, ct]
        by_cases q : A[i] = r
        · subst q; simp; omega
        · simp [q]
      · dsimp only
        rw [cnt_app, cnt_one, gc, ct, hA]
        by_cases q : A[i] = r
        · subst q; simp; omega
        · simp [q]
    | cons j t =>
      have hj : j ∈ same80 A B l i := by rw [e]; exact List.mem_cons_self
      obtain ⟨hj1, hj2⟩ := List.mem_filter.mp hj
      have hB : B[j]? = some A[i] := by rw [← hA]; exact of_decide_eq_true hj2
      refine ⟨ln.erase j, fun q hq => lb q (List.mem_of_mem_erase hq), gn, fun q hq => Nat.lt_succ_of_lt (gb q hq), fun r => ?_, fun r => ?_⟩
      · have z := cnt_erase B hj1 r
        rw [lc, hB] at z
        dsimp only
        rw [ct]
        by_cases q : A[i] = r
        · subst q; simp at z ⊢; omega
        · simp [q] at z ⊢; omega
      · have z := cnt_erase B hj1 A[i]
        rw [lc, hB] at z
        simp at z
        dsimp only
        rw [gc, ct]
        by_cases q : A[i] = r
        · subst q; simp; omega
        · simp [q]
theorem due_of (A B : List α) : Due A B A.length (due A B) := due_inv A B A.length (Nat.le_refl _)
theorem due_gone (A B : List α) (r : α) : cnt A (due A B).2 r = A.count r - B.count r := by
  have := (due_of A B).gc r
  rwa [List.take_length] at this
theorem due_left (A B : List α) (r : α) : cnt B (due A B).1 r = B.count r - A.count r := by
  have := (due_of A B).lc r
  rwa [List.take_length] at this
theorem nil_of_cnt {A : List α} {g : List Nat} (hb : ∀ j ∈ g, j < A.length) (h : ∀ r, cnt A g r = 0) : g = [] := by
  cases g with
  | nil => rfl
  | cons j t =>
    have hj := hb j List.mem_cons_self
    have z := h A[j]
    rw [show j :: t = [j] ++ t from rfl, cnt_app, cnt_one, List.getElem?_eq_getElem hj] at z
    simp at z
/-- the same rows, in any order: nothing is due -/
theorem due_perm {A B : List α} (p : A.Perm B) : due A B = ([], []) := by
  have I := due_of A B
  have e := fun r => p.count_eq r
  have h1 : (due A B).1 = [] := nil_of_cnt I.lb fun r => by rw [due_left, e]; omega
  have h2 : (due A B).2 = [] := nil_of_cnt I.gb fun r => by rw [due_gone, e]; omega
  exact Prod.ext h1 h2
theorem due_none (B : List α) : due [] B = (List.range B.length, []) := rfl
/-- the one's rows that stay, and the other's alone -/
def stays (A B : List α) : List α := (((List.range A.length).filter fun k => decide (k ∉ (due A B).2)).filterMap fun k => A[k]?) ++ (due A B).1.filterMap fun j => B[j]?
theorem count_rows (A : List α) (g : List Nat) (r : α) : (g.filterMap fun k => A[k]?).count r = cnt A g r := by
  induction g with
  | nil => rfl
  | cons j g ih =>
    rw [show j :: g = [j] ++ g from rfl, List.filterMap_append, List.count_append, cnt_app, ih, cnt_one]
    congr 1
    cases h : A[j]? with
    | none => simp [h]
    | some a =>
      simp only [List.filterMap_cons, h, List.filterMap_nil, List.count_singleton, Option.some.injEq, beq_iff_eq]
theorem stays_perm (A B : List α) : (stays A B).Perm B := by
  rw [List.perm_iff_count]
  intro r
  have I := due_of A B
  have p : (List.range A.length).Perm ((due A B).2 ++ (List.range A.length).filter fun k => decide (k ∉ (due A B).2)) := by
    rw [List.perm_ext_iff_of_nodup List.nodup_range]
    · intro a
      simp only [List.mem_append, List.mem_filter, List.mem_range, decide_eq_true_eq]
      constructor
      · intro h
        by_cases z : a ∈ (due A B).2
        · exact .inl z
        · exact .inr ⟨h, z⟩
      · rintro (h | h)
        · exact I.gb a h
        · exact h.1
    · rw [List.nodup_append]
      refine ⟨I.gn, List.Nodup.sublist List.filter_sublist List.nodup_range, ?_⟩
      intro a ha b hb e
      subst e
      simp only [List.mem_filter, decide_eq_true_eq] at hb
      exact hb.2 ha
  have z := cnt_perm A p r
  rw [cnt_app, cnt_all, due_gone] at z
  unfold stays
  rw [List.count_append, count_rows, count_rows, due_left]
  omega
end
end VL

set_option Elab.async false
set_option linter.all false
set_option maxRecDepth 100000
set_option maxHeartbeats 4000000
namespace VL
open PySem PySem.Spec PyProof.Rows L2
noncomputable def L_due_k80 : Mir := mFn 2 5
 ((mSeq (mSet 2 (mLst (mLR1 (mN lenD (mCons (mVar 1) mNil)))))
 (mSeq (mSet 3 (mLst (mDsp mNil)))
 (mSeq (mFor (mItA range1D (mCons (mN lenD (mCons (mVar 0) mNil)) mNil)) (gNm 4) (mSeq (mSet 5 (mLst (mLc (mIt (mVar 2)) (gNm 6) (mB (m2 eqD (m2 ixD (mVar 1) (mVar 6)) (m2 ixD (mVar 0) (mVar 4)))) (mVar 6) [6])))
 (mSeq (mSet 2 (mLst (mLc (mIt (mVar 2)) (gNm 6) (mB (m2 (inD not) (mVar 6) (mSl (mVar 5) mPn (mPs (mC (.int 1)))))) (mVar 6) [6])))
 (mSet 3 (m2 addD (mVar 3) (m2 mulD (mLst (mDsp (mCons (mVar 4) mNil))) (mN int1D (mCons (m2 eqD (mVar 5) (mLst (mDsp mNil))) mNil))))))))
 (mRet (mTup (mCons (mVar 3) (mCons (mVar 2) mNil))))))))
noncomputable def L_law_k80 : Mir := mFn 1 12
 ((mSeq (mSetO 1 (mDsp mNil))
 (mSeq (mAsg (gTp [(gNm 2), (gNm 3)]) (mCall L_two (mAr 0 (mAb 1 (mAv (mC (.int 10)) mANil)))))
 (mSeq (mIfS (mB (m2 eqD (mCall L_draw (mAr 0 (mAb 1 (mAv (mC (.int 2)) mANil)))) (mC (.int 0)))) (mSet 2 (mTup (mCons (m2 ixD (mVar 2) (mC (.int 0))) (mCons (m2 addD (m2 ixD (mVar 2) (mC (.int 1))) (mSl (m2 ixD (mVar 3) (mC (.int 1))) mPn (mPs (mC (.int 2))))) mNil)))) mNx)
 (mSeq (mSet 4 (mCall M_changes (mAv (mVar 2) (mAv (mVar 3) mANil))))
 (mSeq (mIfS (mOr (mB (m2 neD (mVar 4) (mCall L_due_k80 (mAv (m2 ixD (mVar 2) (mC (.int 1))) (mAv (m2 ixD (mVar 3) (mC (.int 1))) mANil))))) (mB (m2 neD (mCall M_changes (mAv (mVar 2) (mAv (mVar 2) mANil))) (mTup (mCons (mLst (mDsp mNil)) (mCons (mLst (mDsp mNil)) mNil)))))) (mRet (mC (.bool false))) mNx)
 (mSeq (mAsg (gTp [(gNm 5), (gNm 6)]) (mVar 4))
 (mSeq (mSet 7 (mLst (mDsp mNil)))
 (mSeq (mFor (mIt (m2 addD (m2 ixD (mVar 2) (mC (.int 1))) (m2 ixD (mVar 3) (mC (.int 1))))) (gNm 8) (mSet 7 (m2 addD (mVar 7) (m2 mulD (mLst (mDsp (mCons (mVar 8) mNil))) (mN int1D (mCons (m2 (inD not) (mVar 8) (mVar 7)) mNil))))))
 (mSeq (mFor (mIt (mVar 7)) (gNm 8) (mSeq (mSet 9 (mN lenD (mCons (mLst (mLc (mItA range1D (mCons (mN lenD (mCons (m2 ixD (mVar 2) (mC (.int 1))) mNil)) mNil)) (gNm 10) (mB (m2 eqD (m2 ixD (m2 ixD (mVar 2) (mC (.int 1))) (mVar 10)) (mVar 8))) (mVar 10) [10])) mNil)))
 (mSeq (mSet 9 (m2 subD (mVar 9) (mN lenD (mCons (mLst (mLc (mItA range1D (mCons (mN lenD (mCons (m2 ixD (mVar 3) (mC (.int 1))) mNil)) mNil)) (gNm 10) (mB (m2 eqD (m2 ixD (m2 ixD (mVar 3) (mC (.int 1))) (mVar 10)) (mVar 8))) (mVar 10) [10])) mNil))))
 (mSeq (mSet 11 (mLst (mDsp (mCons (mN lenD (mCons (mLst (mLc (mIt (mVar 5)) (gNm 10) (mB (m2 eqD (m2 ixD (m2 ixD (mVar 2) (mC (.int 1))) (mVar 10)) (mVar 8))) (mVar 10) [10])) mNil)) (mCons (mN lenD (mCons (mLst (mLc (mIt (mVar 6)) (gNm 10) (mB (m2 eqD (m2 ixD (m2 ixD (mVar 3) (mC (.int 1))) (mVar 10)) (mVar 8))) (mVar 10) [10])) mNil)) mNil)))))
 (mIfS (mB (m2 neD (mVar 11) (mLst (mDsp (mCons (mN max2D (mCons (mC (.int 0)) (mCons (mVar 9) mNil))) (mCons (mN max2D (mCons (mC (.int 0)) (mCons (m2 subD (mC (.int 0)) (mVar 9)) mNil))) mNil)))))) (mRet (mC (.bool false))) mNx)))))
 (mSeq (mSet 12 (m2 addD (mLst (mLc (mItA range1D (mCons (mN lenD (mCons (m2 ixD (mVar 2) (mC (.int 1))) mNil)) mNil)) (gNm 10) (mB (m2 (inD not) (mVar 10) (mVar 5))) (m2 ixD (m2 ixD (mVar 2) (mC (.int 1))) (mVar 10)) [10])) (mLst (mLc (mIt (mVar 6)) (gNm 10) mYes (m2 ixD (m2 ixD (mVar 3) (mC (.int 1))) (mVar 10)) [10]))))
 (mSeq (mIfS (mB (m2 neD (mCall M_changes (mAv (mTup (mCons (m2 ixD (mVar 2) (mC (.int 0))) (mCons (mVar 12) mNil))) (mAv (mVar 3) mANil))) (mTup (mCons (mLst (mDsp mNil)) (mCons (mLst (mDsp mNil)) mNil))))) (mRet (mC (.bool false))) mNx)
 (mRet (m2 eqD (mCall M_changes (mAv (mTup (mCons (m2 ixD (mVar 2) (mC (.int 0))) (mCons (mLst (mDsp mNil)) mNil))) (mAv (mVar 3) mANil))) (mTup (mCons (mLst (mDsp mNil)) (mCons (mLst (mLR1 (mN lenD (mCons (m2 ixD (mVar 3) (mC (.int 1))) mNil)))) mNil)))))))))))))))))
end VL

set_option Elab.async false
set_option linter.all false
set_option maxRecDepth 100000
set_option maxHeartbeats 4000000
/-! Math_k80: changes. -/
namespace VL
open PySem L2
theorem look_two_ok {cs : List Col} {A B : List (List PyData)} (hA : TabOk cs A) (hB : TabOk cs B) (hg : Gd (colsD cs)) : M_look_two [.val (tabD cs A), .val (tabD cs B)] = .ok .none [.un, .un] := by
  have e1 := look_table_ok hA
  have e2 := look_table_ok hB
  have e3 : ∀ X, ixD (tabD cs X) (.int 0) = some (colsD cs) := fun _ => rfl
  have e4 : neD (colsD cs) (colsD cs) = some (.bool false) := by rw [neD_g hg hg]; simp
  unfold M_look_two mFn
  simp only [mSeq, mSet, mSetO, mSet2, mRet, mRetN, mDrop, mIfS, mIf, mB, mTru, mAnd, mOr, mNot, mAndV, mOrV, mNotV, mChain, mRaise, mNx, m1, m2, mN, mNL, mVar, mC, mNil, mCons, mLst, mTup, mDsp, mCall, mANil, mAv, mAr, mAb, hasR, hasB, toSl, VL.bs, back, mMut, heldR, setR, peekR, mLenP, mLenO, mRd, mItA, mIt, mAsg, gNm, gTp, gSeq, mYes, mSl, mPs, mPn, mKn, ok_bind, Oc.bind, Oc.opt, lenD_l, lenD_t, tupD, truD, isi_str_str, isi_str_tup, isi_str_int, isi_str_non, isi_str_lst, isi_tup_tup, isi_tup_lst, isi_tup_str, isi_tup_int, isi_tup_non, isi_lst_lst, isi_lst_tup, isi_int_int, isi_int_str, isi_int_non, isi_bool_int, isi_int_tup, isi_bool_tup, isi_bool_str, isi_bool_non, isi_lst_str, isi_lst_int, isi_lst_non, isD, isntD, isNoneD, addD_i, subD_i, seqD, appendD, List.replicate, List.append_nil, List.cons_append, List.nil_append, List.getElem?_cons_zero, List.getElem?_cons_succ, List.set_cons_zero, List.set_cons_succ, List.length_cons, List.length_nil, List.nodup_nil, List.nodup_cons, List.not_mem_nil, not_false_eq_true, and_self, Option.map, if_true, if_false, Bool.false_eq_true, Bool.not_true, Bool.not_false, Bool.and_true, Bool.true_and, Bool.false_and, Bool.and_false, finR, Sl.fin, wipeR, restR, List.getD_cons_zero, List.getD_cons_succ, decide_true, decide_false, Nat.reduceAdd, Nat.reduceLT, e1, e2, e3, e4]
  rfl
theorem gd_cols (cs : List Col) : Gd (colsD cs) := by
  refine List.all_eq_true.mpr fun d hd => ?_
  obtain ⟨c, hc, rfl⟩ := List.mem_map.mp hd
  rfl
theorem ix_rows {A : List (List PyData)} {i : Nat} {r : List PyData} (h : A[i]? = some r) : ixD (rowsD A) (.int (i : Int)) = some (.tuple r) := ix_list h
theorem row_eq {r s : List PyData} (hr : Gd (.tuple r)) (hs : Gd (.tuple s)) : eqD (.tuple r) (.tuple s) = some (.bool (decide (r = s))) := by
  rw [eqD_g hr hs]
  congr 2
  simp
theorem ix0 (d : PyData) (ds : List PyData) : ixD (.list (d :: ds)) (.int 0) = some d := atI_n (d :: ds) 0
def nD (k : Nat) : PyData := .int (k : Int)
theorem ints_nD : ∀ l : List Nat, intsD (l.map nD) = some (l.map fun k : Nat => (k : Int))
  | [] => rfl
  | k :: l => by
    show (intsD (l.map nD)).map _ = _
    rw [ints_nD l]
    rfl
theorem erase_cast (j : Nat) : ∀ l : List Nat, (l.map fun k : Nat => (k : Int)).erase (j : Int) = (l.erase j).map fun k : Nat => (k : Int)
  | [] => rfl
  | k :: l => by
    by_cases h : k = j
    · subst h; simp
    · rw [List.map_cons, List.erase_cons_tail (by simpa using fun z => h (by omega)), List.erase_cons_tail (by simpa using h), erase_cast j l]
      rfl
theorem remove_nD {l : List Nat} {j : Nat} (h : j ∈ l) : removeD (l.map nD) (.int (j : Int)) = some ((l.erase j).map nD) := by
  show (match intsD (l.map nD), PyData.int (j : Int) with
    | some ns, .int k => if k ∈ ns then some ((ns.erase k).map PyData.int) else none
    | _, _ => none) = _
  rw [ints_nD]
  dsimp only
  rw [if_pos (List.mem_map_of_mem (f := fun k : Nat => (k : Int)) h), erase_cast, List.map_map]
  rfl
/-- the rows of both, as the law and the program compare them -/
structure Two (A B : List (List PyData)) : Prop where
  a : A.length ≤ 24
  b : B.length ≤ 24
  ga : ∀ r ∈ A, Gd (.tuple r)
  gb : ∀ r ∈ B, Gd (.tuple r)
noncomputable def dueD (A B : List (List PyData)) : PyData := .tuple [.list ((due A B).2.map nD), .list ((due A B).1.map nD)]
theorem same_test {A B : List (List PyData)} (h : Two A B) {i j : Nat} (hi : i < A.length) (hj : j < B.length) : eqD (.tuple B[j]) (.tuple A[i]) = some (.bool (decide (B[j]? = A[i]?))) := by
  rw [row_eq (h.gb _ (List.getElem_mem hj)) (h.ga _ (List.getElem_mem hi)), List.getElem?_eq_getElem hi, List.getElem?_eq_getElem hj]
  congr 2
  simp
theorem changes_ok {cs : List Col} {A B : List (List PyData)} (hA : TabOk cs A) (hB : TabOk cs B) : M_changes [.val (tabD cs A), .val (tabD cs B)] = .ok (dueD A B) [.un, .un] := by
  have h : Two A B := ⟨hA.few, hB.few, fun r hr => (hA.rows r hr).gd 49, fun r hr => (hB.rows r hr).gd 49⟩
  have e0 := look_two_ok hA hB (gd_cols cs)
  have e1 : ∀ X, ixD (tabD cs X) (.int 1) = some (rowsD X) := fun _ => rfl
  have e2 : ∀ X, lenD [rowsD X] = some (.int (X.length : Nat)) := fun X => by show some (PyData.int ((X.map PyData.tuple).length : Nat)) = _; rw [List.length_map]
  have hb := h.b
  have ha := h.a
  have e3 : mLR1 (mN lenD (mCons (m2 ixD (mVar 1) (mC (.int 1))) mNil)) [.val (tabD cs A), .val (tabD cs B), .un, .un, .un, .un, .un] = .ok ((List.range B.length).map nD) [.val (tabD cs A), .val (tabD cs B), .un, .un, .un, .un, .un] := by
    have z : decide (((B.length : Nat) : Int).natAbs ≤ 16777216) = true := decide_eq_true (by omega)
    unfold mLR1
    simp only [mSeq, mSet, mSetO, mSet2, mRet, mRetN, mDrop, mIfS, mIf, mB, mTru, mAnd, mOr, mNot, mAndV, mOrV, mNotV, mChain, mRaise, mNx, m1, m2, mN, mNL, mVar, mC, mNil, mCons, mLst, mTup, mDsp, mCall, mANil, mAv, mAr, mAb, hasR, hasB, toSl, VL.bs, back, mMut, heldR, setR, peekR, mLenP, mLenO, mRd, mItA, mIt, mAsg, gNm, gTp, gSeq, mYes, mSl, mPs, mPn, mKn, ok_bind, Oc.bind, Oc.opt, lenD_l, lenD_t, tupD, truD, isi_str_str, isi_str_tup, isi_str_int, isi_str_non, isi_str_lst, isi_tup_tup, isi_tup_lst, isi_tup_str, isi_tup_int, isi_tup_non, isi_lst_lst, isi_lst_tup, isi_int_int, isi_int_str, isi_int_non, isi_bool_int, isi_int_tup, isi_bool_tup, isi_bool_str, isi_bool_non, isi_lst_str, isi_lst_int, isi_lst_non, isD, isntD, isNoneD, addD_i, subD_i, seqD, appendD, List.replicate, List.append_nil, List.cons_append, List.nil_append, List.getElem?_cons_zero, List.getElem?_cons_succ, List.set_cons_zero, List.set_cons_succ, List.length_cons, List.length_nil, List.nodup_nil, List.nodup_cons, List.not_mem_nil, not_false_eq_true, and_self, Option.map, if_true, if_false, Bool.false_eq_true, Bool.not_true, Bool.not_false, Bool.and_true, Bool.true_and, Bool.false_and, Bool.and_false, finR, Sl.fin, wipeR, restR, List.getD_cons_zero, List.getD_cons_succ, decide_true, decide_false, Nat.reduceAdd, Nat.reduceLT, e1, e2, z]
    rw [rngD_n]
    rfl
  have e4 : range1D [.int (A.length : Nat)] = some ((List.range A.length).map nD) := range1_n A.length (by omega)
  obtain ⟨fl, ρ, e5, rfl, s4, s5, s6, z4, z5, z6, rfl⟩ := mFor_inv (fs := mItA range1D (mCons (mN lenD (mCons (m2 ixD (mVar 0) (mC (.int 1))) mNil)) mNil)) (g := gNm 4)
    (m := mSeq (mSet 5 (mLst (mPeek 2 fun ds => mLc (mKn ds) (gNm 6) (mB (m2 eqD (m2 ixD (m2 ixD (mVar 1) (mC (.int 1))) (mVar 6)) (m2 ixD (m2 ixD (mVar 0) (mC (.int 1))) (mVar 4)))) (mVar 6) [6])))
      (mIfS (mTru (mVar 5)) (mMut 2 removeD (m2 ixD (mVar 5) (mC (.int 0)))) (mMut 3 appendD (mVar 4))))
    (ρ := [.val (tabD cs A), .val (tabD cs B), .own ((List.range B.length).map nD), .own [], .un, .un, .un])
    (P := fun fl ρ => fl = .nx ∧ ∃ s4 s5 s6 : Sl, s4.fin = .un ∧ s5.fin = .un ∧ s6.fin = .un ∧ ρ = [.val (tabD cs A), .val (tabD cs B), .own ((dueTo A B A.length).1.map nD), .own ((dueTo A B A.length).2.map nD), s4, s5, s6])
    (fun i ρ => i ≤ A.length ∧ ∃ s4 s5 s6 : Sl, s4.fin = .un ∧ s5.fin = .un ∧ s6 = .un ∧ ρ = [.val (tabD cs A), .val (tabD cs B), .own ((dueTo A B i).1.map nD), .own ((dueTo A B i).2.map nD), s4, s5, s6])
    ((List.range A.length).map nD) (by simp only [mSeq, mSet, mSetO, mSet2, mRet, mRetN, mDrop, mIfS, mIf, mB, mTru, mAnd, mOr, mNot, mAndV, mOrV, mNotV, mChain, mRaise, mNx, m1, m2, mN, mNL, mVar, mC, mNil, mCons, mLst, mTup, mDsp, mCall, mANil, mAv, mAr, mAb, hasR, hasB, toSl, VL.bs, back, mMut, heldR, setR, peekR, mLenP, mLenO, mRd, mItA, mIt, mAsg, gNm, gTp, gSeq, mYes, mSl, mPs, mPn, mKn, ok_bind, Oc.bind, Oc.opt, lenD_l, lenD_t, tupD, truD, isi_str_str, isi_str_tup, isi_str_int, isi_str_non, isi_str_lst, isi_tup_tup, isi_tup_lst, isi_tup_str, isi_tup_int, isi_tup_non, isi_lst_lst, isi_lst_tup, isi_int_int, isi_int_str, isi_int_non, isi_bool_int, isi_int_tup, isi_bool_tup, isi_bool_str, isi_bool_non, isi_lst_str, isi_lst_int, isi_lst_non, isD, isntD, isNoneD, addD_i, subD_i, seqD, appendD, List.replicate, List.append_nil, List.cons_append, List.nil_append, List.getElem?_cons_zero, List.getElem?_cons_succ, List.set_cons_zero, List.set_cons_succ, List.length_cons, List.length_nil, List.nodup_nil, List.nodup_cons, List.not_mem_nil, not_false_eq_true, and_self, Option.map, if_true, if_false, Bool.false_eq_true, Bool.not_true, Bool.not_false, Bool.and_true, Bool.true_and, Bool.false_and, Bool.and_false, finR, Sl.fin, wipeR, restR, List.getD_cons_zero, List.getD_cons_succ, decide_true, decide_false, Nat.reduceAdd, Nat.reduceLT, e1, e2, e4]; rfl) ⟨Nat.zero_le _, .un, .un, .un, rfl, rfl, rfl, rfl⟩
    (by
      rintro i d ρ hd ⟨hi, s4, s5, s6, z4, z5, rfl, rfl⟩
      have hi : i < A.length := by
        have := (List.getElem?_eq_some_iff.mp hd).1
        simpa using this
      have hd' : d = nD i := by
        rw [List.getElem?_map, List.getElem?_range hi] at hd
        simpa using hd.symm
      subst hd'
      have I := due_inv A B i (by omega)
      rw [dueTo_succ]
      generalize dueTo A B i = s at I ⊢
      obtain ⟨l, g⟩ := s
      have lb := I.lb
      have ln := I.ln
      have gb := I.gb
      dsimp only at lb ln gb
      have hlen : l.length ≤ 16777216 := by
        have := List.Nodup.length_le_of_subset ln (l₂ := List.range B.length) (fun x hx => List.mem_range.mpr (lb x hx))
        rw [List.length_range] at this
        omega
      have hglen : g.length ≤ 24 := by
        have := List.Nodup.length_le_of_subset I.gn (l₂ := List.range i) (fun x hx => List.mem_range.mpr (gb x hx))
        rw [List.length_range] at this
        exact Nat.le_trans this (by omega)
      have x1 := ix_rows (List.getElem?_eq_getElem hi)
      have f1 := mLc_pure (fs := mKn (l.map nD)) (g := gNm 6) (t := mB (m2 eqD (m2 ixD (m2 ixD (mVar 1) (mC (.int 1))) (mVar 6)) (m2 ixD (m2 ixD (mVar 0) (mC (.int 1))) (mVar 4)))) (f := mVar 6) (vs := [6])
        (ρ := [.val (tabD cs A), .val (tabD cs B), .un, .own (g.map nD), .val (.int (i : Int)), s5, .un]) (ρ1 := [.val (tabD cs A), .val (tabD cs B), .un, .own (g.map nD), .val (.int (i : Int)), s5, .un]) l nD (fun j => decide (B[j]? = A[i]?)) nD rfl rfl
        (fun j hj => ⟨[.val (tabD cs A), .val (tabD cs B), .un, .own (g.map nD), .val (.int (i : Int)), s5, .val (.int (j : Int))], rfl, by
          have x2 := ix_rows (List.getElem?_eq_getElem (lb j hj))
          have x3 := same_test h hi (lb j hj)
          simp only [mSeq, mSet, mSetO, mSet2, mRet, mRetN, mDrop, mIfS, mIf, mB, mTru, mAnd, mOr, mNot, mAndV, mOrV, mNotV, mChain, mRaise, mNx, m1, m2, mN, mNL, mVar, mC, mNil, mCons, mLst, mTup, mDsp, mCall, mANil, mAv, mAr, mAb, hasR, hasB, toSl, VL.bs, back, mMut, heldR, setR, peekR, mLenP, mLenO, mRd, mItA, mIt, mAsg, gNm, gTp, gSeq, mYes, mSl, mPs, mPn, mKn, ok_bind, Oc.bind, Oc.opt, lenD_l, lenD_t, tupD, truD, isi_str_str, isi_str_tup, isi_str_int, isi_str_non, isi_str_lst, isi_tup_tup, isi_tup_lst, isi_tup_str, isi_tup_int, isi_tup_non, isi_lst_lst, isi_lst_tup, isi_int_int, isi_int_str, isi_int_non, isi_bool_int, isi_int_tup, isi_bool_tup, isi_bool_str, isi_bool_non, isi_lst_str, isi_lst_int, isi_lst_non, isD, isntD, isNoneD, addD_i, subD_i, seqD, appendD, List.replicate, List.append_nil, List.cons_append, List.nil_append, List.getElem?_cons_zero, List.getElem?_cons_succ, List.set_cons_zero, List.set_cons_succ, List.length_cons, List.length_nil, List.nodup_nil, List.nodup_cons, List.not_mem_nil, not_false_eq_true, and_self, Option.map, if_true, if_false, Bool.false_eq_true, Bool.not_true, Bool.not_false, Bool.and_true, Bool.true_and, Bool.false_and, Bool.and_false, finR, Sl.fin, wipeR, restR, List.getD_cons_zero, List.getD_cons_succ, decide_true, decide_false, Nat.reduceAdd, Nat.reduceLT, e1, x1, x2, x3], fun _ => rfl, rfl, rfl⟩) hlen
      have f2 : (l.filter fun j => decide (B[j]? = A[i]?)) = same80 A B l i := rfl
      rw [f2] at f1
      have f3 : isUn [.val (tabD cs A), .val (tabD cs B), .un, .own (g.map nD), .val (.int (i : Int)), s5, .un] 2 = true := rfl
      refine ⟨[.val (tabD cs A), .val (tabD cs B), .own (l.map nD), .own (g.map nD), .val (.int (i : Int)), s5, .un], rfl, ?_⟩
      unfold dstep
      dsimp only
      cases e : same80 A B l i with
      | nil =>
        rw [e] at f1
        have f4 : fits ((g.map nD).length + 1) = true := decide_eq_true (by rw [List.length_map]; omega)
        refine ⟨.nx, [.val (tabD cs A), .val (tabD cs B), .own (l.map nD), .own ((g ++ [i]).map nD), .val (.int (i : Int)), .val (.list []), .un], ?_, by omega, _, _, _, rfl, rfl, rfl, rfl⟩
        simp only [mSeq, mSet, mSetO, mSet2, mRet, mRetN, mDrop, mIfS, mIf, mB, mTru, mAnd, mOr, mNot, mAndV, mOrV, mNotV, mChain, mRaise, mNx, m1, m2, mN, mNL, mVar, mC, mNil, mCons, mLst, mTup, mDsp, mCall, mANil, mAv, mAr, mAb, hasR, hasB, toSl, VL.bs, back, mMut, heldR, setR, peekR, mLenP, mLenO, mRd, mItA, mIt, mAsg, gNm, gTp, gSeq, mYes, mSl, mPs, mPn, mKn, ok_bind, Oc.bind, Oc.opt, lenD_l, lenD_t, tupD, truD, isi_str_str, isi_str_tup, isi_str_int, isi_str_non, isi_str_lst, isi_tup_tup, isi_tup_lst, isi_tup_str, isi_tup_int, isi_tup_non, isi_lst_lst, isi_lst_tup, isi_int_int, isi_int_str, isi_int_non, isi_bool_int, isi_int_tup, isi_bool_tup, isi_bool_str, isi_bool_non, isi_lst_str, isi_lst_int, isi_lst_non, isD, isntD, isNoneD, addD_i, subD_i, seqD, appendD, List.replicate, List.append_nil, List.cons_append, List.nil_append, List.getElem?_cons_zero, List.getElem?_cons_succ, List.set_cons_zero, List.set_cons_succ, List.length_cons, List.length_nil, List.nodup_nil, List.nodup_cons, List.not_mem_nil, not_false_eq_true, and_self, Option.map, if_true, if_false, Bool.false_eq_true, Bool.not_true, Bool.not_false, Bool.and_true, Bool.true_and, Bool.false_and, Bool.and_false, finR, Sl.fin, wipeR, restR, List.getD_cons_zero, List.getD_cons_succ, decide_true, decide_false, Nat.reduceAdd, Nat.reduceLT, mPeek, f1, f3, List.map_nil, List.isEmpty_nil, f4, List.map_append, List.map_cons]
        rfl
      | cons j t =>
        rw [e] at f1
        have hj : j ∈ l := (List.mem_filter.mp (show j ∈ same80 A B l i by rw [e]; exact List.mem_cons_self)).1
        have f4 := remove_nD hj
        have f5 : ixD (.list (nD j :: t.map nD)) (.int 0) = some (.int (j : Int)) := ix0 _ _
        refine ⟨.nx, [.val (tabD cs A), .val (tabD cs B), .own ((l.erase j).map nD), .own (g.map nD), .val (.int (i : Int)), .val (.list (nD j :: t.map nD)), .un], ?_, by omega, _, _, _, rfl, rfl, rfl, rfl⟩
        simp only [mSeq, mSet, mSetO, mSet2, mRet, mRetN, mDrop, mIfS, mIf, mB, mTru, mAnd, mOr, mNot, mAndV, mOrV, mNotV, mChain, mRaise, mNx, m1, m2, mN, mNL, mVar, mC, mNil, mCons, mLst, mTup, mDsp, mCall, mANil, mAv, mAr, mAb, hasR, hasB, toSl, VL.bs, back, mMut, heldR, setR, peekR, mLenP, mLenO, mRd, mItA, mIt, mAsg, gNm, gTp, gSeq, mYes, mSl, mPs, mPn, mKn, ok_bind, Oc.bind, Oc.opt, lenD_l, lenD_t, tupD, truD, isi_str_str, isi_str_tup, isi_str_int, isi_str_non, isi_str_lst, isi_tup_tup, isi_tup_lst, isi_tup_str, isi_tup_int, isi_tup_non, isi_lst_lst, isi_lst_tup, isi_int_int, isi_int_str, isi_int_non, isi_bool_int, isi_int_tup, isi_bool_tup, isi_bool_str, isi_bool_non, isi_lst_str, isi_lst_int, isi_lst_non, isD, isntD, isNoneD, addD_i, subD_i, seqD, appendD, List.replicate, List.append_nil, List.cons_append, List.nil_append, List.getElem?_cons_zero, List.getElem?_cons_succ, List.set_cons_zero, List.set_cons_succ, List.length_cons, List.length_nil, List.nodup_nil, List.nodup_cons, List.not_mem_nil, not_false_eq_true, and_self, Option.map, if_true, if_false, Bool.false_eq_true, Bool.not_true, Bool.not_false, Bool.and_true, Bool.true_and, Bool.false_and, Bool.and_false, finR, Sl.fin, wipeR, restR, List.getD_cons_zero, List.getD_cons_succ, decide_true, decide_false, Nat.reduceAdd, Nat.reduceLT, mPeek, f1, f3, List.map_cons, List.isEmpty_cons, f5, f4])
    (by
      rintro ρ ⟨_, s4, s5, s6, z4, z5, rfl, rfl⟩
      rw [List.length_map, List.length_range]
      exact ⟨rfl, s4, s5, .un, z4, z5, rfl, rfl⟩)
  have f2 : fits 2 = true := rfl
  have f0 : fits 0 = true := rfl
  unfold M_changes mFn
  simp only [mSeq, mSet, mSetO, mSet2, mRet, mRetN, mDrop, mIfS, mIf, mB, mTru, mAnd, mOr, mNot, mAndV, mOrV, mNotV, mChain, mRaise, mNx, m1, m2, mN, mNL, mVar, mC, mNil, mCons, mLst, mTup, mDsp, mCall, mANil, mAv, mAr, mAb, hasR, hasB, toSl, VL.bs, back, mMut, heldR, setR, peekR, mLenP, mLenO, mRd, mItA, mIt, mAsg, gNm, gTp, gSeq, mYes, mSl, mPs, mPn, mKn, ok_bind, Oc.bind, Oc.opt, lenD_l, lenD_t, tupD, truD, isi_str_str, isi_str_tup, isi_str_int, isi_str_non, isi_str_lst, isi_tup_tup, isi_tup_lst, isi_tup_str, isi_tup_int, isi_tup_non, isi_lst_lst, isi_lst_tup, isi_int_int, isi_int_str, isi_int_non, isi_bool_int, isi_int_tup, isi_bool_tup, isi_bool_str, isi_bool_non, isi_lst_str, isi_lst_int, isi_lst_non, isD, isntD, isNoneD, addD_i, subD_i, seqD, appendD, List.replicate, List.append_nil, List.cons_append, List.nil_append, List.getElem?_cons_zero, List.getElem?_cons_succ, List.set_cons_zero, List.set_cons_succ, List.length_cons, List.length_nil, List.nodup_nil, List.nodup_cons, List.not_mem_nil, not_false_eq_true, and_self, Option.map, if_true, if_false, Bool.false_eq_true, Bool.not_true, Bool.not_false, Bool.and_true, Bool.true_and, Bool.false_and, Bool.and_false, finR, Sl.fin, wipeR, restR, List.getD_cons_zero, List.getD_cons_succ, decide_true, decide_false, Nat.reduceAdd, Nat.reduceLT, e0, e3, f0, e5, f2, z4, z5, z6, Nat.reduceLT]
  rfl
theorem mem_nD {j : Nat} {es : List Nat} : decide (nD j ∈ es.map nD) = decide (j ∈ es) := by
  rw [decide_eq_decide]
  constructor
  · intro h
    obtain ⟨k, hk, e⟩ := List.mem_map.mp h
    have : k = j := by unfold nD at e; simp at e; omega
    exact this ▸ hk
  · exact fun h => List.mem_map_of_mem h
theorem notin_nD (j : Nat) (es : List Nat) : inD not (nD j) (.list (es.map nD)) = some (.bool (!decide (j ∈ es))) := by
  show inSeq not _ _ = _
  rw [inSeq_g rfl (by intro e he; obtain ⟨k, _, rfl⟩ := List.mem_map.mp he; rfl), mem_nD]
theorem slD_one (ds : List PyData) : slD (.list ds) none (some 1) = some (.list (ds.take 1)) := slD_hi ds 1
theorem slD_two (ds : List PyData) : slD (.list ds) none (some 2) = some (.list (ds.take 2)) := slD_hi ds 2
theorem gd_nats (l : List Nat) (n : Nat) : gdn (n + 1) (.list (l.map nD)) = true := List.all_eq_true.mpr fun d hd => by
  obtain ⟨k, _, rfl⟩ := List.mem_map.mp hd
  cases n <;> rfl
theorem same_nil (l : List Nat) : eqD (.list (l.map nD)) (.list []) = some (.bool (decide (l = []))) := by
  rw [eqD_g (gd_nats l 49) rfl]
  congr 2
  cases l <;> simp
theorem mul_one (d : PyData) : mulD (.list [d]) (.int 1) = some (.list [d]) := rfl
theorem mul_nil (d : PyData) : mulD (.list [d]) (.int 0) = some (.list []) := rfl
theorem int_b (b : Bool) : int1D [.bool b] = some (.int (if b then 1 else 0)) := by cases b <;> rfl
theorem filter_same {A B : List (List PyData)} {l : List Nat} {i : Nat} (ln : l.Nodup) : (l.filter fun j => !decide (j ∈ (same80 A B l i).take 1)) = match same80 A B l i with
  | [] => l
  | j :: _ => l.erase j := by
  cases e : same80 A B l i with
  | nil => simp
  | cons j t =>
    dsimp only
    rw [ln.erase_eq_filter]
    congr 1
    funext x
    rw [Bool.eq_iff_iff]
    simp
theorem due_ok {A B : List (List PyData)} (h : Two A B) : L_due_k80 [.val (rowsD A), .val (rowsD B)] = .ok (dueD A B) [.un, .un] := by
  have e2 : ∀ X, lenD [rowsD X] = some (.int (X.length : Nat)) := fun X => by show some (PyData.int ((X.map PyData.tuple).length : Nat)) = _; rw [List.length_map]
  have hb := h.b
  have ha := h.a
  have e3 : mLR1 (mN lenD (mCons (mVar 1) mNil)) [.val (rowsD A), .val (rowsD B), .un, .un, .un, .un, .un] = .ok ((List.range B.length).map nD) [.val (rowsD A), .val (rowsD B), .un, .un, .un, .un, .un] := by
    have z : decide (((B.length : Nat) : Int).natAbs ≤ 16777216) = true := decide_eq_true (by omega)
    unfold mLR1
    simp only [mSeq, mSet, mSetO, mSet2, mRet, mRetN, mDrop, mIfS, mIf, mB, mTru, mAnd, mOr, mNot, mAndV, mOrV, mNotV, mChain, mRaise, mNx, m1, m2, mN, mNL, mVar, mC, mNil, mCons, mLst, mTup, mDsp, mCall, mANil, mAv, mAr, mAb, hasR, hasB, toSl, VL.bs, back, mMut, heldR, setR, peekR, mLenP, mLenO, mRd, mItA, mIt, mAsg, gNm, gTp, gSeq, mYes, mSl, mPs, mPn, mKn, ok_bind, Oc.bind, Oc.opt, lenD_l, lenD_t, tupD, truD, isi_str_str, isi_str_tup, isi_str_int, isi_str_non, isi_str_lst, isi_tup_tup, isi_tup_lst, isi_tup_str, isi_tup_int, isi_tup_non, isi_lst_lst, isi_lst_tup, isi_int_int, isi_int_str, isi_int_non, isi_bool_int, isi_int_tup, isi_bool_tup, isi_bool_str, isi_bool_non, isi_lst_str, isi_lst_int, isi_lst_non, isD, isntD, isNoneD, addD_i, subD_i, seqD, appendD, List.replicate, List.append_nil, List.cons_append, List.nil_append, List.getElem?_cons_zero, List.getElem?_cons_succ, List.set_cons_zero, List.set_cons_succ, List.length_cons, List.length_nil, List.nodup_nil, List.nodup_cons, List.not_mem_nil, not_false_eq_true, and_self, Option.map, if_true, if_false, Bool.false_eq_true, Bool.not_true, Bool.not_false, Bool.and_true, Bool.true_and, Bool.false_and, Bool.and_false, finR, Sl.fin, wipeR, restR, List.getD_cons_zero, List.getD_cons_succ, decide_true, decide_false, Nat.reduceAdd, Nat.reduceLT, e2, z]
    rw [rngD_n]
    rfl
  have e4 : range1D [.int (A.length : Nat)] = some ((List.range A.length).map nD) := range1_n A.length (by omega)
  have f0 : fits 0 = true := rfl
  have f1' : fits 1 = true := rfl
  have f2 : fits 2 = true := rfl
  obtain ⟨fl, ρ, e5, rfl, s4, s5, s6, z4, z5, z6, rfl⟩ := mFor_inv (fs := mItA range1D (mCons (mN lenD (mCons (mVar 0) mNil)) mNil)) (g := gNm 4)
    (m := mSeq (mSet 5 (mLst (mLc (mIt (mVar 2)) (gNm 6) (mB (m2 eqD (m2 ixD (mVar 1) (mVar 6)) (m2 ixD (mVar 0) (mVar 4)))) (mVar 6) [6])))
      (mSeq (mSet 2 (mLst (mLc (mIt (mVar 2)) (gNm 6) (mB (m2 (inD not) (mVar 6) (mSl (mVar 5) mPn (mPs (mC (.int 1)))))) (mVar 6) [6])))
      (mSet 3 (m2 addD (mVar 3) (m2 mulD (mLst (mDsp (mCons (mVar 4) mNil))) (mN int1D (mCons (m2 eqD (mVar 5) (mLst (mDsp mNil))) mNil)))))))
    (ρ := [.val (rowsD A), .val (rowsD B), .val (.list ((List.range B.length).map nD)), .val (.list []), .un, .un, .un])
    (P := fun fl ρ => fl = .nx ∧ ∃ s4 s5 s6 : Sl, s4.fin = .un ∧ s5.fin = .un ∧ s6.fin = .un ∧ ρ = [.val (rowsD A), .val (rowsD B), .val (.list ((dueTo A B A.length).1.map nD)), .val (.list ((dueTo A B A.length).2.map nD)), s4, s5, s6])
    (fun i ρ => i ≤ A.length ∧ ∃ s4 s5 s6 : Sl, s4.fin = .un ∧ s5.fin = .un ∧ s6 = .un ∧ ρ = [.val (rowsD A), .val (rowsD B), .val (.list ((dueTo A B i).1.map nD)), .val (.list ((dueTo A B i).2.map nD)), s4, s5, s6])
    ((List.range A.length).map nD) (by simp only [mSeq, mSet, mSetO, mSet2, mRet, mRetN, mDrop, mIfS, mIf, mB, mTru, mAnd, mOr, mNot, mAndV, mOrV, mNotV, mChain, mRaise, mNx, m1, m2, mN, mNL, mVar, mC, mNil, mCons, mLst, mTup, mDsp, mCall, mANil, mAv, mAr, mAb, hasR, hasB, toSl, VL.bs, back, mMut, heldR, setR, peekR, mLenP, mLenO, mRd, mItA, mIt, mAsg, gNm, gTp, gSeq, mYes, mSl, mPs, mPn, mKn, ok_bind, Oc.bind, Oc.opt, lenD_l, lenD_t, tupD, truD, isi_str_str, isi_str_tup, isi_str_int, isi_str_non, isi_str_lst, isi_tup_tup, isi_tup_lst, isi_tup_str, isi_tup_int, isi_tup_non, isi_lst_lst, isi_lst_tup, isi_int_int, isi_int_str, isi_int_non, isi_bool_int, isi_int_tup, isi_bool_tup, isi_bool_str, isi_bool_non, isi_lst_str, isi_lst_int, isi_lst_non, isD, isntD, isNoneD, addD_i, subD_i, seqD, appendD, List.replicate, List.append_nil, List.cons_append, List.nil_append, List.getElem?_cons_zero, List.getElem?_cons_succ, List.set_cons_zero, List.set_cons_succ, List.length_cons, List.length_nil, List.nodup_nil, List.nodup_cons, List.not_mem_nil, not_false_eq_true, and_self, Option.map, if_true, if_false, Bool.false_eq_true, Bool.not_true, Bool.not_false, Bool.and_true, Bool.true_and, Bool.false_and, Bool.and_false, finR, Sl.fin, wipeR, restR, List.getD_cons_zero, List.getD_cons_succ, decide_true, decide_false, Nat.reduceAdd, Nat.reduceLT, e2, e4]; rfl) ⟨Nat.zero_le _, .un, .un, .un, rfl, rfl, rfl, rfl⟩
    (by
      rintro i d ρ hd ⟨hi, s4, s5, s6, z4, z5, rfl, rfl⟩
      have hi : i < A.length := by
        have := (List.getElem?_eq_some_iff.mp hd).1
        simpa using this
      have hd' : d = nD i := by
        rw [List.getElem?_map, List.getElem?_range hi] at hd
        simpa using hd.symm
      subst hd'
      have I := due_inv A B i (by omega)
      rw [dueTo_succ]
      generalize dueTo A B i = s at I ⊢
      obtain ⟨l, g⟩ := s
      have lb := I.lb
      have ln := I.ln
      have gb := I.gb
      dsimp only at lb ln gb
      have hlen : l.length ≤ 16777216 := by
        have := List.Nodup.length_le_of_subset ln (l₂ := List.range B.length) (fun x hx => List.mem_range.mpr (lb x hx))
        rw [List.length_range] at this
        omega
      have hglen : g.length ≤ 24 := by
        have := List.Nodup.length_le_of_subset I.gn (l₂ := List.range i) (fun x hx => List.mem_range.mpr (gb x hx))
        rw [List.length_range] at this
        exact Nat.le_trans this (by omega)
      have x1 := ix_rows (List.getElem?_eq_getElem hi)
      have f1 := mLc_pure (fs := mIt (mVar 2)) (g := gNm 6) (t := mB (m2 eqD (m2 ixD (mVar 1) (mVar 6)) (m2 ixD (mVar 0) (mVar 4)))) (f := mVar 6) (vs := [6])
        (ρ := [.val (rowsD A), .val (rowsD B), .val (.list (l.map nD)), .val (.list (g.map nD)), .val (.int (i : Int)), s5, .un]) (ρ1 := [.val (rowsD A), .val (rowsD B), .val (.list (l.map nD)), .val (.list (g.map nD)), .val (.int (i : Int)), s5, .un]) l nD (fun j => decide (B[j]? = A[i]?)) nD rfl rfl
        (fun j hj => ⟨[.val (rowsD A), .val (rowsD B), .val (.list (l.map nD)), .val (.list (g.map nD)), .val (.int (i : Int)), s5, .val (.int (j : Int))], rfl, by
          have x2 := ix_rows (List.getElem?_eq_getElem (lb j hj))
          have x3 := same_test h hi (lb j hj)
          simp only [mSeq, mSet, mSetO, mSet2, mRet, mRetN, mDrop, mIfS, mIf, mB, mTru, mAnd, mOr, mNot, mAndV, mOrV, mNotV, mChain, mRaise, mNx, m1, m2, mN, mNL, mVar, mC, mNil, mCons, mLst, mTup, mDsp, mCall, mANil, mAv, mAr, mAb, hasR, hasB, toSl, VL.bs, back, mMut, heldR, setR, peekR, mLenP, mLenO, mRd, mItA, mIt, mAsg, gNm, gTp, gSeq, mYes, mSl, mPs, mPn, mKn, ok_bind, Oc.bind, Oc.opt, lenD_l, lenD_t, tupD, truD, isi_str_str, isi_str_tup, isi_str_int, isi_str_non, isi_str_lst, isi_tup_tup, isi_tup_lst, isi_tup_str, isi_tup_int, isi_tup_non, isi_lst_lst, isi_lst_tup, isi_int_int, isi_int_str, isi_int_non, isi_bool_int, isi_int_tup, isi_bool_tup, isi_bool_str, isi_bool_non, isi_lst_str, isi_lst_int, isi_lst_non, isD, isntD, isNoneD, addD_i, subD_i, seqD, appendD, List.replicate, List.append_nil, List.cons_append, List.nil_append, List.getElem?_cons_zero, List.getElem?_cons_succ, List.set_cons_zero, List.set_cons_succ, List.length_cons, List.length_nil, List.nodup_nil, List.nodup_cons, List.not_mem_nil, not_false_eq_true, and_self, Option.map, if_true, if_false, Bool.false_eq_true, Bool.not_true, Bool.not_false, Bool.and_true, Bool.true_and, Bool.false_and, Bool.and_false, finR, Sl.fin, wipeR, restR, List.getD_cons_zero, List.getD_cons_succ, decide_true, decide_false, Nat.reduceAdd, Nat.reduceLT, x1, x2, x3], fun _ => rfl, rfl, rfl⟩) hlen
      have f2 : (l.filter fun j => decide (B[j]? = A[i]?)) = same80 A B l i := rfl
      rw [f2] at f1
      have fs := filter_same (A := A) (B := B) (i := i) ln
      have f3 := fun es : List Nat => mLc_pure (fs := mIt (mVar 2)) (g := gNm 6) (t := mB (m2 (inD not) (mVar 6) (mSl (mVar 5) mPn (mPs (mC (.int 1)))))) (f := mVar 6) (vs := [6])
        (ρ := [.val (rowsD A), .val (rowsD B), .val (.list (l.map nD)), .val (.list (g.map nD)), .val (.int (i : Int)), .val (.list (es.map nD)), .un]) (ρ1 := [.val (rowsD A), .val (rowsD B), .val (.list (l.map nD)), .val (.list (g.map nD)), .val (.int (i : Int)), .val (.list (es.map nD)), .un]) l nD (fun j => !decide (j ∈ es.take 1)) nD rfl rfl
        (fun j hj => ⟨[.val (rowsD A), .val (rowsD B), .val (.list (l.map nD)), .val (.list (g.map nD)), .val (.int (i : Int)), .val (.list (es.map nD)), .val (nD j)], rfl, by
          have x2 := slD_one (es.map nD)
          rw [← List.map_take] at x2
          have x3 := notin_nD j (es.take 1)
          simp only [mSeq, mSet, mSetO, mSet2, mRet, mRetN, mDrop, mIfS, mIf, mB, mTru, mAnd, mOr, mNot, mAndV, mOrV, mNotV, mChain, mRaise, mNx, m1, m2, mN, mNL, mVar, mC, mNil, mCons, mLst, mTup, mDsp, mCall, mANil, mAv, mAr, mAb, hasR, hasB, toSl, VL.bs, back, mMut, heldR, setR, peekR, mLenP, mLenO, mRd, mItA, mIt, mAsg, gNm, gTp, gSeq, mYes, mSl, mPs, mPn, mKn, ok_bind, Oc.bind, Oc.opt, lenD_l, lenD_t, tupD, truD, isi_str_str, isi_str_tup, isi_str_int, isi_str_non, isi_str_lst, isi_tup_tup, isi_tup_lst, isi_tup_str, isi_tup_int, isi_tup_non, isi_lst_lst, isi_lst_tup, isi_int_int, isi_int_str, isi_int_non, isi_bool_int, isi_int_tup, isi_bool_tup, isi_bool_str, isi_bool_non, isi_lst_str, isi_lst_int, isi_lst_non, isD, isntD, isNoneD, addD_i, subD_i, seqD, appendD, List.replicate, List.append_nil, List.cons_append, List.nil_append, List.getElem?_cons_zero, List.getElem?_cons_succ, List.set_cons_zero, List.set_cons_succ, List.length_cons, List.length_nil, List.nodup_nil, List.nodup_cons, List.not_mem_nil, not_false_eq_true, and_self, Option.map, if_true, if_false, Bool.false_eq_true, Bool.not_true, Bool.not_false, Bool.and_true, Bool.true_and, Bool.false_and, Bool.and_false, finR, Sl.fin, wipeR, restR, List.getD_cons_zero, List.getD_cons_succ, decide_true, decide_false, Nat.reduceAdd, Nat.reduceLT, x2, x3], fun _ => rfl, rfl, rfl⟩) hlen
      have f3 := f3 (same80 A B l i)
      rw [fs] at f3
      have f4 := same_nil (same80 A B l i)
      refine ⟨[.val (rowsD A), .val (rowsD B), .val (.list (l.map nD)), .val (.list (g.map nD)), .val (.int (i : Int)), s5, .un], rfl, ?_⟩
      unfold dstep
      dsimp only
      cases e : same80 A B l i with
      | nil =>
        rw [e] at f1 f3 f4
        have f5 : addD (.list (g.map nD)) (.list [.int (i : Int)]) = some (.list ((g ++ [i]).map nD)) := by
          rw [addD_l (by simp; omega), List.map_append]
          rfl
        refine ⟨.nx, [.val (rowsD A), .val (rowsD B), .val (.list (l.map nD)), .val (.list ((g ++ [i]).map nD)), .val (.int (i : Int)), .val (.list ([].map nD)), .un], ?_, by omega, _, _, _, rfl, rfl, rfl, rfl⟩
        simp only [mSeq, mSet, mSetO, mSet2, mRet, mRetN, mDrop, mIfS, mIf, mB, mTru, mAnd, mOr, mNot, mAndV, mOrV, mNotV, mChain, mRaise, mNx, m1, m2, mN, mNL, mVar, mC, mNil, mCons, mLst, mTup, mDsp, mCall, mANil, mAv, mAr, mAb, hasR, hasB, toSl, VL.bs, back, mMut, heldR, setR, peekR, mLenP, mLenO, mRd, mItA, mIt, mAsg, gNm, gTp, gSeq, mYes, mSl, mPs, mPn, mKn, ok_bind, Oc.bind, Oc.opt, lenD_l, lenD_t, tupD, truD, isi_str_str, isi_str_tup, isi_str_int, isi_str_non, isi_str_lst, isi_tup_tup, isi_tup_lst, isi_tup_str, isi_tup_int, isi_tup_non, isi_lst_lst, isi_lst_tup, isi_int_int, isi_int_str, isi_int_non, isi_bool_int, isi_int_tup, isi_bool_tup, isi_bool_str, isi_bool_non, isi_lst_str, isi_lst_int, isi_lst_non, isD, isntD, isNoneD, addD_i, subD_i, seqD, appendD, List.replicate, List.append_nil, List.cons_append, List.nil_append, List.getElem?_cons_zero, List.getElem?_cons_succ, List.set_cons_zero, List.set_cons_succ, List.length_cons, List.length_nil, List.nodup_nil, List.nodup_cons, List.not_mem_nil, not_false_eq_true, and_self, Option.map, if_true, if_false, Bool.false_eq_true, Bool.not_true, Bool.not_false, Bool.and_true, Bool.true_and, Bool.false_and, Bool.and_false, finR, Sl.fin, wipeR, restR, List.getD_cons_zero, List.getD_cons_succ, decide_true, decide_false, Nat.reduceAdd, Nat.reduceLT, f1, f3, f4, f0, f1', int_b, mul_one, f5]
      | cons j t =>
        rw [e] at f1 f3 f4
        have f5 : addD (.list (g.map nD)) (.list []) = some (.list (g.map nD)) := by
          rw [addD_l (by simp; omega), List.append_nil]
        have f6 : decide (j :: t = []) = false := by simp
        rw [f6] at f4
        refine ⟨.nx, [.val (rowsD A), .val (rowsD B), .val (.list ((l.erase j).map nD)), .val (.list (g.map nD)), .val (.int (i : Int)), .val (.list ((j :: t).map nD)), .un], ?_, by omega, _, _, _, rfl, rfl, rfl, rfl⟩
        simp only [mSeq, mSet, mSetO, mSet2, mRet, mRetN, mDrop, mIfS, mIf, mB, mTru, mAnd, mOr, mNot, mAndV, mOrV, mNotV, mChain, mRaise, mNx, m1, m2, mN, mNL, mVar, mC, mNil, mCons, mLst, mTup, mDsp, mCall, mANil, mAv, mAr, mAb, hasR, hasB, toSl, VL.bs, back, mMut, heldR, setR, peekR, mLenP, mLenO, mRd, mItA, mIt, mAsg, gNm, gTp, gSeq, mYes, mSl, mPs, mPn, mKn, ok_bind, Oc.bind, Oc.opt, lenD_l, lenD_t, tupD, truD, isi_str_str, isi_str_tup, isi_str_int, isi_str_non, isi_str_lst, isi_tup_tup, isi_tup_lst, isi_tup_str, isi_tup_int, isi_tup_non, isi_lst_lst, isi_lst_tup, isi_int_int, isi_int_str, isi_int_non, isi_bool_int, isi_int_tup, isi_bool_tup, isi_bool_str, isi_bool_non, isi_lst_str, isi_lst_int, isi_lst_non, isD, isntD, isNoneD, addD_i, subD_i, seqD, appendD, List.replicate, List.append_nil, List.cons_append, List.nil_append, List.getElem?_cons_zero, List.getElem?_cons_succ, List.set_cons_zero, List.set_cons_succ, List.length_cons, List.length_nil, List.nodup_nil, List.nodup_cons, List.not_mem_nil, not_false_eq_true, and_self, Option.map, if_true, if_false, Bool.false_eq_true, Bool.not_true, Bool.not_false, Bool.and_true, Bool.true_and, Bool.false_and, Bool.and_false, finR, Sl.fin, wipeR, restR, List.getD_cons_zero, List.getD_cons_succ, decide_true, decide_false, Nat.reduceAdd, Nat.reduceLT, f1, f3, f4, f0, f1', int_b, mul_nil, f5])
    (by
      rintro ρ ⟨_, s4, s5, s6, z4, z5, rfl, rfl⟩
      rw [List.length_map, List.length_range]
      exact ⟨rfl, s4, s5, .un, z4, z5, rfl, rfl⟩)
  unfold L_due_k80 mFn
  simp only [mSeq, mSet, mSetO, mSet2, mRet, mRetN, mDrop, mIfS, mIf, mB, mTru, mAnd, mOr, mNot, mAndV, mOrV, mNotV, mChain, mRaise, mNx, m1, m2, mN, mNL, mVar, mC, mNil, mCons, mLst, mTup, mDsp, mCall, mANil, mAv, mAr, mAb, hasR, hasB, toSl, VL.bs, back, mMut, heldR, setR, peekR, mLenP, mLenO, mRd, mItA, mIt, mAsg, gNm, gTp, gSeq, mYes, mSl, mPs, mPn, mKn, ok_bind, Oc.bind, Oc.opt, lenD_l, lenD_t, tupD, truD, isi_str_str, isi_str_tup, isi_str_int, isi_str_non, isi_str_lst, isi_tup_tup, isi_tup_lst, isi_tup_str, isi_tup_int, isi_tup_non, isi_lst_lst, isi_lst_tup, isi_int_int, isi_int_str, isi_int_non, isi_bool_int, isi_int_tup, isi_bool_tup, isi_bool_str, isi_bool_non, isi_lst_str, isi_lst_int, isi_lst_non, isD, isntD, isNoneD, addD_i, subD_i, seqD, appendD, List.replicate, List.append_nil, List.cons_append, List.nil_append, List.getElem?_cons_zero, List.getElem?_cons_succ, List.set_cons_zero, List.set_cons_succ, List.length_cons, List.length_nil, List.nodup_nil, List.nodup_cons, List.not_mem_nil, not_false_eq_true, and_self, Option.map, if_true, if_false, Bool.false_eq_true, Bool.not_true, Bool.not_false, Bool.and_true, Bool.true_and, Bool.false_and, Bool.and_false, finR, Sl.fin, wipeR, restR, List.getD_cons_zero, List.getD_cons_succ, decide_true, decide_false, Nat.reduceAdd, Nat.reduceLT, e3, f0, e5, f2, z4, z5, z6]
  rfl
theorem getD_rows {A : List (List PyData)} : ∀ {g : List Nat}, (∀ k ∈ g, k < A.length) → (g.map fun k => PyData.tuple (A.getD k [])) = (g.filterMap fun k => A[k]?).map .tuple
  | [], _ => rfl
  | k :: g, h => by
    have hk := h k List.mem_cons_self
    rw [List.map_cons, getD_rows fun j hj => h j (List.mem_cons_of_mem _ hj), List.filterMap_cons, List.getD_eq_getElem?_getD, List.getElem?_eq_getElem hk]
    rfl
theorem cnt_lc {t : MT} {fs : ML} {ρ : R} {A : List (List PyData)} {r : List PyData} (g : List Nat) (hfs : fs ρ = .ok (g.map nD) ρ) (hw : wipeOk ρ [10] = true) (hw2 : wipeR ρ [10] = ρ) (hr : restR ρ ρ [10] = ρ) (hl : g.length ≤ 1000)
    (ht : ∀ k ∈ g, t (ρ.set 10 (.val (nD k))) = .ok (decide (A[k]? = some r)) (ρ.set 10 (.val (nD k)))) (hv : ∀ k, mVar 10 (ρ.set 10 (.val (nD k))) = .ok (nD k) (ρ.set 10 (.val (nD k)))) (hwk : ∀ k, wipeOk (ρ.set 10 (.val (nD k))) [10] = true ∧ wipeR (ρ.set 10 (.val (nD k))) [10] = ρ) :
    mN lenD (mCons (mLst (mLc fs (gNm 10) t (mVar 10) [10])) mNil) ρ = .ok (.int (cnt A g r : Nat)) ρ := by
  have e := mLc_pure (fs := fs) (g := gNm 10) (t := t) (f := mVar 10) (vs := [10]) (ρ := ρ) (ρ1 := ρ) g nD (fun k => decide (A[k]? = some r)) nD hfs hw
    (fun k hk => ⟨ρ.set 10 (.val (nD k)), by rw [hw2]; rfl, ht k hk, fun _ => hv k, (hwk k).1, by rw [hw2]; exact (hwk k).2⟩) (by omega)
  rw [hw2, hr] at e
  show Oc.bind (Oc.bind (Oc.bind (mLc _ _ _ _ _ ρ) _) _) _ = _
  rw [e]
  show Oc.ok (PyData.int ((((g.filter fun k => decide (A[k]? = some r)).map nD).length : Nat) : Int)) ρ = _
  rw [List.length_map]
  rfl
theorem row_test {A : List (List PyData)} {r : List PyData} (hA : ∀ r ∈ A, Gd (.tuple r)) (hr : Gd (.tuple r)) {k : Nat} (hk : k < A.length) : eqD (.tuple A[k]) (.tuple r) = some (.bool (decide (A[k]? = some r))) := by
  rw [row_eq (hA _ (List.getElem_mem hk)) hr, List.getElem?_eq_getElem hk]
  congr 2
  simp
theorem notin_rows {K : List (List PyData)} {r : List PyData} (hK : ∀ r ∈ K, Gd (.tuple r)) (hr : Gd (.tuple r)) : inD not (.tuple r) (.list (K.map .tuple)) = some (.bool (!decide (r ∈ K))) := by
  show inSeq not _ _ = _
  rw [inSeq_g hr (by intro e he; obtain ⟨k, hk, rfl⟩ := List.mem_map.mp he; exact hK k hk)]
  have : decide (PyData.tuple r ∈ K.map .tuple) = decide (r ∈ K) := by
    rw [decide_eq_decide]
    constructor
    · intro h
      obtain ⟨k, hk, e⟩ := List.mem_map.mp h
      cases e
      exact hk
    · exact fun h => List.mem_map_of_mem h
  rw [this]
theorem gd_due (A B : List (List PyData)) : Gd (dueD A B) := by
  refine List.all_eq_true.mpr fun d hd => ?_
  simp only [List.mem_cons, List.not_mem_nil, or_false] at hd
  rcases hd with rfl | rfl <;> exact gd_nats _ 48
theorem due_self (A : List (List PyData)) : dueD A A = .tuple [.list [], .list []] := by
  unfold dueD
  rw [due_perm (List.Perm.refl A)]
  rfl
theorem neD_self {d : PyData} (h : Gd d) : neD d d = some (.bool false) := by rw [neD_g h h]; simp
theorem eqD_self {d : PyData} (h : Gd d) : eqD d d = some (.bool true) := by rw [eqD_g h h]; simp
theorem max2_i (i j : Int) : max2D [.int i, .int j] = some (.int (if j > i then j else i)) := rfl
theorem seq_to {m n : MS} {ρ ρ1 : R} {X : Oc Fl} (h : m ρ = .ok .nx ρ1) (h2 : n ρ1 = X) : mSeq m n ρ = X := by
  unfold mSeq
  rw [h]
  exact h2
theorem fn_to {n k : Nat} {m : MS} {as as' : List Sl} {ρ : R} {d : PyData} (h1 : as.length = n) (h2 : noOwnB as = true) (h3 : m (as ++ List.replicate k .un) = .ok (.rt d) ρ) (h4 : finR n ρ = as') : mFn n k m as = .ok d as' := by
  unfold mFn
  rw [if_pos ⟨h1, h2⟩, h3]
  subst h4
  rfl
theorem law_true_k80 : ∀ ns : List Int, ns.length ≤ 63 → ∃ ρ, L_law_k80 [.scr ns] = .ok (.bool true) ρ := by
  intro ns _
  obtain ⟨cs, rs, B, k1, hc, hl1, hl2, hrs, hB, h1, h2, e1⟩ := two_ok ns 0 10 (by omega) (by omega)
  have e1 : L_two [.scr ns, .bor [], .val (.int 10)] = .ok (.tuple [tabD cs rs, tabD cs B]) [.un, .bor (town k1), .un] := e1
  have g1 : ∀ X Y : PyData, gTp [gNm 2, gNm 3] (.tuple [X, Y]) [.scr ns, .own (town k1), .un, .un, .un, .un, .un, .un, .un, .un, .un, .un, .un] = some [.scr ns, .own (town k1), .val X, .val Y, .un, .un, .un, .un, .un, .un, .un, .un, .un] := fun _ _ => rfl
  obtain ⟨i, hi, e2⟩ := draw_ex ns k1 2 (by omega) (by decide)
  have x0 : ∀ X, ixD (tabD cs X) (.int 0) = some (colsD cs) := fun _ => rfl
  have x1 : ∀ X, ixD (tabD cs X) (.int 1) = some (rowsD X) := fun _ => rfl
  have x2 : ∀ X, lenD [rowsD X] = some (.int (X.length : Nat)) := fun X => by show some (PyData.int ((X.map PyData.tuple).length : Nat)) = _; rw [List.length_map]
  have f2 : fits 2 = true := rfl
  have f0 : fits 0 = true := rfl
  have f1 : fits 1 = true := rfl
  -- the first table as it is in the end
  obtain ⟨A, hlA, hA, e3⟩ : ∃ A, A.length ≤ 12 ∧ (∀ r ∈ A, RowOk cs r) ∧ mIfS (mB (m2 eqD (mCall L_draw (mAr 0 (mAb 1 (mAv (mC (.int 2)) mANil)))) (mC (.int 0)))) (mSet 2 (mTup (mCons (m2 ixD (mVar 2) (mC (.int 0))) (mCons (m2 addD (m2 ixD (mVar 2) (mC (.int 1))) (mSl (m2 ixD (mVar 3) (mC (.int 1))) mPn (mPs (mC (.int 2))))) mNil)))) mNx
      [.scr ns, .own (town k1), .val (tabD cs rs), .val (tabD cs B), .un, .un, .un, .un, .un, .un, .un, .un, .un] = .ok .nx [.scr ns, .own (town (k1 + 1)), .val (tabD cs A), .val (tabD cs B), .un, .un, .un, .un, .un, .un, .un, .un, .un] := by
    by_cases h : (i : Int) = 0
    · refine ⟨rs ++ B.take 2, by simp; omega, ?_, ?_⟩
      · intro r hr
        rcases List.mem_append.mp hr with hr | hr
        · exact hrs r hr
        · exact hB r (List.mem_of_mem_take hr)
      · have a1 : eqD (.int (i : Int)) (.int 0) = some (.bool true) := by rw [eqD_i, decide_eq_true h]
        have a2 : slD (rowsD B) none (some 2) = some (.list ((B.take 2).map .tuple)) := by rw [List.map_take]; exact slD_two _
        have a3 : addD (rowsD rs) (.list ((B.take 2).map .tuple)) = some (rowsD (rs ++ B.take 2)) := by
          unfold rowsD
          rw [addD_l (by simp; omega), List.map_append]
        simp only [mSeq, mSet, mSetO, mSet2, mRet, mRetN, mDrop, mIfS, mIf, mB, mTru, mAnd, mOr, mNot, mAndV, mOrV, mNotV, mChain, mRaise, mNx, m1, m2, mN, mNL, mVar, mC, mNil, mCons, mLst, mTup, mDsp, mCall, mANil, mAv, mAr, mAb, hasR, hasB, toSl, VL.bs, back, mMut, heldR, setR, peekR, mLenP, mLenO, mRd, mItA, mIt, mAsg, gNm, gTp, gSeq, mYes, mSl, mPs, mPn, mKn, ok_bind, Oc.bind, Oc.opt, lenD_l, lenD_t, tupD, truD, isi_str_str, isi_str_tup, isi_str_int, isi_str_non, isi_str_lst, isi_tup_tup, isi_tup_lst, isi_tup_str, isi_tup_int, isi_tup_non, isi_lst_lst, isi_lst_tup, isi_int_int, isi_int_str, isi_int_non, isi_bool_int, isi_int_tup, isi_bool_tup, isi_bool_str, isi_bool_non, isi_lst_str, isi_lst_int, isi_lst_non, isD, isntD, isNoneD, addD_i, subD_i, seqD, appendD, List.replicate, List.append_nil, List.cons_append, List.nil_append, List.getElem?_cons_zero, List.getElem?_cons_succ, List.set_cons_zero, List.set_cons_succ, List.length_cons, List.length_nil, List.nodup_nil, List.nodup_cons, List.not_mem_nil, not_false_eq_true, and_self, Option.map, if_true, if_false, Bool.false_eq_true, Bool.not_true, Bool.not_false, Bool.and_true, Bool.true_and, Bool.false_and, Bool.and_false, finR, Sl.fin, wipeR, restR, List.getD_cons_zero, List.getD_cons_succ, decide_true, decide_false, Nat.reduceAdd, Nat.reduceLT, e2, a1, x0, x1, a2, a3, f2]
        rfl
    · refine ⟨rs, by omega, hrs, ?_⟩
      have a1 : eqD (.int (i : Int)) (.int 0) = some (.bool false) := by rw [eqD_i, decide_eq_false h]
      simp only [mSeq, mSet, mSetO, mSet2, mRet, mRetN, mDrop, mIfS, mIf, mB, mTru, mAnd, mOr, mNot, mAndV, mOrV, mNotV, mChain, mRaise, mNx, m1, m2, mN, mNL, mVar, mC, mNil, mCons, mLst, mTup, mDsp, mCall, mANil, mAv, mAr, mAb, hasR, hasB, toSl, VL.bs, back, mMut, heldR, setR, peekR, mLenP, mLenO, mRd, mItA, mIt, mAsg, gNm, gTp, gSeq, mYes, mSl, mPs, mPn, mKn, ok_bind, Oc.bind, Oc.opt, lenD_l, lenD_t, tupD, truD, isi_str_str, isi_str_tup, isi_str_int, isi_str_non, isi_str_lst, isi_tup_tup, isi_tup_lst, isi_tup_str, isi_tup_int, isi_tup_non, isi_lst_lst, isi_lst_tup, isi_int_int, isi_int_str, isi_int_non, isi_bool_int, isi_int_tup, isi_bool_tup, isi_bool_str, isi_bool_non, isi_lst_str, isi_lst_int, isi_lst_non, isD, isntD, isNoneD, addD_i, subD_i, seqD, appendD, List.replicate, List.append_nil, List.cons_append, List.nil_append, List.getElem?_cons_zero, List.getElem?_cons_succ, List.set_cons_zero, List.set_cons_succ, List.length_cons, List.length_nil, List.nodup_nil, List.nodup_cons, List.not_mem_nil, not_false_eq_true, and_self, Option.map, if_true, if_false, Bool.false_eq_true, Bool.not_true, Bool.not_false, Bool.and_true, Bool.true_and, Bool.false_and, Bool.and_false, finR, Sl.fin, wipeR, restR, List.getD_cons_zero, List.getD_cons_succ, decide_true, decide_false, Nat.reduceAdd, Nat.reduceLT, e2, a1]
  have TA : TabOk cs A := ⟨hc, by omega, hA⟩
  have TB : TabOk cs B := ⟨hc, by omega, hB⟩
  have GA : ∀ r ∈ A, Gd (.tuple r) := fun r hr => (hA r hr).gd 49
  have GB : ∀ r ∈ B, Gd (.tuple r) := fun r hr => (hB r hr).gd 49
  have T2 : Two A B := ⟨by omega, by omega, GA, GB⟩
  have I := due_of A B
  have e4 := changes_ok TA TB
  have e5 := due_ok T2
  have e6 := changes_ok TA TA
  rw [due_self] at e6
  have e7 := neD_self (gd_due A B)
  have e8 : neD (.tuple [.list [], .list []]) (.tuple [.list [], .list []]) = some (.bool false) := neD_self rfl
  have hgl : (due A B).2.length ≤ 24 := by
    have := List.Nodup.length_le_of_subset I.gn (l₂ := List.range A.length) (fun x hx => List.mem_range.mpr (I.gb x hx))
    rw [List.length_range] at this
    omega
  have hll : (due A B).1.length ≤ 24 := by
    have := List.Nodup.length_le_of_subset I.ln (l₂ := List.range B.length) (fun x hx => List.mem_range.mpr (I.lb x hx))
    rw [List.length_range] at this
    omega
  have g2 : gTp [gNm 5, gNm 6] (dueD A B) [.scr ns, .own (town (k1 + 1)), .val (tabD cs A), .val (tabD cs B), .val (dueD A B), .un, .un, .un, .un, .un, .un, .un, .un] = some [.scr ns, .own (town (k1 + 1)), .val (tabD cs A), .val (tabD cs B), .val (dueD A B), .val (.list ((due A B).2.map nD)), .val (.list ((due A B).1.map nD)), .un, .un, .un, .un, .un, .un] := rfl
  -- the kinds of rows
  let St : Sl → Sl → Sl → Sl → R := fun s7 s8 s9 s11 => [.scr ns, .own (town (k1 + 1)), .val (tabD cs A), .val (tabD cs B), .val (dueD A B), .val (.list ((due A B).2.map nD)), .val (.list ((due A B).1.map nD)), s7, s8, s9, .un, s11, .un]
  have aAB : addD (rowsD A) (rowsD B) = some (rowsD (A ++ B)) := by
    unfold rowsD
    rw [addD_l (by simp; omega), List.map_append]
  obtain ⟨fl, ρ, e9, rfl, K, s8, hKl, hK, rfl⟩ := mFor_inv (fs := mIt (m2 addD (m2 ixD (mVar 2) (mC (.int 1))) (m2 ixD (mVar 3) (mC (.int 1))))) (g := gNm 8)
    (m := mSet 7 (m2 addD (mVar 7) (m2 mulD (mLst (mDsp (mCons (mVar 8) mNil))) (mN int1D (mCons (m2 (inD not) (mVar 8) (mVar 7)) mNil)))))
    (ρ := St (.val (.list [])) .un .un .un)
    (P := fun fl ρ => fl = .nx ∧ ∃ (K : List (List PyData)) (s8 : Sl), K.length ≤ 100 ∧ (∀ r ∈ K, Gd (.tuple r)) ∧ ρ = St (.val (rowsD K)) s8 .un .un)
    (fun i ρ => i ≤ 100 ∧ ∃ (K : List (List PyData)) (s8 : Sl), K.length ≤ i ∧ (∀ r ∈ K, Gd (.tuple r)) ∧ ρ = St (.val (rowsD K)) s8 .un .un)
    ((A ++ B).map .tuple) (by simp only [St]; simp only [mSeq, mSet, mSetO, mSet2, mRet, mRetN, mDrop, mIfS, mIf, mB, mTru, mAnd, mOr, mNot, mAndV, mOrV, mNotV, mChain, mRaise, mNx, m1, m2, mN, mNL, mVar, mC, mNil, mCons, mLst, mTup, mDsp, mCall, mANil, mAv, mAr, mAb, hasR, hasB, toSl, VL.bs, back, mMut, heldR, setR, peekR, mLenP, mLenO, mRd, mItA, mIt, mAsg, gNm, gTp, gSeq, mYes, mSl, mPs, mPn, mKn, ok_bind, Oc.bind, Oc.opt, lenD_l, lenD_t, tupD, truD, isi_str_str, isi_str_tup, isi_str_int, isi_str_non, isi_str_lst, isi_tup_tup, isi_tup_lst, isi_tup_str, isi_tup_int, isi_tup_non, isi_lst_lst, isi_lst_tup, isi_int_int, isi_int_str, isi_int_non, isi_bool_int, isi_int_tup, isi_bool_tup, isi_bool_str, isi_bool_non, isi_lst_str, isi_lst_int, isi_lst_non, isD, isntD, isNoneD, addD_i, subD_i, seqD, appendD, List.replicate, List.append_nil, List.cons_append, List.nil_append, List.getElem?_cons_zero, List.getElem?_cons_succ, List.set_cons_zero, List.set_cons_succ, List.length_cons, List.length_nil, List.nodup_nil, List.nodup_cons, List.not_mem_nil, not_false_eq_true, and_self, Option.map, if_true, if_false, Bool.false_eq_true, Bool.not_true, Bool.not_false, Bool.and_true, Bool.true_and, Bool.false_and, Bool.and_false, finR, Sl.fin, wipeR, restR, List.getD_cons_zero, List.getD_cons_succ, decide_true, decide_false, Nat.reduceAdd, Nat.reduceLT, x1, aAB]; rfl) ⟨by omega, [], .un, by simp, by simp, rfl⟩
    (by
      rintro i d ρ hd ⟨hi, K, s8, hKl, hK, rfl⟩
      have hi : i < A.length + B.length := by
        have := (List.getElem?_eq_some_iff.mp hd).1
        simpa using this
      rw [List.getElem?_map] at hd
      obtain ⟨r, hr, rfl⟩ := Option.map_eq_some_iff.mp hd
      have hg : Gd (.tuple r) := by
        rcases List.mem_append.mp (List.mem_of_getElem? hr) with h | h
        · exact GA r h
        · exact GB r h
      have n1 : inD not (.tuple r) (rowsD K) = some (.bool (!decide (r ∈ K))) := notin_rows hK hg
      refine ⟨St (.val (rowsD K)) (.val (.tuple r)) .un .un, rfl, ?_⟩
      by_cases h : r ∈ K
      · have n2 : addD (rowsD K) (.list []) = some (rowsD K) := by
          unfold rowsD
          rw [addD_l (by simp; omega), List.append_nil]
        rw [decide_eq_true h] at n1
        refine ⟨.nx, St (.val (rowsD K)) (.val (.tuple r)) .un .un, ?_, by omega, K, _, by omega, hK, rfl⟩
        simp only [St]
        simp only [mSeq, mSet, mSetO, mSet2, mRet, mRetN, mDrop, mIfS, mIf, mB, mTru, mAnd, mOr, mNot, mAndV, mOrV, mNotV, mChain, mRaise, mNx, m1, m2, mN, mNL, mVar, mC, mNil, mCons, mLst, mTup, mDsp, mCall, mANil, mAv, mAr, mAb, hasR, hasB, toSl, VL.bs, back, mMut, heldR, setR, peekR, mLenP, mLenO, mRd, mItA, mIt, mAsg, gNm, gTp, gSeq, mYes, mSl, mPs, mPn, mKn, ok_bind, Oc.bind, Oc.opt, lenD_l, lenD_t, tupD, truD, isi_str_str, isi_str_tup, isi_str_int, isi_str_non, isi_str_lst, isi_tup_tup, isi_tup_lst, isi_tup_str, isi_tup_int, isi_tup_non, isi_lst_lst, isi_lst_tup, isi_int_int, isi_int_str, isi_int_non, isi_bool_int, isi_int_tup, isi_bool_tup, isi_bool_str, isi_bool_non, isi_lst_str, isi_lst_int, isi_lst_non, isD, isntD, isNoneD, addD_i, subD_i, seqD, appendD, List.replicate, List.append_nil, List.cons_append, List.nil_append, List.getElem?_cons_zero, List.getElem?_cons_succ, List.set_cons_zero, List.set_cons_succ, List.length_cons, List.length_nil, List.nodup_nil, List.nodup_cons, List.not_mem_nil, not_false_eq_true, and_self, Option.map, if_true, if_false, Bool.false_eq_true, Bool.not_true, Bool.not_false, Bool.and_true, Bool.true_and, Bool.false_and, Bool.and_false, finR, Sl.fin, wipeR, restR, List.getD_cons_zero, List.getD_cons_succ, decide_true, decide_false, Nat.reduceAdd, Nat.reduceLT, n1, int_b, mul_nil, f1, n2]
      · have n2 : addD (rowsD K) (.list [.tuple r]) = some (rowsD (K ++ [r])) := by
          unfold rowsD
          rw [addD_l (by simp; omega), List.map_append]
          rfl
        rw [decide_eq_false h] at n1
        refine ⟨.nx, St (.val (rowsD (K ++ [r]))) (.val (.tuple r)) .un .un, ?_, by omega, K ++ [r], _, by simp; omega, ?_, rfl⟩
        · simp only [St]
          simp only [mSeq, mSet, mSetO, mSet2, mRet, mRetN, mDrop, mIfS, mIf, mB, mTru, mAnd, mOr, mNot, mAndV, mOrV, mNotV, mChain, mRaise, mNx, m1, m2, mN, mNL, mVar, mC, mNil, mCons, mLst, mTup, mDsp, mCall, mANil, mAv, mAr, mAb, hasR, hasB, toSl, VL.bs, back, mMut, heldR, setR, peekR, mLenP, mLenO, mRd, mItA, mIt, mAsg, gNm, gTp, gSeq, mYes, mSl, mPs, mPn, mKn, ok_bind, Oc.bind, Oc.opt, lenD_l, lenD_t, tupD, truD, isi_str_str, isi_str_tup, isi_str_int, isi_str_non, isi_str_lst, isi_tup_tup, isi_tup_lst, isi_tup_str, isi_tup_int, isi_tup_non, isi_lst_lst, isi_lst_tup, isi_int_int, isi_int_str, isi_int_non, isi_bool_int, isi_int_tup, isi_bool_tup, isi_bool_str, isi_bool_non, isi_lst_str, isi_lst_int, isi_lst_non, isD, isntD, isNoneD, addD_i, subD_i, seqD, appendD, List.replicate, List.append_nil, List.cons_append, List.nil_append, List.getElem?_cons_zero, List.getElem?_cons_succ, List.set_cons_zero, List.set_cons_succ, List.length_cons, List.length_nil, List.nodup_nil, List.nodup_cons, List.not_mem_nil, not_false_eq_true, and_self, Option.map, if_true, if_false, Bool.false_eq_true, Bool.not_true, Bool.not_false, Bool.and_true, Bool.true_and, Bool.false_and, Bool.and_false, finR, Sl.fin, wipeR, restR, List.getD_cons_zero, List.getD_cons_succ, decide_true, decide_false, Nat.reduceAdd, Nat.reduceLT, n1, int_b, mul_one, f1, n2]
        · intro x hx
          rcases List.mem_append.mp hx with hx | hx
          · exact hK x hx
          · rw [List.mem_singleton.mp hx]; exact hg)
    (by
      rintro ρ ⟨_, K, s8, h1, h2, rfl⟩
      simp only [List.length_map, List.length_append] at h1
      exact ⟨rfl, K, s8, by omega, h2, rfl⟩)
  -- the counts
  have rA : range1D [.int (A.length : Nat)] = some ((List.range A.length).map nD) := range1_n A.length (by omega)
  have rB : range1D [.int (B.length : Nat)] = some ((List.range B.length).map nD) := range1_n B.length (by omega)
  obtain ⟨fl, ρ, e10, rfl, t8, t9, t11, rfl⟩ := mFor_inv (fs := mIt (mVar 7)) (g := gNm 8)
    (m := mSeq (mSet 9 (mN lenD (mCons (mLst (mLc (mItA range1D (mCons (mN lenD (mCons (m2 ixD (mVar 2) (mC (.int 1))) mNil)) mNil)) (gNm 10) (mB (m2 eqD (m2 ixD (m2 ixD (mVar 2) (mC (.int 1))) (mVar 10)) (mVar 8))) (mVar 10) [10])) mNil)))
      (mSeq (mSet 9 (m2 subD (mVar 9) (mN lenD (mCons (mLst (mLc (mItA range1D (mCons (mN lenD (mCons (m2 ixD (mVar 3) (mC (.int 1))) mNil)) mNil)) (gNm 10) (mB (m2 eqD (m2 ixD (m2 ixD (mVar 3) (mC (.int 1))) (mVar 10)) (mVar 8))) (mVar 10) [10])) mNil))))
      (mSeq (mSet 11 (mLst (mDsp (mCons (mN lenD (mCons (mLst (mLc (mIt (mVar 5)) (gNm 10) (mB (m2 eqD (m2 ixD (m2 ixD (mVar 2) (mC (.int 1))) (mVar 10)) (mVar 8))) (mVar 10) [10])) mNil)) (mCons (mN lenD (mCons (mLst (mLc (mIt (mVar 6)) (gNm 10) (mB (m2 eqD (m2 ixD (m2 ixD (mVar 3) (mC (.int 1))) (mVar 10)) (mVar 8))) (mVar 10) [10])) mNil)) mNil)))))
      (mIfS (mB (m2 neD (mVar 11) (mLst (mDsp (mCons (mN max2D (mCons (mC (.int 0)) (mCons (mVar 9) mNil))) (mCons (mN max2D (mCons (mC (.int 0)) (mCons (m2 subD (mC (.int 0)) (mVar 9)) mNil))) mNil)))))) (mRet (mC (.bool false))) mNx))))
    (ρ := St (.val (rowsD K)) s8 .un .un)
    (P := fun fl ρ => fl = .nx ∧ ∃ s8 s9 s11 : Sl, ρ = St (.val (rowsD K)) s8 s9 s11)
    (fun i ρ => ∃ s8 s9 s11 : Sl, ρ = St (.val (rowsD K)) s8 s9 s11)
    (K.map .tuple) rfl ⟨s8, .un, .un, rfl⟩
    (by
      rintro i d ρ hd ⟨s8, s9, s11, rfl⟩
      rw [List.getElem?_map] at hd
      obtain ⟨r, hr, rfl⟩ := Option.map_eq_some_iff.mp hd
      have hg : Gd (.tuple r) := hK r (List.mem_of_getElem? hr)
      have c1 := cnt_lc (A := A) (r := r) (ρ := St (.val (rowsD K)) (.val (.tuple r)) s9 s11) (fs := mItA range1D (mCons (mN lenD (mCons (m2 ixD (mVar 2) (mC (.int 1))) mNil)) mNil)) (t := mB (m2 eqD (m2 ixD (m2 ixD (mVar 2) (mC (.int 1))) (mVar 10)) (mVar 8))) (List.range A.length) (by simp only [St]; simp only [mSeq, mSet, mSetO, mSet2, mRet, mRetN, mDrop, mIfS, mIf, mB, mTru, mAnd, mOr, mNot, mAndV, mOrV, mNotV, mChain, mRaise, mNx, m1, m2, mN, mNL, mVar, mC, mNil, mCons, mLst, mTup, mDsp, mCall, mANil, mAv, mAr, mAb, hasR, hasB, toSl, VL.bs, back, mMut, heldR, setR, peekR, mLenP, mLenO, mRd, mItA, mIt, mAsg, gNm, gTp, gSeq, mYes, mSl, mPs, mPn, mKn, ok_bind, Oc.bind, Oc.opt, lenD_l, lenD_t, tupD, truD, isi_str_str, isi_str_tup, isi_str_int, isi_str_non, isi_str_lst, isi_tup_tup, isi_tup_lst, isi_tup_str, isi_tup_int, isi_tup_non, isi_lst_lst, isi_lst_tup, isi_int_int, isi_int_str, isi_int_non, isi_bool_int, isi_int_tup, isi_bool_tup, isi_bool_str, isi_bool_non, isi_lst_str, isi_lst_int, isi_lst_non, isD, isntD, isNoneD, addD_i, subD_i, seqD, appendD, List.replicate, List.append_nil, List.cons_append, List.nil_append, List.getElem?_cons_zero, List.getElem?_cons_succ, List.set_cons_zero, List.set_cons_succ, List.length_cons, List.length_nil, List.nodup_nil, List.nodup_cons, List.not_mem_nil, not_false_eq_true, and_self, Option.map, if_true, if_false, Bool.false_eq_true, Bool.not_true, Bool.not_false, Bool.and_true, Bool.true_and, Bool.false_and, Bool.and_false, finR, Sl.fin, wipeR, restR, List.getD_cons_zero, List.getD_cons_succ, decide_true, decide_false, Nat.reduceAdd, Nat.reduceLT, x1, x2, rA]) rfl rfl rfl (by simp; omega)
        (fun k hk => by
          have hk := List.mem_range.mp hk
          have y1 := ix_rows (List.getElem?_eq_getElem hk)
          have y2 := row_test GA hg hk
          simp only [St, nD]
          simp only [mSeq, mSet, mSetO, mSet2, mRet, mRetN, mDrop, mIfS, mIf, mB, mTru, mAnd, mOr, mNot, mAndV, mOrV, mNotV, mChain, mRaise, mNx, m1, m2, mN, mNL, mVar, mC, mNil, mCons, mLst, mTup, mDsp, mCall, mANil, mAv, mAr, mAb, hasR, hasB, toSl, VL.bs, back, mMut, heldR, setR, peekR, mLenP, mLenO, mRd, mItA, mIt, mAsg, gNm, gTp, gSeq, mYes, mSl, mPs, mPn, mKn, ok_bind, Oc.bind, Oc.opt, lenD_l, lenD_t, tupD, truD, isi_str_str, isi_str_tup, isi_str_int, isi_str_non, isi_str_lst, isi_tup_tup, isi_tup_lst, isi_tup_str, isi_tup_int, isi_tup_non, isi_lst_lst, isi_lst_tup, isi_int_int, isi_int_str, isi_int_non, isi_bool_int, isi_int_tup, isi_bool_tup, isi_bool_str, isi_bool_non, isi_lst_str, isi_lst_int, isi_lst_non, isD, isntD, isNoneD, addD_i, subD_i, seqD, appendD, List.replicate, List.append_nil, List.cons_append, List.nil_append, List.getElem?_cons_zero, List.getElem?_cons_succ, List.set_cons_zero, List.set_cons_succ, List.length_cons, List.length_nil, List.nodup_nil, List.nodup_cons, List.not_mem_nil, not_false_eq_true, and_self, Option.map, if_true, if_false, Bool.false_eq_true, Bool.not_true, Bool.not_false, Bool.and_true, Bool.true_and, Bool.false_and, Bool.and_false, finR, Sl.fin, wipeR, restR, List.getD_cons_zero, List.getD_cons_succ, decide_true, decide_false, Nat.reduceAdd, Nat.reduceLT, x1, y1, y2]) (fun k => rfl) (fun k => ⟨rfl, rfl⟩)
      have c2 := fun s9 => cnt_lc (A := B) (r := r) (ρ := St (.val (rowsD K)) (.val (.tuple r)) s9 s11) (fs := mItA range1D (mCons (mN lenD (mCons (m2 ixD (mVar 3) (mC (.int 1))) mNil)) mNil)) (t := mB (m2 eqD (m2 ixD (m2 ixD (mVar 3) (mC (.int 1))) (mVar 10)) (mVar 8))) (List.range B.length) (by simp only [St]; simp only [mSeq, mSet, mSetO, mSet2, mRet, mRetN, mDrop, mIfS, mIf, mB, mTru, mAnd, mOr, mNot, mAndV, mOrV, mNotV, mChain, mRaise, mNx, m1, m2, mN, mNL, mVar, mC, mNil, mCons, mLst, mTup, mDsp, mCall, mANil, mAv, mAr, mAb, hasR, hasB, toSl, VL.bs, back, mMut, heldR, setR, peekR, mLenP, mLenO, mRd, mItA, mIt, mAsg, gNm, gTp, gSeq, mYes, mSl, mPs, mPn, mKn, ok_bind, Oc.bind, Oc.opt, lenD_l, lenD_t, tupD, truD, isi_str_str, isi_str_tup, isi_str_int, isi_str_non, isi_str_lst, isi_tup_tup, isi_tup_lst, isi_tup_str, isi_tup_int, isi_tup_non, isi_lst_lst, isi_lst_tup, isi_int_int, isi_int_str, isi_int_non, isi_bool_int, isi_int_tup, isi_bool_tup, isi_bool_str, isi_bool_non, isi_lst_str, isi_lst_int, isi_lst_non, isD, isntD, isNoneD, addD_i, subD_i, seqD, appendD, List.replicate, List.append_nil, List.cons_append, List.nil_append, List.getElem?_cons_zero, List.getElem?_cons_succ, List.set_cons_zero, List.set_cons_succ, List.length_cons, List.length_nil, List.nodup_nil, List.nodup_cons, List.not_mem_nil, not_false_eq_true, and_self, Option.map, if_true, if_false, Bool.false_eq_true, Bool.not_true, Bool.not_false, Bool.and_true, Bool.true_and, Bool.false_and, Bool.and_false, finR, Sl.fin, wipeR, restR, List.getD_cons_zero, List.getD_cons_succ, decide_true, decide_false, Nat.reduceAdd, Nat.reduceLT, x1, x2, rB]) rfl rfl rfl (by simp; omega)
        (fun k hk => by
          have hk := List.mem_range.mp hk
          have y1 := ix_rows (List.getElem?_eq_getElem hk)
          have y2 := row_test GB hg hk
          simp only [St, nD]
          simp only [mSeq, mSet, mSetO, mSet2, mRet, mRetN, mDrop, mIfS, mIf, mB, mTru, mAnd, mOr, mNot, mAndV, mOrV, mNotV, mChain, mRaise, mNx, m1, m2, mN, mNL, mVar, mC, mNil, mCons, mLst, mTup, mDsp, mCall, mANil, mAv, mAr, mAb, hasR, hasB, toSl, VL.bs, back, mMut, heldR, setR, peekR, mLenP, mLenO, mRd, mItA, mIt, mAsg, gNm, gTp, gSeq, mYes, mSl, mPs, mPn, mKn, ok_bind, Oc.bind, Oc.opt, lenD_l, lenD_t, tupD, truD, isi_str_str, isi_str_tup, isi_str_int, isi_str_non, isi_str_lst, isi_tup_tup, isi_tup_lst, isi_tup_str, isi_tup_int, isi_tup_non, isi_lst_lst, isi_lst_tup, isi_int_int, isi_int_str, isi_int_non, isi_bool_int, isi_int_tup, isi_bool_tup, isi_bool_str, isi_bool_non, isi_lst_str, isi_lst_int, isi_lst_non, isD, isntD, isNoneD, addD_i, subD_i, seqD, appendD, List.replicate, List.append_nil, List.cons_append, List.nil_append, List.getElem?_cons_zero, List.getElem?_cons_succ, List.set_cons_zero, List.set_cons_succ, List.length_cons, List.length_nil, List.nodup_nil, List.nodup_cons, List.not_mem_nil, not_false_eq_true, and_self, Option.map, if_true, if_false, Bool.false_eq_true, Bool.not_true, Bool.not_false, Bool.and_true, Bool.true_and, Bool.false_and, Bool.and_false, finR, Sl.fin, wipeR, restR, List.getD_cons_zero, List.getD_cons_succ, decide_true, decide_false, Nat.reduceAdd, Nat.reduceLT, x1, y1, y2]) (fun k => rfl) (fun k => ⟨rfl, rfl⟩)
      have c3 := fun s9 => cnt_lc (A := A) (r := r) (ρ := St (.val (rowsD K)) (.val (.tuple r)) s9 s11) (fs := mIt (mVar 5)) (t := mB (m2 eqD (m2 ixD (m2 ixD (mVar 2) (mC (.int 1))) (mVar 10)) (mVar 8))) (due A B).2 rfl rfl rfl rfl (by omega)
        (fun k hk => by
          have hk := I.gb k hk
          have y1 := ix_rows (List.getElem?_eq_getElem hk)
          have y2 := row_test GA hg hk
          simp only [St, nD]
          simp only [mSeq, mSet, mSetO, mSet2, mRet, mRetN, mDrop, mIfS, mIf, mB, mTru, mAnd, mOr, mNot, mAndV, mOrV, mNotV, mChain, mRaise, mNx, m1, m2, mN, mNL, mVar, mC, mNil, mCons, mLst, mTup, mDsp, mCall, mANil, mAv, mAr, mAb, hasR, hasB, toSl, VL.bs, back, mMut, heldR, setR, peekR, mLenP, mLenO, mRd, mItA, mIt, mAsg, gNm, gTp, gSeq, mYes, mSl, mPs, mPn, mKn, ok_bind, Oc.bind, Oc.opt, lenD_l, lenD_t, tupD, truD, isi_str_str, isi_str_tup, isi_str_int, isi_str_non, isi_str_lst, isi_tup_tup, isi_tup_lst, isi_tup_str, isi_tup_int, isi_tup_non, isi_lst_lst, isi_lst_tup, isi_int_int, isi_int_str, isi_int_non, isi_bool_int, isi_int_tup, isi_bool_tup, isi_bool_str, isi_bool_non, isi_lst_str, isi_lst_int, isi_lst_non, isD, isntD, isNoneD, addD_i, subD_i, seqD, appendD, List.replicate, List.append_nil, List.cons_append, List.nil_append, List.getElem?_cons_zero, List.getElem?_cons_succ, List.set_cons_zero, List.set_cons_succ, List.length_cons, List.length_nil, List.nodup_nil, List.nodup_cons, List.not_mem_nil, not_false_eq_true, and_self, Option.map, if_true, if_false, Bool.false_eq_true, Bool.not_true, Bool.not_false, Bool.and_true, Bool.true_and, Bool.false_and, Bool.and_false, finR, Sl.fin, wipeR, restR, List.getD_cons_zero, List.getD_cons_succ, decide_true, decide_false, Nat.reduceAdd, Nat.reduceLT, x1, y1, y2]) (fun k => rfl) (fun k => ⟨rfl, rfl⟩)
      have c4 := fun s9 => cnt_lc (A := B) (r := r) (ρ := St (.val (rowsD K)) (.val (.tuple r)) s9 s11) (fs := mIt (mVar 6)) (t := mB (m2 eqD (m2 ixD (m2 ixD (mVar 3) (mC (.int 1))) (mVar 10)) (mVar 8))) (due A B).1 rfl rfl rfl rfl (by omega)
        (fun k hk => by
          have hk := I.lb k hk
          have y1 := ix_rows (List.getElem?_eq_getElem hk)
          have y2 := row_test GB hg hk
          simp only [St, nD]
          simp only [mSeq, mSet, mSetO, mSet2, mRet, mRetN, mDrop, mIfS, mIf, mB, mTru, mAnd, mOr, mNot, mAndV, mOrV, mNotV, mChain, mRaise, mNx, m1, m2, mN, mNL, mVar, mC, mNil, mCons, mLst, mTup, mDsp, mCall, mANil, mAv, mAr, mAb, hasR, hasB, toSl, VL.bs, back, mMut, heldR, setR, peekR, mLenP, mLenO, mRd, mItA, mIt, mAsg, gNm, gTp, gSeq, mYes, mSl, mPs, mPn, mKn, ok_bind, Oc.bind, Oc.opt, lenD_l, lenD_t, tupD, truD, isi_str_str, isi_str_tup, isi_str_int, isi_str_non, isi_str_lst, isi_tup_tup, isi_tup_lst, isi_tup_str, isi_tup_int, isi_tup_non, isi_lst_lst, isi_lst_tup, isi_int_int, isi_int_str, isi_int_non, isi_bool_int, isi_int_tup, isi_bool_tup, isi_bool_str, isi_bool_non, isi_lst_str, isi_lst_int, isi_lst_non, isD, isntD, isNoneD, addD_i, subD_i, seqD, appendD, List.replicate, List.append_nil, List.cons_append, List.nil_append, List.getElem?_cons_zero, List.getElem?_cons_succ, List.set_cons_zero, List.set_cons_succ, List.length_cons, List.length_nil, List.nodup_nil, List.nodup_cons, List.not_mem_nil, not_false_eq_true, and_self, Option.map, if_true, if_false, Bool.false_eq_true, Bool.not_true, Bool.not_false, Bool.and_true, Bool.true_and, Bool.false_and, Bool.and_false, finR, Sl.fin, wipeR, restR, List.getD_cons_zero, List.getD_cons_succ, decide_true, decide_false, Nat.reduceAdd, Nat.reduceLT, x1, y1, y2]) (fun k => rfl) (fun k => ⟨rfl, rfl⟩)
      have d3 : cnt A (due A B).2 r = cnt A (List.range A.length) r - cnt B (List.range B.length) r := by rw [due_gone, cnt_all, cnt_all]
      have d4 : cnt B (due A B).1 r = cnt B (List.range B.length) r - cnt A (List.range A.length) r := by rw [due_left, cnt_all, cnt_all]
      simp only [d3] at c3
      simp only [d4] at c4
      generalize cnt A (List.range A.length) r = a at c1 c3 c4
      generalize cnt B (List.range B.length) r = b at c2 c3 c4
      have m1 : (if (a : Int) - (b : Int) > 0 then (a : Int) - (b : Int) else 0) = ((a - b : Nat) : Int) := by split <;> omega
      have m2' : (if 0 - ((a : Int) - (b : Int)) > 0 then 0 - ((a : Int) - (b : Int)) else 0) = ((b - a : Nat) : Int) := by split <;> omega
      have n1 : neD (.list [.int ((a - b : Nat) : Int), .int ((b - a : Nat) : Int)]) (.list [.int ((a - b : Nat) : Int), .int ((b - a : Nat) : Int)]) = some (.bool false) := neD_self rfl
      refine ⟨St (.val (rowsD K)) (.val (.tuple r)) s9 s11, rfl, .nx, St (.val (rowsD K)) (.val (.tuple r)) (.val (.int ((a : Int) - (b : Int)))) (.val (.list [.int ((a - b : Nat) : Int), .int ((b - a : Nat) : Int)])), ?_, _, _, _, rfl⟩
      have q1 : ∀ {f g : ME}, mSet 9 f (St (.val (rowsD K)) (.val (.tuple r)) s9 s11) = (f (St (.val (rowsD K)) (.val (.tuple r)) s9 s11)).bind fun d ρ1 => .ok .nx (ρ1.set 9 (.val d)) := rfl
      simp only [mSeq, mSet]
      rw [c1]
      simp only [ok_bind]
      have st9 : ∀ w, (St (.val (rowsD K)) (.val (.tuple r)) s9 s11).set 9 w = St (.val (rowsD K)) (.val (.tuple r)) w s11 := fun _ => rfl
      rw [st9]
      have v9 : ∀ w, mVar 9 (St (.val (rowsD K)) (.val (.tuple r)) (.val w) s11) = .ok w (St (.val (rowsD K)) (.val (.tuple r)) (.val w) s11) := fun _ => rfl
      simp only [m2, v9, ok_bind, c2, Oc.opt, subD_i]
      have st9' : ∀ w u, (St (.val (rowsD K)) (.val (.tuple r)) u s11).set 9 w = St (.val (rowsD K)) (.val (.tuple r)) w s11 := fun _ _ => rfl
      have st11 : ∀ w u, (St (.val (rowsD K)) (.val (.tuple r)) u s11).set 11 w = St (.val (rowsD K)) (.val (.tuple r)) u w := fun _ _ => rfl
      simp only [st9']
      simp only [mLst, mDsp, mCons, mNil, ok_bind, c3, c4, List.length_cons, List.length_nil, Nat.zero_add, Nat.reduceAdd, f2, if_true, st11]
      simp only [St]
      simp only [mSeq, mSet, mSetO, mSet2, mRet, mRetN, mDrop, mIfS, mIf, mB, mTru, mAnd, mOr, mNot, mAndV, mOrV, mNotV, mChain, mRaise, mNx, m1, m2, mN, mNL, mVar, mC, mNil, mCons, mLst, mTup, mDsp, mCall, mANil, mAv, mAr, mAb, hasR, hasB, toSl, VL.bs, back, mMut, heldR, setR, peekR, mLenP, mLenO, mRd, mItA, mIt, mAsg, gNm, gTp, gSeq, mYes, mSl, mPs, mPn, mKn, ok_bind, Oc.bind, Oc.opt, lenD_l, lenD_t, tupD, truD, isi_str_str, isi_str_tup, isi_str_int, isi_str_non, isi_str_lst, isi_tup_tup, isi_tup_lst, isi_tup_str, isi_tup_int, isi_tup_non, isi_lst_lst, isi_lst_tup, isi_int_int, isi_int_str, isi_int_non, isi_bool_int, isi_int_tup, isi_bool_tup, isi_bool_str, isi_bool_non, isi_lst_str, isi_lst_int, isi_lst_non, isD, isntD, isNoneD, addD_i, subD_i, seqD, appendD, List.replicate, List.append_nil, List.cons_append, List.nil_append, List.getElem?_cons_zero, List.getElem?_cons_succ, List.set_cons_zero, List.set_cons_succ, List.length_cons, List.length_nil, List.nodup_nil, List.nodup_cons, List.not_mem_nil, not_false_eq_true, and_self, Option.map, if_true, if_false, Bool.false_eq_true, Bool.not_true, Bool.not_false, Bool.and_true, Bool.true_and, Bool.false_and, Bool.and_false, finR, Sl.fin, wipeR, restR, List.getD_cons_zero, List.getD_cons_succ, decide_true, decide_false, Nat.reduceAdd, Nat.reduceLT, f2, max2_i, m1, m2', n1])
    (by
      rintro ρ ⟨s8, s9, s11, rfl⟩
      exact ⟨rfl, s8, s9, s11, rfl⟩)
  -- what stays
  have w1 := mLc_pure (fs := mItA range1D (mCons (mN lenD (mCons (m2 ixD (mVar 2) (mC (.int 1))) mNil)) mNil)) (g := gNm 10) (t := mB (m2 (inD not) (mVar 10) (mVar 5))) (f := m2 ixD (m2 ixD (mVar 2) (mC (.int 1))) (mVar 10)) (vs := [10])
    (ρ := St (.val (rowsD K)) t8 t9 t11) (ρ1 := St (.val (rowsD K)) t8 t9 t11) (List.range A.length) nD (fun k => !decide (k ∈ (due A B).2)) (fun k => .tuple (A.getD k [])) (by simp only [St]; simp only [mSeq, mSet, mSetO, mSet2, mRet, mRetN, mDrop, mIfS, mIf, mB, mTru, mAnd, mOr, mNot, mAndV, mOrV, mNotV, mChain, mRaise, mNx, m1, m2, mN, mNL, mVar, mC, mNil, mCons, mLst, mTup, mDsp, mCall, mANil, mAv, mAr, mAb, hasR, hasB, toSl, VL.bs, back, mMut, heldR, setR, peekR, mLenP, mLenO, mRd, mItA, mIt, mAsg, gNm, gTp, gSeq, mYes, mSl, mPs, mPn, mKn, ok_bind, Oc.bind, Oc.opt, lenD_l, lenD_t, tupD, truD, isi_str_str, isi_str_tup, isi_str_int, isi_str_non, isi_str_lst, isi_tup_tup, isi_tup_lst, isi_tup_str, isi_tup_int, isi_tup_non, isi_lst_lst, isi_lst_tup, isi_int_int, isi_int_str, isi_int_non, isi_bool_int, isi_int_tup, isi_bool_tup, isi_bool_str, isi_bool_non, isi_lst_str, isi_lst_int, isi_lst_non, isD, isntD, isNoneD, addD_i, subD_i, seqD, appendD, List.replicate, List.append_nil, List.cons_append, List.nil_append, List.getElem?_cons_zero, List.getElem?_cons_succ, List.set_cons_zero, List.set_cons_succ, List.length_cons, List.length_nil, List.nodup_nil, List.nodup_cons, List.not_mem_nil, not_false_eq_true, and_self, Option.map, if_true, if_false, Bool.false_eq_true, Bool.not_true, Bool.not_false, Bool.and_true, Bool.true_and, Bool.false_and, Bool.and_false, finR, Sl.fin, wipeR, restR, List.getD_cons_zero, List.getD_cons_succ, decide_true, decide_false, Nat.reduceAdd, Nat.reduceLT, x1, x2, rA]) rfl
    (fun k hk => ⟨(St (.val (rowsD K)) t8 t9 t11).set 10 (.val (nD k)), rfl, by
      have n1 := notin_nD k (due A B).2
      simp only [St]
      simp only [mSeq, mSet, mSetO, mSet2, mRet, mRetN, mDrop, mIfS, mIf, mB, mTru, mAnd, mOr, mNot, mAndV, mOrV, mNotV, mChain, mRaise, mNx, m1, m2, mN, mNL, mVar, mC, mNil, mCons, mLst, mTup, mDsp, mCall, mANil, mAv, mAr, mAb, hasR, hasB, toSl, VL.bs, back, mMut, heldR, setR, peekR, mLenP, mLenO, mRd, mItA, mIt, mAsg, gNm, gTp, gSeq, mYes, mSl, mPs, mPn, mKn, ok_bind, Oc.bind, Oc.opt, lenD_l, lenD_t, tupD, truD, isi_str_str, isi_str_tup, isi_str_int, isi_str_non, isi_str_lst, isi_tup_tup, isi_tup_lst, isi_tup_str, isi_tup_int, isi_tup_non, isi_lst_lst, isi_lst_tup, isi_int_int, isi_int_str, isi_int_non, isi_bool_int, isi_int_tup, isi_bool_tup, isi_bool_str, isi_bool_non, isi_lst_str, isi_lst_int, isi_lst_non, isD, isntD, isNoneD, addD_i, subD_i, seqD, appendD, List.replicate, List.append_nil, List.cons_append, List.nil_append, List.getElem?_cons_zero, List.getElem?_cons_succ, List.set_cons_zero, List.set_cons_succ, List.length_cons, List.length_nil, List.nodup_nil, List.nodup_cons, List.not_mem_nil, not_false_eq_true, and_self, Option.map, if_true, if_false, Bool.false_eq_true, Bool.not_true, Bool.not_false, Bool.and_true, Bool.true_and, Bool.false_and, Bool.and_false, finR, Sl.fin, wipeR, restR, List.getD_cons_zero, List.getD_cons_succ, decide_true, decide_false, Nat.reduceAdd, Nat.reduceLT, n1], fun _ => by
      have hk := List.mem_range.mp hk
      have y1 : ixD (rowsD A) (nD k) = some (.tuple (A.getD k [])) := by
        rw [List.getD_eq_getElem?_getD, List.getElem?_eq_getElem hk]
        exact ix_rows (List.getElem?_eq_getElem hk)
      simp only [St]
      simp only [mSeq, mSet, mSetO, mSet2, mRet, mRetN, mDrop, mIfS, mIf, mB, mTru, mAnd, mOr, mNot, mAndV, mOrV, mNotV, mChain, mRaise, mNx, m1, m2, mN, mNL, mVar, mC, mNil, mCons, mLst, mTup, mDsp, mCall, mANil, mAv, mAr, mAb, hasR, hasB, toSl, VL.bs, back, mMut, heldR, setR, peekR, mLenP, mLenO, mRd, mItA, mIt, mAsg, gNm, gTp, gSeq, mYes, mSl, mPs, mPn, mKn, ok_bind, Oc.bind, Oc.opt, lenD_l, lenD_t, tupD, truD, isi_str_str, isi_str_tup, isi_str_int, isi_str_non, isi_str_lst, isi_tup_tup, isi_tup_lst, isi_tup_str, isi_tup_int, isi_tup_non, isi_lst_lst, isi_lst_tup, isi_int_int, isi_int_str, isi_int_non, isi_bool_int, isi_int_tup, isi_bool_tup, isi_bool_str, isi_bool_non, isi_lst_str, isi_lst_int, isi_lst_non, isD, isntD, isNoneD, addD_i, subD_i, seqD, appendD, List.replicate, List.append_nil, List.cons_append, List.nil_append, List.getElem?_cons_zero, List.getElem?_cons_succ, List.set_cons_zero, List.set_cons_succ, List.length_cons, List.length_nil, List.nodup_nil, List.nodup_cons, List.not_mem_nil, not_false_eq_true, and_self, Option.map, if_true, if_false, Bool.false_eq_true, Bool.not_true, Bool.not_false, Bool.and_true, Bool.true_and, Bool.false_and, Bool.and_false, finR, Sl.fin, wipeR, restR, List.getD_cons_zero, List.getD_cons_succ, decide_true, decide_false, Nat.reduceAdd, Nat.reduceLT, x1, y1], rfl, rfl⟩) (by simp; omega)
  have w2 := mLc_map (fs := mIt (mVar 6)) (g := gNm 10) (f := m2 ixD (m2 ixD (mVar 3) (mC (.int 1))) (mVar 10)) (vs := [10])
    (ρ := St (.val (rowsD K)) t8 t9 t11) (ρ1 := St (.val (rowsD K)) t8 t9 t11) (due A B).1 nD (fun k => .tuple (B.getD k [])) rfl rfl
    (fun k hk => ⟨(St (.val (rowsD K)) t8 t9 t11).set 10 (.val (nD k)), rfl, by
      have hk := I.lb k hk
      have y1 : ixD (rowsD B) (nD k) = some (.tuple (B.getD k [])) := by
        rw [List.getD_eq_getElem?_getD, List.getElem?_eq_getElem hk]
        exact ix_rows (List.getElem?_eq_getElem hk)
      simp only [St]
      simp only [mSeq, mSet, mSetO, mSet2, mRet, mRetN, mDrop, mIfS, mIf, mB, mTru, mAnd, mOr, mNot, mAndV, mOrV, mNotV, mChain, mRaise, mNx, m1, m2, mN, mNL, mVar, mC, mNil, mCons, mLst, mTup, mDsp, mCall, mANil, mAv, mAr, mAb, hasR, hasB, toSl, VL.bs, back, mMut, heldR, setR, peekR, mLenP, mLenO, mRd, mItA, mIt, mAsg, gNm, gTp, gSeq, mYes, mSl, mPs, mPn, mKn, ok_bind, Oc.bind, Oc.opt, lenD_l, lenD_t, tupD, truD, isi_str_str, isi_str_tup, isi_str_int, isi_str_non, isi_str_lst, isi_tup_tup, isi_tup_lst, isi_tup_str, isi_tup_int, isi_tup_non, isi_lst_lst, isi_lst_tup, isi_int_int, isi_int_str, isi_int_non, isi_bool_int, isi_int_tup, isi_bool_tup, isi_bool_str, isi_bool_non, isi_lst_str, isi_lst_int, isi_lst_non, isD, isntD, isNoneD, addD_i, subD_i, seqD, appendD, List.replicate, List.append_nil, List.cons_append, List.nil_append, List.getElem?_cons_zero, List.getElem?_cons_succ, List.set_cons_zero, List.set_cons_succ, List.length_cons, List.length_nil, List.nodup_nil, List.nodup_cons, List.not_mem_nil, not_false_eq_true, and_self, Option.map, if_true, if_false, Bool.false_eq_true, Bool.not_true, Bool.not_false, Bool.and_true, Bool.true_and, Bool.false_and, Bool.and_false, finR, Sl.fin, wipeR, restR, List.getD_cons_zero, List.getD_cons_succ, decide_true, decide_false, Nat.reduceAdd, Nat.reduceLT, x1, y1], rfl, rfl⟩) (by omega)
  rw [getD_rows (fun k hk => List.mem_range.mp (List.mem_filter.mp hk).1)] at w1
  rw [getD_rows I.lb] at w2
  have sp := stays_perm A B
  have sl := sp.length_eq
  have se : ((List.range A.length).filter fun k => !decide (k ∈ (due A B).2)).filterMap (fun k => A[k]?) ++ (due A B).1.filterMap (fun k => B[k]?) = stays A B := by
    unfold stays
    congr 3
    funext k
    simp
  have w3 : addD (.list ((((List.range A.length).filter fun k => !decide (k ∈ (due A B).2)).filterMap (fun k => A[k]?)).map .tuple)) (.list (((due A B).1.filterMap (fun k => B[k]?)).map .tuple)) = some (rowsD (stays A B)) := by
    have z := congrArg List.length se
    rw [List.length_append] at z
    rw [addD_l (by rw [List.length_map, List.length_map]; omega), ← List.map_append, se]
    rfl
  have TS : TabOk cs (stays A B) := ⟨hc, by omega, fun r hr => hB r (sp.mem_iff.mp hr)⟩
  have T0 : TabOk cs [] := ⟨hc, by simp, by simp⟩
  have e11 := changes_ok TS TB
  have e12 := changes_ok T0 TB
  have e13 : dueD (stays A B) B = .tuple [.list [], .list []] := by
    unfold dueD
    rw [due_perm sp]
    rfl
  rw [e13] at e11
  have e14 : dueD [] B = .tuple [.list [], .list ((List.range B.length).map nD)] := by
    unfold dueD
    rw [due_none]
    rfl
  rw [e14] at e12
  have e15 : eqD (.tuple [.list [], .list ((List.range B.length).map nD)]) (.tuple [.list [], .list ((List.range B.length).map nD)]) = some (.bool true) := eqD_self (e14 ▸ gd_due [] B)
  have l3 : mLR1 (mN lenD (mCons (m2 ixD (mVar 3) (mC (.int 1))) mNil)) [.scr ns, .own (town (k1 + 1)), .val (tabD cs A), .val (tabD cs B), .val (dueD A B), .val (.list ((due A B).2.map nD)), .val (.list ((due A B).1.map nD)), .val (rowsD K), t8, t9, .un, t11, .val (rowsD (stays A B))]
      = .ok ((List.range B.length).map nD) [.scr ns, .own (town (k1 + 1)), .val (tabD cs A), .val (tabD cs B), .val (dueD A B), .val (.list ((due A B).2.map nD)), .val (.list ((due A B).1.map nD)), .val (rowsD K), t8, t9, .un, t11, .val (rowsD (stays A B))] := by
    have z : decide (((B.length : Nat) : Int).natAbs ≤ 16777216) = true := decide_eq_true (by omega)
    unfold mLR1
    simp only [mSeq, mSet, mSetO, mSet2, mRet, mRetN, mDrop, mIfS, mIf, mB, mTru, mAnd, mOr, mNot, mAndV, mOrV, mNotV, mChain, mRaise, mNx, m1, m2, mN, mNL, mVar, mC, mNil, mCons, mLst, mTup, mDsp, mCall, mANil, mAv, mAr, mAb, hasR, hasB, toSl, VL.bs, back, mMut, heldR, setR, peekR, mLenP, mLenO, mRd, mItA, mIt, mAsg, gNm, gTp, gSeq, mYes, mSl, mPs, mPn, mKn, ok_bind, Oc.bind, Oc.opt, lenD_l, lenD_t, tupD, truD, isi_str_str, isi_str_tup, isi_str_int, isi_str_non, isi_str_lst, isi_tup_tup, isi_tup_lst, isi_tup_str, isi_tup_int, isi_tup_non, isi_lst_lst, isi_lst_tup, isi_int_int, isi_int_str, isi_int_non, isi_bool_int, isi_int_tup, isi_bool_tup, isi_bool_str, isi_bool_non, isi_lst_str, isi_lst_int, isi_lst_non, isD, isntD, isNoneD, addD_i, subD_i, seqD, appendD, List.replicate, List.append_nil, List.cons_append, List.nil_append, List.getElem?_cons_zero, List.getElem?_cons_succ, List.set_cons_zero, List.set_cons_succ, List.length_cons, List.length_nil, List.nodup_nil, List.nodup_cons, List.not_mem_nil, not_false_eq_true, and_self, Option.map, if_true, if_false, Bool.false_eq_true, Bool.not_true, Bool.not_false, Bool.and_true, Bool.true_and, Bool.false_and, Bool.and_false, finR, Sl.fin, wipeR, restR, List.getD_cons_zero, List.getD_cons_succ, decide_true, decide_false, Nat.reduceAdd, Nat.reduceLT, x1, x2, z]
    rw [rngD_n]
    rfl
  have p1 : (PyData.tuple [colsD cs, rowsD (stays A B)]) = tabD cs (stays A B) := rfl
  have p2 : (PyData.tuple [colsD cs, .list []]) = tabD cs [] := rfl
  simp only [St] at e9 e10 w1 w2
  let S0 : PyData → Sl → R := fun tb s4 => [.scr ns, .own (town (k1 + 1)), .val tb, .val (tabD cs B), s4, .un, .un, .un, .un, .un, .un, .un, .un]
  refine ⟨_, fn_to (ρ := [.scr ns, .own (town (k1 + 1)), .val (tabD cs A), .val (tabD cs B), .val (dueD A B), .val (.list ((due A B).2.map nD)), .val (.list ((due A B).1.map nD)), .val (rowsD K), t8, t9, .un, t11, .val (rowsD (stays A B))]) rfl rfl ?_ rfl⟩
  refine seq_to (ρ1 := [.scr ns, .own [], .un, .un, .un, .un, .un, .un, .un, .un, .un, .un, .un]) (by simp only [mSeq, mSet, mSetO, mSet2, mRet, mRetN, mDrop, mIfS, mIf, mB, mTru, mAnd, mOr, mNot, mAndV, mOrV, mNotV, mChain, mRaise, mNx, m1, m2, mN, mNL, mVar, mC, mNil, mCons, mLst, mTup, mDsp, mCall, mANil, mAv, mAr, mAb, hasR, hasB, toSl, VL.bs, back, mMut, heldR, setR, peekR, mLenP, mLenO, mRd, mItA, mIt, mAsg, gNm, gTp, gSeq, mYes, mSl, mPs, mPn, mKn, ok_bind, Oc.bind, Oc.opt, lenD_l, lenD_t, tupD, truD, isi_str_str, isi_str_tup, isi_str_int, isi_str_non, isi_str_lst, isi_tup_tup, isi_tup_lst, isi_tup_str, isi_tup_int, isi_tup_non, isi_lst_lst, isi_lst_tup, isi_int_int, isi_int_str, isi_int_non, isi_bool_int, isi_int_tup, isi_bool_tup, isi_bool_str, isi_bool_non, isi_lst_str, isi_lst_int, isi_lst_non, isD, isntD, isNoneD, addD_i, subD_i, seqD, appendD, List.replicate, List.append_nil, List.cons_append, List.nil_append, List.getElem?_cons_zero, List.getElem?_cons_succ, List.set_cons_zero, List.set_cons_succ, List.length_cons, List.length_nil, List.nodup_nil, List.nodup_cons, List.not_mem_nil, not_false_eq_true, and_self, Option.map, if_true, if_false, Bool.false_eq_true, Bool.not_true, Bool.not_false, Bool.and_true, Bool.true_and, Bool.false_and, Bool.and_false, finR, Sl.fin, wipeR, restR, List.getD_cons_zero, List.getD_cons_succ, decide_true, decide_false, Nat.reduceAdd, Nat.reduceLT, f0]) ?_
  refine seq_to (ρ1 := [.scr ns, .own (town k1), .val (tabD cs rs), .val (tabD cs B), .un, .un, .un, .un, .un, .un, .un, .un, .un]) (by simp only [mSeq, mSet, mSetO, mSet2, mRet, mRetN, mDrop, mIfS, mIf, mB, mTru, mAnd, mOr, mNot, mAndV, mOrV, mNotV, mChain, mRaise, mNx, m1, m2, mN, mNL, mVar, mC, mNil, mCons, mLst, mTup, mDsp, mCall, mANil, mAv, mAr, mAb, hasR, hasB, toSl, VL.bs, back, mMut, heldR, setR, peekR, mLenP, mLenO, mRd, mItA, mIt, mAsg, gNm, mYes, mSl, mPs, mPn, mKn, ok_bind, Oc.bind, Oc.opt, lenD_l, lenD_t, tupD, truD, isi_str_str, isi_str_tup, isi_str_int, isi_str_non, isi_str_lst, isi_tup_tup, isi_tup_lst, isi_tup_str, isi_tup_int, isi_tup_non, isi_lst_lst, isi_lst_tup, isi_int_int, isi_int_str, isi_int_non, isi_bool_int, isi_int_tup, isi_bool_tup, isi_bool_str, isi_bool_non, isi_lst_str, isi_lst_int, isi_lst_non, isD, isntD, isNoneD, addD_i, subD_i, seqD, appendD, List.replicate, List.append_nil, List.cons_append, List.nil_append, List.getElem?_cons_zero, List.getElem?_cons_succ, List.set_cons_zero, List.set_cons_succ, List.length_cons, List.length_nil, List.nodup_nil, List.nodup_cons, List.not_mem_nil, not_false_eq_true, and_self, Option.map, if_true, if_false, Bool.false_eq_true, Bool.not_true, Bool.not_false, Bool.and_true, Bool.true_and, Bool.false_and, Bool.and_false, finR, Sl.fin, wipeR, restR, List.getD_cons_zero, List.getD_cons_succ, decide_true, decide_false, Nat.reduceAdd, Nat.reduceLT, e1, g1]) ?_
  refine seq_to e3 ?_
  refine seq_to (ρ1 := S0 (tabD cs A) (.val (dueD A B))) (by simp only [S0]; simp only [mSeq, mSet, mSetO, mSet2, mRet, mRetN, mDrop, mIfS, mIf, mB, mTru, mAnd, mOr, mNot, mAndV, mOrV, mNotV, mChain, mRaise, mNx, m1, m2, mN, mNL, mVar, mC, mNil, mCons, mLst, mTup, mDsp, mCall, mANil, mAv, mAr, mAb, hasR, hasB, toSl, VL.bs, back, mMut, heldR, setR, peekR, mLenP, mLenO, mRd, mItA, mIt, mAsg, gNm, gTp, gSeq, mYes, mSl, mPs, mPn, mKn, ok_bind, Oc.bind, Oc.opt, lenD_l, lenD_t, tupD, truD, isi_str_str, isi_str_tup, isi_str_int, isi_str_non, isi_str_lst, isi_tup_tup, isi_tup_lst, isi_tup_str, isi_tup_int, isi_tup_non, isi_lst_lst, isi_lst_tup, isi_int_int, isi_int_str, isi_int_non, isi_bool_int, isi_int_tup, isi_bool_tup, isi_bool_str, isi_bool_non, isi_lst_str, isi_lst_int, isi_lst_non, isD, isntD, isNoneD, addD_i, subD_i, seqD, appendD, List.replicate, List.append_nil, List.cons_append, List.nil_append, List.getElem?_cons_zero, List.getElem?_cons_succ, List.set_cons_zero, List.set_cons_succ, List.length_cons, List.length_nil, List.nodup_nil, List.nodup_cons, List.not_mem_nil, not_false_eq_true, and_self, Option.map, if_true, if_false, Bool.false_eq_true, Bool.not_true, Bool.not_false, Bool.and_true, Bool.true_and, Bool.false_and, Bool.and_false, finR, Sl.fin, wipeR, restR, List.getD_cons_zero, List.getD_cons_succ, decide_true, decide_false, Nat.reduceAdd, Nat.reduceLT, e4]) ?_
  refine seq_to (ρ1 := S0 (tabD cs A) (.val (dueD A B))) (by simp only [S0]; simp only [mSeq, mSet, mSetO, mSet2, mRet, mRetN, mDrop, mIfS, mIf, mB, mTru, mAnd, mOr, mNot, mAndV, mOrV, mNotV, mChain, mRaise, mNx, m1, m2, mN, mNL, mVar, mC, mNil, mCons, mLst, mTup, mDsp, mCall, mANil, mAv, mAr, mAb, hasR, hasB, toSl, VL.bs, back, mMut, heldR, setR, peekR, mLenP, mLenO, mRd, mItA, mIt, mAsg, gNm, gTp, gSeq, mYes, mSl, mPs, mPn, mKn, ok_bind, Oc.bind, Oc.opt, lenD_l, lenD_t, tupD, truD, isi_str_str, isi_str_tup, isi_str_int, isi_str_non, isi_str_lst, isi_tup_tup, isi_tup_lst, isi_tup_str, isi_tup_int, isi_tup_non, isi_lst_lst, isi_lst_tup, isi_int_int, isi_int_str, isi_int_non, isi_bool_int, isi_int_tup, isi_bool_tup, isi_bool_str, isi_bool_non, isi_lst_str, isi_lst_int, isi_lst_non, isD, isntD, isNoneD, addD_i, subD_i, seqD, appendD, List.replicate, List.append_nil, List.cons_append, List.nil_append, List.getElem?_cons_zero, List.getElem?_cons_succ, List.set_cons_zero, List.set_cons_succ, List.length_cons, List.length_nil, List.nodup_nil, List.nodup_cons, List.not_mem_nil, not_false_eq_true, and_self, Option.map, if_true, if_false, Bool.false_eq_true, Bool.not_true, Bool.not_false, Bool.and_true, Bool.true_and, Bool.false_and, Bool.and_false, finR, Sl.fin, wipeR, restR, List.getD_cons_zero, List.getD_cons_succ, decide_true, decide_false, Nat.reduceAdd, Nat.reduceLT, x1, e5, e7, e6, f0, f2, e8]) ?_
  refine seq_to (ρ1 := [.scr ns, .own (town (k1 + 1)), .val (tabD cs A), .val (tabD cs B), .val (dueD A B), .val (.list ((due A B).2.map nD)), .val (.list ((due A B).1.map nD)), .un, .un, .un, .un, .un, .un]) (by simp only [S0]; simp only [mSeq, mSet, mSetO, mSet2, mRet, mRetN, mDrop, mIfS, mIf, mB, mTru, mAnd, mOr, mNot, mAndV, mOrV, mNotV, mChain, mRaise, mNx, m1, m2, mN, mNL, mVar, mC, mNil, mCons, mLst, mTup, mDsp, mCall, mANil, mAv, mAr, mAb, hasR, hasB, toSl, VL.bs, back, mMut, heldR, setR, peekR, mLenP, mLenO, mRd, mItA, mIt, mAsg, gNm, mYes, mSl, mPs, mPn, mKn, ok_bind, Oc.bind, Oc.opt, lenD_l, lenD_t, tupD, truD, isi_str_str, isi_str_tup, isi_str_int, isi_str_non, isi_str_lst, isi_tup_tup, isi_tup_lst, isi_tup_str, isi_tup_int, isi_tup_non, isi_lst_lst, isi_lst_tup, isi_int_int, isi_int_str, isi_int_non, isi_bool_int, isi_int_tup, isi_bool_tup, isi_bool_str, isi_bool_non, isi_lst_str, isi_lst_int, isi_lst_non, isD, isntD, isNoneD, addD_i, subD_i, seqD, appendD, List.replicate, List.append_nil, List.cons_append, List.nil_append, List.getElem?_cons_zero, List.getElem?_cons_succ, List.set_cons_zero, List.set_cons_succ, List.length_cons, List.length_nil, List.nodup_nil, List.nodup_cons, List.not_mem_nil, not_false_eq_true, and_self, Option.map, if_true, if_false, Bool.false_eq_true, Bool.not_true, Bool.not_false, Bool.and_true, Bool.true_and, Bool.false_and, Bool.and_false, finR, Sl.fin, wipeR, restR, List.getD_cons_zero, List.getD_cons_succ, decide_true, decide_false, Nat.reduceAdd, Nat.reduceLT, g2]) ?_
  refine seq_to (ρ1 := [.scr ns, .own (town (k1 + 1)), .val (tabD cs A), .val (tabD cs B), .val (dueD A B), .val (.list ((due A B).2.map nD)), .val (.list ((due A B).1.map nD)), .val (.list []), .un, .un, .un, .un, .un]) (by simp only [mSeq, mSet, mSetO, mSet2, mRet, mRetN, mDrop, mIfS, mIf, mB, mTru, mAnd, mOr, mNot, mAndV, mOrV, mNotV, mChain, mRaise, mNx, m1, m2, mN, mNL, mVar, mC, mNil, mCons, mLst, mTup, mDsp, mCall, mANil, mAv, mAr, mAb, hasR, hasB, toSl, VL.bs, back, mMut, heldR, setR, peekR, mLenP, mLenO, mRd, mItA, mIt, mAsg, gNm, gTp, gSeq, mYes, mSl, mPs, mPn, mKn, ok_bind, Oc.bind, Oc.opt, lenD_l, lenD_t, tupD, truD, isi_str_str, isi_str_tup, isi_str_int, isi_str_non, isi_str_lst, isi_tup_tup, isi_tup_lst, isi_tup_str, isi_tup_int, isi_tup_non, isi_lst_lst, isi_lst_tup, isi_int_int, isi_int_str, isi_int_non, isi_bool_int, isi_int_tup, isi_bool_tup, isi_bool_str, isi_bool_non, isi_lst_str, isi_lst_int, isi_lst_non, isD, isntD, isNoneD, addD_i, subD_i, seqD, appendD, List.replicate, List.append_nil, List.cons_append, List.nil_append, List.getElem?_cons_zero, List.getElem?_cons_succ, List.set_cons_zero, List.set_cons_succ, List.length_cons, List.length_nil, List.nodup_nil, List.nodup_cons, List.not_mem_nil, not_false_eq_true, and_self, Option.map, if_true, if_false, Bool.false_eq_true, Bool.not_true, Bool.not_false, Bool.and_true, Bool.true_and, Bool.false_and, Bool.and_false, finR, Sl.fin, wipeR, restR, List.getD_cons_zero, List.getD_cons_succ, decide_true, decide_false, Nat.reduceAdd, Nat.reduceLT, f0]) ?_
  refine seq_to e9 ?_
  refine seq_to e10 ?_
  refine seq_to (ρ1 := [.scr ns, .own (town (k1 + 1)), .val (tabD cs A), .val (tabD cs B), .val (dueD A B), .val (.list ((due A B).2.map nD)), .val (.list ((due A B).1.map nD)), .val (rowsD K), t8, t9, .un, t11, .val (rowsD (stays A B))]) (by simp only [mSeq, mSet, mSetO, mSet2, mRet, mRetN, mDrop, mIfS, mIf, mB, mTru, mAnd, mOr, mNot, mAndV, mOrV, mNotV, mChain, mRaise, mNx, m1, m2, mN, mNL, mVar, mC, mNil, mCons, mLst, mTup, mDsp, mCall, mANil, mAv, mAr, mAb, hasR, hasB, toSl, VL.bs, back, mMut, heldR, setR, peekR, mLenP, mLenO, mRd, mItA, mIt, mAsg, gNm, gTp, gSeq, mYes, mSl, mPs, mPn, mKn, ok_bind, Oc.bind, Oc.opt, lenD_l, lenD_t, tupD, truD, isi_str_str, isi_str_tup, isi_str_int, isi_str_non, isi_str_lst, isi_tup_tup, isi_tup_lst, isi_tup_str, isi_tup_int, isi_tup_non, isi_lst_lst, isi_lst_tup, isi_int_int, isi_int_str, isi_int_non, isi_bool_int, isi_int_tup, isi_bool_tup, isi_bool_str, isi_bool_non, isi_lst_str, isi_lst_int, isi_lst_non, isD, isntD, isNoneD, addD_i, subD_i, seqD, appendD, List.replicate, List.append_nil, List.cons_append, List.nil_append, List.getElem?_cons_zero, List.getElem?_cons_succ, List.set_cons_zero, List.set_cons_succ, List.length_cons, List.length_nil, List.nodup_nil, List.nodup_cons, List.not_mem_nil, not_false_eq_true, and_self, Option.map, if_true, if_false, Bool.false_eq_true, Bool.not_true, Bool.not_false, Bool.and_true, Bool.true_and, Bool.false_and, Bool.and_false, finR, Sl.fin, wipeR, restR, List.getD_cons_zero, List.getD_cons_succ, decide_true, decide_false, Nat.reduceAdd, Nat.reduceLT, w1, w2, w3]) ?_
  refine seq_to (ρ1 := [.scr ns, .own (town (k1 + 1)), .val (tabD cs A), .val (tabD cs B), .val (dueD A B), .val (.list ((due A B).2.map nD)), .val (.list ((due A B).1.map nD)), .val (rowsD K), t8, t9, .un, t11, .val (rowsD (stays A B))]) (by simp only [mSeq, mSet, mSetO, mSet2, mRet, mRetN, mDrop, mIfS, mIf, mB, mTru, mAnd, mOr, mNot, mAndV, mOrV, mNotV, mChain, mRaise, mNx, m1, m2, mN, mNL, mVar, mC, mNil, mCons, mLst, mTup, mDsp, mCall, mANil, mAv, mAr, mAb, hasR, hasB, toSl, VL.bs, back, mMut, heldR, setR, peekR, mLenP, mLenO, mRd, mItA, mIt, mAsg, gNm, gTp, gSeq, mYes, mSl, mPs, mPn, mKn, ok_bind, Oc.bind, Oc.opt, lenD_l, lenD_t, tupD, truD, isi_str_str, isi_str_tup, isi_str_int, isi_str_non, isi_str_lst, isi_tup_tup, isi_tup_lst, isi_tup_str, isi_tup_int, isi_tup_non, isi_lst_lst, isi_lst_tup, isi_int_int, isi_int_str, isi_int_non, isi_bool_int, isi_int_tup, isi_bool_tup, isi_bool_str, isi_bool_non, isi_lst_str, isi_lst_int, isi_lst_non, isD, isntD, isNoneD, addD_i, subD_i, seqD, appendD, List.replicate, List.append_nil, List.cons_append, List.nil_append, List.getElem?_cons_zero, List.getElem?_cons_succ, List.set_cons_zero, List.set_cons_succ, List.length_cons, List.length_nil, List.nodup_nil, List.nodup_cons, List.not_mem_nil, not_false_eq_true, and_self, Option.map, if_true, if_false, Bool.false_eq_true, Bool.not_true, Bool.not_false, Bool.and_true, Bool.true_and, Bool.false_and, Bool.and_false, finR, Sl.fin, wipeR, restR, List.getD_cons_zero, List.getD_cons_succ, decide_true, decide_false, Nat.reduceAdd, Nat.reduceLT, x0, f2, f0, p1, e11, e8]) ?_
  simp only [mSeq, mSet, mSetO, mSet2, mRet, mRetN, mDrop, mIfS, mIf, mB, mTru, mAnd, mOr, mNot, mAndV, mOrV, mNotV, mChain, mRaise, mNx, m1, m2, mN, mNL, mVar, mC, mNil, mCons, mLst, mTup, mDsp, mCall, mANil, mAv, mAr, mAb, hasR, hasB, toSl, VL.bs, back, mMut, heldR, setR, peekR, mLenP, mLenO, mRd, mItA, mIt, mAsg, gNm, gTp, gSeq, mYes, mSl, mPs, mPn, mKn, ok_bind, Oc.bind, Oc.opt, lenD_l, lenD_t, tupD, truD, isi_str_str, isi_str_tup, isi_str_int, isi_str_non, isi_str_lst, isi_tup_tup, isi_tup_lst, isi_tup_str, isi_tup_int, isi_tup_non, isi_lst_lst, isi_lst_tup, isi_int_int, isi_int_str, isi_int_non, isi_bool_int, isi_int_tup, isi_bool_tup, isi_bool_str, isi_bool_non, isi_lst_str, isi_lst_int, isi_lst_non, isD, isntD, isNoneD, addD_i, subD_i, seqD, appendD, List.replicate, List.append_nil, List.cons_append, List.nil_append, List.getElem?_cons_zero, List.getElem?_cons_succ, List.set_cons_zero, List.set_cons_succ, List.length_cons, List.length_nil, List.nodup_nil, List.nodup_cons, List.not_mem_nil, not_false_eq_true, and_self, Option.map, if_true, if_false, Bool.false_eq_true, Bool.not_true, Bool.not_false, Bool.and_true, Bool.true_and, Bool.false_and, Bool.and_false, finR, Sl.fin, wipeR, restR, List.getD_cons_zero, List.getD_cons_succ, decide_true, decide_false, Nat.reduceAdd, Nat.reduceLT, x0, f0, f2, p2, e12, l3, e15]
end VL

set_option Elab.async false
set_option linter.all false
set_option maxRecDepth 100000
set_option maxHeartbeats 4000000
namespace VL
open PySem PySem.Spec PyProof.Rows L2
def top (i : Nat) : Stmt := PySem.Challenge.pw_sumsheets_k80_whole_changes.main.body.getD i (.Pass ⟨0, 0, 0, 0⟩)
structure Txt (K : PySem.W.Frag) (mg : Str → Option Value) (T : VT) : Prop where
  b : Blt mg
  c_SMALL : CStr mg "SMALL" "abcdefghijklmnopqrstuvwxyz"
  c_MOST_COLUMNS : CInt mg "MOST_COLUMNS" 6
  c_MOST_ROWS : CInt mg "MOST_ROWS" 24
  c_MOST_WORD : CInt mg "MOST_WORD" 8
  c_MOST_NUMBER : CInt mg "MOST_NUMBER" 1000000
  c_KINDS : CDat K mg "KINDS" (.tuple [(.str "word"), (.str "number")])
  x_SheetError : Exc K mg T "SheetError" 8
  x_BadTable : Exc K mg T "BadTable" 0
  x_BadRow : Exc K mg T "BadRow" 1
section
variable {P : Program} {w : World} {K : PySem.W.Frag} {mg : Str → Option Value} {base : Heap} {T : VT}
abbrev s_is_whole : Stmt := top 11
theorem sc_is_whole : FnScope ["thing", "low", "most"] ["thing", "low", "most"] (defScope s_is_whole) := ⟨rfl, rfl, rfl, by decide +kernel, rfl, by decide +kernel, by decide +kernel⟩
theorem ok_is_whole (T_ : Txt K mg T) (F : At K mg "is_whole" s_is_whole ["thing", "low", "most"])  : Does P w K mg base T "is_whole" ["thing", "low", "most"] 1 M_is_whole :=
 does F sc_is_whole 0 rfl fun f cdv A outer s H E hr => by
  have nd := sc_is_whole.nd
  have hu := hr.units
  have tk0 : Takes (cxOf (L2.CX P w) P w K mg base ["thing", "low", "most"] "is_whole" (defScope s_is_whole) f cdv A outer s H E) (WOf E) := takes_of rfl rfl rfl rfl
  have ps0 : PassesOwn (model P w) (cxOf (L2.CX P w) P w K mg base ["thing", "low", "most"] "is_whole" (defScope s_is_whole) f cdv A outer s H E).A (cxOf (L2.CX P w) P w K mg base ["thing", "low", "most"] "is_whole" (defScope s_is_whole) f cdv A outer s H E).env (cxOf (L2.CX P w) P w K mg base ["thing", "low", "most"] "is_whole" (defScope s_is_whole) f cdv A outer s H E).xe := passes_of rfl
  exact (sone (sret (xand (xisi (t := "int") (by rfl) T_.b.isinstance (by rfl) T_.b.int b_int (by decide) (xv 0)) (xand (xnot (xisi (t := "bool") (by rfl) T_.b.isinstance (by rfl) T_.b.bool b_bool (by decide) (xv 0))) (xone (xchain op_le op_le pure_le pure_le (fun _ _ _ h => le_bool h) (xv 1) (xv 0) (xv 2) (by with_unfolding_all rfl)))))))
abbrev s_is_word : Stmt := top 12
theorem sc_is_word : FnScope ["thing", "sign"] ["thing"] (defScope s_is_word) := ⟨rfl, rfl, rfl, by decide +kernel, rfl, by decide +kernel, by decide +kernel⟩
theorem ok_is_word (T_ : Txt K mg T) (F : At K mg "is_word" s_is_word ["thing"])  : Does P w K mg base T "is_word" ["thing"] 1 M_is_word :=
 does F sc_is_word 1 rfl fun f cdv A outer s H E hr => by
  have nd := sc_is_word.nd
  have hu := hr.units
  have tk0 : Takes (cxOf (L2.CX P w) P w K mg base ["thing", "sign"] "is_word" (defScope s_is_word) f cdv A outer s H E) (WOf E) := takes_of rfl rfl rfl rfl
  have ps0 : PassesOwn (model P w) (cxOf (L2.CX P w) P w K mg base ["thing", "sign"] "is_word" (defScope s_is_word) f cdv A outer s H E).A (cxOf (L2.CX P w) P w K mg base ["thing", "sign"] "is_word" (defScope s_is_word) f cdv A outer s H E).env (cxOf (L2.CX P w) P w K mg base ["thing", "sign"] "is_word" (defScope s_is_word) f cdv A outer s H E).xe := passes_of rfl
  exact (sone (sret (xand (xisi (t := "str") (by rfl) T_.b.isinstance (by rfl) T_.b.str b_str (by decide) (xv 0)) (xand (xchain op_le op_le pure_le pure_le (fun _ _ _ h => le_bool h) xint (xcb call_len pure_len (by rfl) T_.b.len b_len (dcons (xv 0) dnil)) (xci (by rfl) T_.c_MOST_WORD) (by with_unfolding_all rfl)) (xone (xcb (cr_all rfl) pure_all (by rfl) T_.b.all b_all (dcons (xl (llc [("sign", 1)] rfl nd (istr (xv 0)) (blkOk_by (by kernel_rfl)) (fun _ _ _ _ _ => (gnm 1 nd)) (fun _ _ _ _ _ => pts_nilM) (fun _ _ _ _ _ => (xcmp (op_inA hu) pure_in (xv 1) (xcs (by rfl) T_.c_SMALL) (by rfl))) (by decide))) dnil)))))))
abbrev s_cell : Stmt := top 22
theorem sc__law_cell : FnScope ["_law_script", "_law_k"] ["_law_script", "_law_k"] (defScope s_cell) := ⟨rfl, rfl, rfl, by decide +kernel, rfl, by decide +kernel, by decide +kernel⟩
theorem ok__law_cell (T_ : Txt K mg T) (F : At K mg "_law_cell" s_cell ["_law_script", "_law_k"])  : Does P w K mg base T "_law_cell" ["_law_script", "_law_k"] 1 L_cell :=
 does F sc__law_cell 0 rfl fun f cdv A outer s H E hr => by
  have nd := sc__law_cell.nd
  have hu := hr.units
  have tk0 : Takes (cxOf (L2.CX P w) P w K mg base ["_law_script", "_law_k"] "_law_cell" (defScope s_cell) f cdv A outer s H E) (WOf E) := takes_of rfl rfl rfl rfl
  have ps0 : PassesOwn (model P w) (cxOf (L2.CX P w) P w K mg base ["_law_script", "_law_k"] "_law_cell" (defScope s_cell) f cdv A outer s H E).A (cxOf (L2.CX P w) P w K mg base ["_law_script", "_law_k"] "_law_cell" (defScope s_cell) f cdv A outer s H E).env (cxOf (L2.CX P w) P w K mg base ["_law_script", "_law_k"] "_law_cell" (defScope s_cell) f cdv A outer s H E).xe := passes_of rfl
  exact (scons (sif (tscr 0) (sone (sret (xscrIx 0 (xop op_modN pure_mod (xv 1) (xscrLen 0 (by rfl) T_.b.len))))) snil)
 (sone (sret xint)))
abbrev s_due : Stmt := top 32
theorem sc__law_due : FnScope ["_law_rows", "_law_others", "_law_left", "_law_gone", "_law_k", "_law_same", "_law_j"] ["_law_rows", "_law_others"] (defScope s_due) := ⟨rfl, rfl, rfl, by decide +kernel, rfl, by decide +kernel, by decide +kernel⟩
theorem ok__law_due (T_ : Txt K mg T) (F : At K mg "_law_due" s_due ["_law_rows", "_law_others"])  : Does P w K mg base T "_law_due" ["_law_rows", "_law_others"] 1 L_due_k80 :=
 does F sc__law_due 5 rfl fun f cdv A outer s H E hr => by
  have nd := sc__law_due.nd
  have hu := hr.units
  have tk0 : Takes (cxOf (L2.CX P w) P w K mg base ["_law_rows", "_law_others", "_law_left", "_law_gone", "_law_k", "_law_same", "_law_j"] "_law_due" (defScope s_due) f cdv A outer s H E) (WOf E) := takes_of rfl rfl rfl rfl
  have ps0 : PassesOwn (model P w) (cxOf (L2.CX P w) P w K mg base ["_law_rows", "_law_others", "_law_left", "_law_gone", "_law_k", "_law_same", "_law_j"] "_law_due" (defScope s_due) f cdv A outer s H E).A (cxOf (L2.CX P w) P w K mg base ["_law_rows", "_law_others", "_law_left", "_law_gone", "_law_k", "_law_same", "_law_j"] "_law_due" (defScope s_due) f cdv A outer s H E).env (cxOf (L2.CX P w) P w K mg base ["_law_rows", "_law_others", "_law_left", "_law_gone", "_law_k", "_law_same", "_law_j"] "_law_due" (defScope s_due) f cdv A outer s H E).xe := passes_of rfl
  exact (scons (sset 2 nd (xl (llr1 rfl (by rfl) T_.b.list (by rfl) T_.b.range (xcb call_len pure_len (by rfl) T_.b.len b_len (dcons (xv 1) dnil)))))
 (scons (sset 3 nd (xl (ldsp dnil)))
 (scons (sfor ps0 rfl (irng1 (by rfl) T_.b.range (dcons (xcb call_len pure_len (by rfl) T_.b.len b_len (dcons (xv 0) dnil)) dnil)) (gnm 4 nd) (scons (sset 5 nd (xl (llc [("_law_j", 6)] rfl nd (iany (xv 2)) (blkOk_by (by kernel_rfl)) (fun _ _ _ _ _ => (gnm 6 nd)) (fun _ _ _ _ _ => (pts_one (tcmp (op_eqP hu) pure_eq (xix (xv 1) (xv 6)) (xix (xv 0) (xv 4)) (nomark _)))) (fun _ _ _ _ _ => (xv 6)) (by decide))))
 (scons (ssetLc 2 [("_law_j", 6)] rfl nd (iany (xv 2)) (blkOk_by (by kernel_rfl)) (fun _ _ _ _ _ => (gnm 6 nd)) (fun _ _ _ _ _ => (pts_one (tcmp (op_notinA hu) pure_notin (xv 6) (xsl (xv 5) opn (ops xint)) (by rfl)))) (fun _ _ _ _ _ => (xv 6)) (by decide) (sw_true rfl rfl rfl (by decide +kernel)))
 (sone (sset 3 nd (xop op_addD pure_add (xv 3) (xop op_mulD pure_mulD (xl (ldsp (dcons (xv 4) dnil))) (xct call_int1 pure_int1 (by rfl) T_.b.int b_int (dcons (xcmp (op_eqP hu) pure_eq (xv 5) (xl (ldsp dnil)) (nomark _)) dnil)))))))))
 (sone (sret (xtup (dcons (xv 3) (dcons (xv 2) dnil))))))))
abbrev s_is_value : Stmt := top 13
theorem sc_is_value : FnScope ["kind", "thing"] ["kind", "thing"] (defScope s_is_value) := ⟨rfl, rfl, rfl, by decide +kernel, rfl, by decide +kernel, by decide +kernel⟩
theorem ok_is_value (T_ : Txt K mg T) (F : At K mg "is_value" s_is_value ["kind", "thing"]) (D_is_whole : Does P w K mg base T "is_whole" ["thing", "low", "most"] 1 M_is_whole) (D_is_word : Does P w K mg base T "is_word" ["thing"] 1 M_is_word) : Does P w K mg base T "is_value" ["kind", "thing"] 2 M_is_value :=
 does F sc_is_value 0 rfl fun f cdv A outer s H E hr => by
  have nd := sc_is_value.nd
  have hu := hr.units
  have tk0 : Takes (cxOf (L2.CX P w) P w K mg base ["kind", "thing"] "is_value" (defScope s_is_value) f cdv A outer s H E) (WOf E) := takes_of rfl rfl rfl rfl
  have ps0 : PassesOwn (model P w) (cxOf (L2.CX P w) P w K mg base ["kind", "thing"] "is_value" (defScope s_is_value) f cdv A outer s H E).A (cxOf (L2.CX P w) P w K mg base ["kind", "thing"] "is_value" (defScope s_is_value) f cdv A outer s H E).env (cxOf (L2.CX P w) P w K mg base ["kind", "thing"] "is_value" (defScope s_is_value) f cdv A outer s H E).xe := passes_of rfl
  exact (scons (sif (tcmp op_isN pure_is (xv 1) xnon (nomark _)) (sone (sret xbl)) snil)
 (sone (sret (xif (tcmp (op_eqP hu) pure_eq (xv 0) xstr (nomark _)) (xdo D_is_word (hr.mono (by decide)) (by rfl) tk0 (av (xv 1) anil)) (xdo D_is_whole (hr.mono (by decide)) (by rfl) tk0 (av (xv 1) (av (xop op_sub pure_sub xint (xci (by rfl) T_.c_MOST_NUMBER)) (av (xci (by rfl) T_.c_MOST_NUMBER) anil))))))))
abbrev s_are_columns : Stmt := top 14
theorem sc_are_columns : FnScope ["thing", "one"] ["thing"] (defScope s_are_columns) := ⟨rfl, rfl, rfl, by decide +kernel, rfl, by decide +kernel, by decide +kernel⟩
theorem ok_are_columns (T_ : Txt K mg T) (F : At K mg "are_columns" s_are_columns ["thing"]) (D_is_word : Does P w K mg base T "is_word" ["thing"] 1 M_is_word) : Does P w K mg base T "are_columns" ["thing"] 2 M_are_columns :=
 does F sc_are_columns 1 rfl fun f cdv A outer s H E hr => by
  have nd := sc_are_columns.nd
  have hu := hr.units
  have tk0 : Takes (cxOf (L2.CX P w) P w K mg base ["thing", "one"] "are_columns" (defScope s_are_columns) f cdv A outer s H E) (WOf E) := takes_of rfl rfl rfl rfl
  have ps0 : PassesOwn (model P w) (cxOf (L2.CX P w) P w K mg base ["thing", "one"] "are_columns" (defScope s_are_columns) f cdv A outer s H E).A (cxOf (L2.CX P w) P w K mg base ["thing", "one"] "are_columns" (defScope s_are_columns) f cdv A outer s H E).env (cxOf (L2.CX P w) P w K mg base ["thing", "one"] "are_columns" (defScope s_are_columns) f cdv A outer s H E).xe := passes_of rfl
  exact (scons (sif (tw (wor (tnot (ttru (xisi (t := "tuple") (by rfl) T_.b.isinstance (by rfl) T_.b.tuple b_tuple (by decide) (xv 0)))) (wor1 (tnot (tchain op_le op_le pure_le pure_le (fun _ _ _ h => le_bool h) xint (xcb call_len pure_len (by rfl) T_.b.len b_len (dcons (xv 0) dnil)) (xci (by rfl) T_.c_MOST_COLUMNS) (by with_unfolding_all rfl)))))) (sone (sret xbl)) snil)
 (scons (sif (tnot (ttru (xcb (cr_all rfl) pure_all (by rfl) T_.b.all b_all (dcons (xl (llc [("one", 1)] rfl nd (iany (xv 0)) (blkOk_by (by kernel_rfl)) (fun _ _ _ _ _ => (gnm 1 nd)) (fun _ _ _ _ _ => pts_nilM) (fun _ _ _ _ _ => (xand (xisi (t := "tuple") (by rfl) T_.b.isinstance (by rfl) T_.b.tuple b_tuple (by decide) (xv 1)) (xand (xcmp (op_eqP hu) pure_eq (xcb call_len pure_len (by rfl) T_.b.len b_len (dcons (xv 1) dnil)) xint (nomark _)) (xone (xdo D_is_word (hr.mono (by decide)) (by rfl) takes0 (av (xix (xv 1) xint) anil)))))) (by decide))) dnil)))) (sone (sret xbl)) snil)
 (scons (sif (tnot (ttru (xcb (cr_all rfl) pure_all (by rfl) T_.b.all b_all (dcons (xl (llc [("one", 1)] rfl nd (iany (xv 0)) (blkOk_by (by kernel_rfl)) (fun _ _ _ _ _ => (gnm 1 nd)) (fun _ _ _ _ _ => pts_nilM) (fun _ _ _ _ _ => (xand (xisi (t := "str") (by rfl) T_.b.isinstance (by rfl) T_.b.str b_str (by decide) (xix (xv 1) xint)) (xone (xcmp (op_inA hu) pure_in (xix (xv 1) xint) (xcd (by rfl) T_.c_KINDS) (by rfl))))) (by decide))) dnil)))) (sone (sret xbl)) snil)
 (sone (sret (xcmp (op_eqP hu) pure_eq (xlenset (by rfl) T_.b.len (by rfl) T_.b.set (xl (llc [("one", 1)] rfl nd (iany (xv 0)) (blkOk_by (by kernel_rfl)) (fun _ _ _ _ _ => (gnm 1 nd)) (fun _ _ _ _ _ => pts_nilM) (fun _ _ _ _ _ => (xix (xv 1) xint)) (by decide))) rfl) (xcb call_len pure_len (by rfl) T_.b.len b_len (dcons (xv 0) dnil)) (nomark _)))))))
abbrev s_mix : Stmt := top 23
theorem sc__law_mix : FnScope ["_law_script", "_law_k", "_law_number"] ["_law_script", "_law_k"] (defScope s_mix) := ⟨rfl, rfl, rfl, by decide +kernel, rfl, by decide +kernel, by decide +kernel⟩
theorem ok__law_mix (T_ : Txt K mg T) (F : At K mg "_law_mix" s_mix ["_law_script", "_law_k"]) (D__law_cell : Does P w K mg base T "_law_cell" ["_law_script", "_law_k"] 1 L_cell) : Does P w K mg base T "_law_mix" ["_law_script", "_law_k"] 2 L_mix :=
 does F sc__law_mix 1 rfl fun f cdv A outer s H E hr => by
  have nd := sc__law_mix.nd
  have hu := hr.units
  have tk0 : Takes (cxOf (L2.CX P w) P w K mg base ["_law_script", "_law_k", "_law_number"] "_law_mix" (defScope s_mix) f cdv A outer s H E) (WOf E) := takes_of rfl rfl rfl rfl
  have ps0 : PassesOwn (model P w) (cxOf (L2.CX P w) P w K mg base ["_law_script", "_law_k", "_law_number"] "_law_mix" (defScope s_mix) f cdv A outer s H E).A (cxOf (L2.CX P w) P w K mg base ["_law_script", "_law_k", "_law_number"] "_law_mix" (defScope s_mix) f cdv A outer s H E).env (cxOf (L2.CX P w) P w K mg base ["_law_script", "_law_k", "_law_number"] "_law_mix" (defScope s_mix) f cdv A outer s H E).xe := passes_of rfl
  exact (scons (sset 2 nd (xop op_modN pure_mod (xop op_addD pure_add (xdo D__law_cell (hr.mono (by decide)) (by rfl) tk0 (ar 0 (av (xv 1) anil))) (xop op_mulD pure_mulD xint (xop op_addD pure_add (xv 1) xint))) xint))
 (scons (sset 2 nd (xop op_modN pure_mod (xop op_pow pure_pow (xv 2) xint) xint))
 (sone (sret (xop op_modN pure_mod (xop op_addD pure_add (xop op_mulD pure_mulD (xop op_fdivW pure_div (xv 2) xint) xint) (xv 2)) xint)))))
abbrev s_look_columns : Stmt := top 15
theorem sc_look_columns : FnScope ["columns"] ["columns"] (defScope s_look_columns) := ⟨rfl, rfl, rfl, by decide +kernel, rfl, by decide +kernel, by decide +kernel⟩
theorem ok_look_columns (T_ : Txt K mg T) (F : At K mg "look_columns" s_look_columns ["columns"]) (D_are_columns : Does P w K mg base T "are_columns" ["thing"] 2 M_are_columns) : Does P w K mg base T "look_columns" ["columns"] 3 M_look_columns :=
 does F sc_look_columns 0 rfl fun f cdv A outer s H E hr => by
  have nd := sc_look_columns.nd
  have hu := hr.units
  have tk0 : Takes (cxOf (L2.CX P w) P w K mg base ["columns"] "look_columns" (defScope s_look_columns) f cdv A outer s H E) (WOf E) := takes_of rfl rfl rfl rfl
  have ps0 : PassesOwn (model P w) (cxOf (L2.CX P w) P w K mg base ["columns"] "look_columns" (defScope s_look_columns) f cdv A outer s H E).A (cxOf (L2.CX P w) P w K mg base ["columns"] "look_columns" (defScope s_look_columns) f cdv A outer s H E).env (cxOf (L2.CX P w) P w K mg base ["columns"] "look_columns" (defScope s_look_columns) f cdv A outer s H E).xe := passes_of rfl
  exact (sone (sif (tnot (ttru (xdo D_are_columns (hr.mono (by decide)) (by rfl) tk0 (av (xv 0) anil)))) (sone (srs 0 rfl tk0 T_.x_BadTable (by rfl))) snil))
abbrev s_look_row : Stmt := top 16
theorem sc_look_row : FnScope ["columns", "row", "k"] ["columns", "row"] (defScope s_look_row) := ⟨rfl, rfl, rfl, by decide +kernel, rfl, by decide +kernel, by decide +kernel⟩
theorem ok_look_row (T_ : Txt K mg T) (F : At K mg "look_row" s_look_row ["columns", "row"]) (D_is_value : Does P w K mg base T "is_value" ["kind", "thing"] 2 M_is_value) : Does P w K mg base T "look_row" ["columns", "row"] 3 M_look_row :=
 does F sc_look_row 1 rfl fun f cdv A outer s H E hr => by
  have nd := sc_look_row.nd
  have hu := hr.units
  have tk0 : Takes (cxOf (L2.CX P w) P w K mg base ["columns", "row", "k"] "look_row" (defScope s_look_row) f cdv A outer s H E) (WOf E) := takes_of rfl rfl rfl rfl
  have ps0 : PassesOwn (model P w) (cxOf (L2.CX P w) P w K mg base ["columns", "row", "k"] "look_row" (defScope s_look_row) f cdv A outer s H E).A (cxOf (L2.CX P w) P w K mg base ["columns", "row", "k"] "look_row" (defScope s_look_row) f cdv A outer s H E).env (cxOf (L2.CX P w) P w K mg base ["columns", "row", "k"] "look_row" (defScope s_look_row) f cdv A outer s H E).xe := passes_of rfl
  exact (scons (sif (tw (wor (tnot (ttru (xisi (t := "tuple") (by rfl) T_.b.isinstance (by rfl) T_.b.tuple b_tuple (by decide) (xv 1)))) (wor1 (tcmp (op_neP hu) pure_ne (xcb call_len pure_len (by rfl) T_.b.len b_len (dcons (xv 1) dnil)) (xcb call_len pure_len (by rfl) T_.b.len b_len (dcons (xv 0) dnil)) (nomark _))))) (sone (srs 1 rfl tk0 T_.x_BadRow (by rfl))) snil)
 (sone (sif (tnot (ttru (xcb (cr_all rfl) pure_all (by rfl) T_.b.all b_all (dcons (xl (llc [("k", 2)] rfl nd (irng1 (by rfl) T_.b.range (dcons (xcb call_len pure_len (by rfl) T_.b.len b_len (dcons (xv 1) dnil)) dnil)) (blkOk_by (by kernel_rfl)) (fun _ _ _ _ _ => (gnm 2 nd)) (fun _ _ _ _ _ => pts_nilM) (fun _ _ _ _ _ => (xdo D_is_value (hr.mono (by decide)) (by rfl) takes0 (av (xix (xix (xv 0) (xv 2)) xint) (av (xix (xv 1) (xv 2)) anil)))) (by decide))) dnil)))) (sone (srs 1 rfl tk0 T_.x_BadRow (by rfl))) snil)))
abbrev s_draw : Stmt := top 24
theorem sc__law_draw : FnScope ["_law_script", "_law_town", "_law_many"] ["_law_script", "_law_town", "_law_many"] (defScope s_draw) := ⟨rfl, rfl, rfl, by decide +kernel, rfl, by decide +kernel, by decide +kernel⟩
theorem ok__law_draw (T_ : Txt K mg T) (F : At K mg "_law_draw" s_draw ["_law_script", "_law_town", "_law_many"]) (D__law_mix : Does P w K mg base T "_law_mix" ["_law_script", "_law_k"] 2 L_mix) : Does P w K mg base T "_law_draw" ["_law_script", "_law_town", "_law_many"] 3 L_draw :=
 does F sc__law_draw 0 rfl fun f cdv A outer s H E hr => by
  have nd := sc__law_draw.nd
  have hu := hr.units
  have tk0 : Takes (cxOf (L2.CX P w) P w K mg base ["_law_script", "_law_town", "_law_many"] "_law_draw" (defScope s_draw) f cdv A outer s H E) (WOf E) := takes_of rfl rfl rfl rfl
  have ps0 : PassesOwn (model P w) (cxOf (L2.CX P w) P w K mg base ["_law_script", "_law_town", "_law_many"] "_law_draw" (defScope s_draw) f cdv A outer s H E).A (cxOf (L2.CX P w) P w K mg base ["_law_script", "_law_town", "_law_many"] "_law_draw" (defScope s_draw) f cdv A outer s H E).env (cxOf (L2.CX P w) P w K mg base ["_law_script", "_law_town", "_law_many"] "_law_draw" (defScope s_draw) f cdv A outer s H E).xe := passes_of rfl
  exact (scons (sappend 1 xint)
 (sone (sret (xop op_modN pure_mod (xop op_fdivW pure_div (xdo D__law_mix (hr.mono (by decide)) (by rfl) tk0 (ar 0 (av (xlenP 1 (by rfl) T_.b.len) anil))) xint) (xv 2)))))
abbrev s_look_table : Stmt := top 17
theorem sc_look_table : FnScope ["table", "row"] ["table"] (defScope s_look_table) := ⟨rfl, rfl, rfl, by decide +kernel, rfl, by decide +kernel, by decide +kernel⟩
theorem ok_look_table (T_ : Txt K mg T) (F : At K mg "look_table" s_look_table ["table"]) (D_look_columns : Does P w K mg base T "look_columns" ["columns"] 3 M_look_columns) (D_look_row : Does P w K mg base T "look_row" ["columns", "row"] 3 M_look_row) : Does P w K mg base T "look_table" ["table"] 4 M_look_table :=
 does F sc_look_table 1 rfl fun f cdv A outer s H E hr => by
  have nd := sc_look_table.nd
  have hu := hr.units
  have tk0 : Takes (cxOf (L2.CX P w) P w K mg base ["table", "row"] "look_table" (defScope s_look_table) f cdv A outer s H E) (WOf E) := takes_of rfl rfl rfl rfl
  have ps0 : PassesOwn (model P w) (cxOf (L2.CX P w) P w K mg base ["table", "row"] "look_table" (defScope s_look_table) f cdv A outer s H E).A (cxOf (L2.CX P w) P w K mg base ["table", "row"] "look_table" (defScope s_look_table) f cdv A outer s H E).env (cxOf (L2.CX P w) P w K mg base ["table", "row"] "look_table" (defScope s_look_table) f cdv A outer s H E).xe := passes_of rfl
  exact (scons (sif (tw (wor (tnot (ttru (xisi (t := "tuple") (by rfl) T_.b.isinstance (by rfl) T_.b.tuple b_tuple (by decide) (xv 0)))) (wor1 (tcmp (op_neP hu) pure_ne (xcb call_len pure_len (by rfl) T_.b.len b_len (dcons (xv 0) dnil)) xint (nomark _))))) (sone (srs 0 rfl tk0 T_.x_BadTable (by rfl))) snil)
 (scons (sexpr (xdo D_look_columns (hr.mono (by decide)) (by rfl) tk0 (av (xix (xv 0) xint) anil)))
 (scons (sif (tw (wor (tnot (ttru (xisi (t := "list") (by rfl) T_.b.isinstance (by rfl) T_.b.list b_list (by decide) (xix (xv 0) xint)))) (wor1 (tcmp op_gt pure_gt (xcb call_len pure_len (by rfl) T_.b.len b_len (dcons (xix (xv 0) xint) dnil)) (xci (by rfl) T_.c_MOST_ROWS) (nomark _))))) (sone (srs 0 rfl tk0 T_.x_BadTable (by rfl))) snil)
 (sone (sfor ps0 rfl (iany (xix (xv 0) xint)) (gnm 1 nd) (sone (sexpr (xdo D_look_row (hr.mono (by decide)) (by rfl) tk0 (av (xix (xv 0) xint) (av (xv 1) anil))))))))))
abbrev s_pick : Stmt := top 25
theorem sc__law_pick : FnScope ["_law_script", "_law_town", "_law_some"] ["_law_script", "_law_town", "_law_some"] (defScope s_pick) := ⟨rfl, rfl, rfl, by decide +kernel, rfl, by decide +kernel, by decide +kernel⟩
theorem ok__law_pick (T_ : Txt K mg T) (F : At K mg "_law_pick" s_pick ["_law_script", "_law_town", "_law_some"]) (D__law_draw : Does P w K mg base T "_law_draw" ["_law_script", "_law_town", "_law_many"] 3 L_draw) : Does P w K mg base T "_law_pick" ["_law_script", "_law_town", "_law_some"] 4 L_pick :=
 does F sc__law_pick 0 rfl fun f cdv A outer s H E hr => by
  have nd := sc__law_pick.nd
  have hu := hr.units
  have tk0 : Takes (cxOf (L2.CX P w) P w K mg base ["_law_script", "_law_town", "_law_some"] "_law_pick" (defScope s_pick) f cdv A outer s H E) (WOf E) := takes_of rfl rfl rfl rfl
  have ps0 : PassesOwn (model P w) (cxOf (L2.CX P w) P w K mg base ["_law_script", "_law_town", "_law_some"] "_law_pick" (defScope s_pick) f cdv A outer s H E).A (cxOf (L2.CX P w) P w K mg base ["_law_script", "_law_town", "_law_some"] "_law_pick" (defScope s_pick) f cdv A outer s H E).env (cxOf (L2.CX P w) P w K mg base ["_law_script", "_law_town", "_law_some"] "_law_pick" (defScope s_pick) f cdv A outer s H E).xe := passes_of rfl
  exact (sone (sret (xix (xv 2) (xdo D__law_draw (hr.mono (by decide)) (by rfl) tk0 (ar 0 (ab 1 (av (xcb call_len pure_len (by rfl) T_.b.len b_len (dcons (xv 2) dnil)) anil)))))))
abbrev s_look_two : Stmt := top 19
theorem sc_look_two : FnScope ["one", "other"] ["one", "other"] (defScope s_look_two) := ⟨rfl, rfl, rfl, by decide +kernel, rfl, by decide +kernel, by decide +kernel⟩
theorem ok_look_two (T_ : Txt K mg T) (F : At K mg "look_two" s_look_two ["one", "other"]) (D_look_table : Does P w K mg base T "look_table" ["table"] 4 M_look_table) : Does P w K mg base T "look_two" ["one", "other"] 5 M_look_two :=
 does F sc_look_two 0 rfl fun f cdv A outer s H E hr => by
  have nd := sc_look_two.nd
  have hu := hr.units
  have tk0 : Takes (cxOf (L2.CX P w) P w K mg base ["one", "other"] "look_two" (defScope s_look_two) f cdv A outer s H E) (WOf E) := takes_of rfl rfl rfl rfl
  have ps0 : PassesOwn (model P w) (cxOf (L2.CX P w) P w K mg base ["one", "other"] "look_two" (defScope s_look_two) f cdv A outer s H E).A (cxOf (L2.CX P w) P w K mg base ["one", "other"] "look_two" (defScope s_look_two) f cdv A outer s H E).env (cxOf (L2.CX P w) P w K mg base ["one", "other"] "look_two" (defScope s_look_two) f cdv A outer s H E).xe := passes_of rfl
  exact (scons (sexpr (xdo D_look_table (hr.mono (by decide)) (by rfl) tk0 (av (xv 0) anil)))
 (scons (sexpr (xdo D_look_table (hr.mono (by decide)) (by rfl) tk0 (av (xv 1) anil)))
 (sone (sif (tcmp (op_neP hu) pure_ne (xix (xv 0) xint) (xix (xv 1) xint) (nomark _)) (sone (srs 0 rfl tk0 T_.x_BadTable (by rfl))) snil))))
abbrev s_word : Stmt := top 26
theorem sc__law_word : FnScope ["_law_script", "_law_town", "_law_signs", "_law_k"] ["_law_script", "_law_town"] (defScope s_word) := ⟨rfl, rfl, rfl, by decide +kernel, rfl, by decide +kernel, by decide +kernel⟩
theorem ok__law_word (T_ : Txt K mg T) (F : At K mg "_law_word" s_word ["_law_script", "_law_town"]) (D__law_draw : Does P w K mg base T "_law_draw" ["_law_script", "_law_town", "_law_many"] 3 L_draw) (D__law_pick : Does P w K mg base T "_law_pick" ["_law_script", "_law_town", "_law_some"] 4 L_pick) : Does P w K mg base T "_law_word" ["_law_script", "_law_town"] 5 L_word :=
 does F sc__law_word 2 rfl fun f cdv A outer s H E hr => by
  have nd := sc__law_word.nd
  have hu := hr.units
  have tk0 : Takes (cxOf (L2.CX P w) P w K mg base ["_law_script", "_law_town", "_law_signs", "_law_k"] "_law_word" (defScope s_word) f cdv A outer s H E) (WOf E) := takes_of rfl rfl rfl rfl
  have ps0 : PassesOwn (model P w) (cxOf (L2.CX P w) P w K mg base ["_law_script", "_law_town", "_law_signs", "_law_k"] "_law_word" (defScope s_word) f cdv A outer s H E).A (cxOf (L2.CX P w) P w K mg base ["_law_script", "_law_town", "_law_signs", "_law_k"] "_law_word" (defScope s_word) f cdv A outer s H E).env (cxOf (L2.CX P w) P w K mg base ["_law_script", "_law_town", "_law_signs", "_law_k"] "_law_word" (defScope s_word) f cdv A outer s H E).xe := passes_of rfl
  exact (scons (sset 2 nd xstr)
 (scons (sif (tcmp op_gt pure_gt (xdo D__law_draw (hr.mono (by decide)) (by rfl) tk0 (ar 0 (ab 1 (av xint anil)))) xint (nomark _)) (sone (sret (xdo D__law_pick (hr.mono (by decide)) (by rfl) tk0 (ar 0 (ab 1 (av (xl (ldsp (dcons xstr (dcons xstr (dcons xstr (dcons xstr (dcons xstr (dcons xstr (dcons xstr dnil))))))))) anil)))))) snil)
 (sone (sret (xjoin xstr (xl (llc [("_law_k", 3)] rfl nd (irng1 (by rfl) T_.b.range (dcons (xop op_addD pure_add xint (xdo D__law_draw (hr.mono (by decide)) (by rfl) tk0 (ar 0 (ab 1 (av xint anil))))) dnil)) (blkOk_by (by kernel_rfl)) (fun _ _ _ _ _ => (gnm 3 nd)) (fun _ _ _ _ _ => pts_nilM) (fun _ _ _ _ _ => (xix (xv 2) (xdo D__law_draw (hr.mono (by decide)) (by rfl) takes0 (ar 0 (ab 1 (av xint anil)))))) (by decide))))))))
abbrev s_columns : Stmt := top 28
theorem sc__law_columns : FnScope ["_law_script", "_law_town", "_law_names", "_law_turn", "_law_kinds", "_law_k", "_law_found"] ["_law_script", "_law_town"] (defScope s_columns) := ⟨rfl, rfl, rfl, by decide +kernel, rfl, by decide +kernel, by decide +kernel⟩
theorem ok__law_columns (T_ : Txt K mg T) (F : At K mg "_law_columns" s_columns ["_law_script", "_law_town"]) (D__law_draw : Does P w K mg base T "_law_draw" ["_law_script", "_law_town", "_law_many"] 3 L_draw) (D__law_pick : Does P w K mg base T "_law_pick" ["_law_script", "_law_town", "_law_some"] 4 L_pick) : Does P w K mg base T "_law_columns" ["_law_script", "_law_town"] 5 L_columns :=
 does F sc__law_columns 5 rfl fun f cdv A outer s H E hr => by
  have nd := sc__law_columns.nd
  have hu := hr.units
  have tk0 : Takes (cxOf (L2.CX P w) P w K mg base ["_law_script", "_law_town", "_law_names", "_law_turn", "_law_kinds", "_law_k", "_law_found"] "_law_columns" (defScope s_columns) f cdv A outer s H E) (WOf E) := takes_of rfl rfl rfl rfl
  have ps0 : PassesOwn (model P w) (cxOf (L2.CX P w) P w K mg base ["_law_script", "_law_town", "_law_names", "_law_turn", "_law_kinds", "_law_k", "_law_found"] "_law_columns" (defScope s_columns) f cdv A outer s H E).A (cxOf (L2.CX P w) P w K mg base ["_law_script", "_law_town", "_law_names", "_law_turn", "_law_kinds", "_law_k", "_law_found"] "_law_columns" (defScope s_columns) f cdv A outer s H E).env (cxOf (L2.CX P w) P w K mg base ["_law_script", "_law_town", "_law_names", "_law_turn", "_law_kinds", "_law_k", "_law_found"] "_law_columns" (defScope s_columns) f cdv A outer s H E).xe := passes_of rfl
  exact (scons (sset 2 nd (xl (ldsp (dcons xstr (dcons xstr (dcons xstr (dcons xstr (dcons xstr (dcons xstr dnil)))))))))
 (scons (sset 3 nd (xdo D__law_draw (hr.mono (by decide)) (by rfl) tk0 (ar 0 (ab 1 (av xint anil)))))
 (scons (sset 2 nd (xop op_addD pure_add (xsl (xv 2) (ops (xv 3)) opn) (xsl (xv 2) opn (ops (xv 3)))))
 (scons (sset 4 nd (xop op_addD pure_add (xl (ldsp (dcons xstr (dcons xstr dnil)))) (xl (llc [("_law_k", 5)] rfl nd (irng1 (by rfl) T_.b.range (dcons xint dnil)) (blkOk_by (by kernel_rfl)) (fun _ _ _ _ _ => (gnm 5 nd)) (fun _ _ _ _ _ => pts_nilM) (fun _ _ _ _ _ => (xdo D__law_pick (hr.mono (by decide)) (by rfl) takes0 (ar 0 (ab 1 (av (xl (ldsp (dcons xstr (dcons xstr dnil)))) anil))))) (by decide)))))
 (scons (ssetLc 6 [("_law_k", 5)] rfl nd (irng1 (by rfl) T_.b.range (dcons (xop op_addD pure_add xint (xdo D__law_draw (hr.mono (by decide)) (by rfl) tk0 (ar 0 (ab 1 (av xint anil))))) dnil)) (blkOk_by (by kernel_rfl)) (fun _ _ _ _ _ => (gnm 5 nd)) (fun _ _ _ _ _ => pts_nilM) (fun _ _ _ _ _ => (xtup (dcons (xix (xv 2) (xv 5)) (dcons (xix (xv 4) (xv 5)) dnil)))) (by decide) (sw_true rfl rfl rfl (by decide +kernel)))
 (scons (sset 3 nd (xdo D__law_draw (hr.mono (by decide)) (by rfl) tk0 (ar 0 (ab 1 (av (xcb call_len pure_len (by rfl) T_.b.len b_len (dcons (xv 6) dnil)) anil)))))
 (sone (sret (xct call_tuple_of pure_tup (by rfl) T_.b.tuple b_tuple (dcons (xop op_addD pure_add (xsl (xv 6) (ops (xv 3)) opn) (xsl (xv 6) opn (ops (xv 3)))) dnil))))))))))
abbrev s_changes : Stmt := top 20
theorem sc_changes : FnScope ["one", "other", "left", "gone", "k", "some", "j"] ["one", "other"] (defScope s_changes) := ⟨rfl, rfl, rfl, by decide +kernel, rfl, by decide +kernel, by decide +kernel⟩
theorem ok_changes (T_ : Txt K mg T) (F : At K mg "changes" s_changes ["one", "other"]) (D_look_two : Does P w K mg base T "look_two" ["one", "other"] 5 M_look_two) : Does P w K mg base T "changes" ["one", "other"] 6 M_changes :=
 does F sc_changes 5 rfl fun f cdv A outer s H E hr => by
  have nd := sc_changes.nd
  have hu := hr.units
  have tk0 : Takes (cxOf (L2.CX P w) P w K mg base ["one", "other", "left", "gone", "k", "some", "j"] "changes" (defScope s_changes) f cdv A outer s H E) (WOf E) := takes_of rfl rfl rfl rfl
  have ps0 : PassesOwn (model P w) (cxOf (L2.CX P w) P w K mg base ["one", "other", "left", "gone", "k", "some", "j"] "changes" (defScope s_changes) f cdv A outer s H E).A (cxOf (L2.CX P w) P w K mg base ["one", "other", "left", "gone", "k", "some", "j"] "changes" (defScope s_changes) f cdv A outer s H E).env (cxOf (L2.CX P w) P w K mg base ["one", "other", "left", "gone", "k", "some", "j"] "changes" (defScope s_changes) f cdv A outer s H E).xe := passes_of rfl
  exact (scons (sexpr (xdo D_look_two (hr.mono (by decide)) (by rfl) tk0 (av (xv 0) (av (xv 1) anil))))
 (scons (ssetO 2 nd (llr1 rfl (by rfl) T_.b.list (by rfl) T_.b.range (xcb call_len pure_len (by rfl) T_.b.len b_len (dcons (xix (xv 1) xint) dnil))))
 (scons (ssetO 3 nd (ldsp dnil))
 (scons (sfor ps0 rfl (irng1 (by rfl) T_.b.range (dcons (xcb call_len pure_len (by rfl) T_.b.len b_len (dcons (xix (xv 0) xint) dnil)) dnil)) (gnm 4 nd) (scons (ssetLcP 5 2 [("j", 6)] rfl nd (blkOk_by (by kernel_rfl)) (fun _ _ _ _ _ => (gnm 6 nd)) (fun _ _ _ _ _ => (pts_one (tcmp (op_eqP hu) pure_eq (xix (xix (xv 1) xint) (xv 6)) (xix (xix (xv 0) xint) (xv 4)) (nomark _)))) (fun _ _ _ _ _ => (xv 6)) (by decide) (sw_true rfl rfl rfl (by decide +kernel)))
 (sone (sif (ttru (xv 5)) (sone (sremove 2 (xix (xv 5) xint))) (sone (sappend 3 (xv 4)))))))
 (sone (sret (xtup (dcons (xrd 3) (dcons (xrd 2) dnil)))))))))
abbrev s_value : Stmt := top 27
theorem sc__law_value : FnScope ["_law_script", "_law_town", "_law_kind", "_law_some"] ["_law_script", "_law_town", "_law_kind"] (defScope s_value) := ⟨rfl, rfl, rfl, by decide +kernel, rfl, by decide +kernel, by decide +kernel⟩
theorem ok__law_value (T_ : Txt K mg T) (F : At K mg "_law_value" s_value ["_law_script", "_law_town", "_law_kind"]) (D__law_draw : Does P w K mg base T "_law_draw" ["_law_script", "_law_town", "_law_many"] 3 L_draw) (D__law_pick : Does P w K mg base T "_law_pick" ["_law_script", "_law_town", "_law_some"] 4 L_pick) (D__law_word : Does P w K mg base T "_law_word" ["_law_script", "_law_town"] 5 L_word) : Does P w K mg base T "_law_value" ["_law_script", "_law_town", "_law_kind"] 6 L_value :=
 does F sc__law_value 1 rfl fun f cdv A outer s H E hr => by
  have nd := sc__law_value.nd
  have hu := hr.units
  have tk0 : Takes (cxOf (L2.CX P w) P w K mg base ["_law_script", "_law_town", "_law_kind", "_law_some"] "_law_value" (defScope s_value) f cdv A outer s H E) (WOf E) := takes_of rfl rfl rfl rfl
  have ps0 : PassesOwn (model P w) (cxOf (L2.CX P w) P w K mg base ["_law_script", "_law_town", "_law_kind", "_law_some"] "_law_value" (defScope s_value) f cdv A outer s H E).A (cxOf (L2.CX P w) P w K mg base ["_law_script", "_law_town", "_law_kind", "_law_some"] "_law_value" (defScope s_value) f cdv A outer s H E).env (cxOf (L2.CX P w) P w K mg base ["_law_script", "_law_town", "_law_kind", "_law_some"] "_law_value" (defScope s_value) f cdv A outer s H E).xe := passes_of rfl
  exact (scons (sif (tcmp (op_eqP hu) pure_eq (xdo D__law_draw (hr.mono (by decide)) (by rfl) tk0 (ar 0 (ab 1 (av xint anil)))) xint (nomark _)) (sone (sret xnon)) snil)
 (scons (sif (tcmp (op_eqP hu) pure_eq (xv 2) xstr (nomark _)) (sone (sret (xdo D__law_word (hr.mono (by decide)) (by rfl) tk0 (ar 0 (ab 1 anil))))) snil)
 (scons (sset 3 nd (xl (ldsp (dcons xint (dcons xint (dcons xint (dcons xint (dcons xint (dcons (xop op_sub pure_sub xint xint) (dcons (xop op_sub pure_sub xint xint) (dcons xint (dcons (xop op_sub pure_sub xint xint) (dcons (xop op_sub pure_sub (xdo D__law_draw (hr.mono (by decide)) (by rfl) tk0 (ar 0 (ab 1 (av xint anil)))) xint) dnil)))))))))))))
 (sone (sret (xdo D__law_pick (hr.mono (by decide)) (by rfl) tk0 (ar 0 (ab 1 (av (xv 3) anil)))))))))
abbrev s_row : Stmt := top 29
theorem sc__law_row : FnScope ["_law_script", "_law_town", "_law_columns_here", "_law_name", "_law_kind"] ["_law_script", "_law_town", "_law_columns_here"] (defScope s_row) := ⟨rfl, rfl, rfl, by decide +kernel, rfl, by decide +kernel, by decide +kernel⟩
theorem ok__law_row (T_ : Txt K mg T) (F : At K mg "_law_row" s_row ["_law_script", "_law_town", "_law_columns_here"]) (D__law_value : Does P w K mg base T "_law_value" ["_law_script", "_law_town", "_law_kind"] 6 L_value) : Does P w K mg base T "_law_row" ["_law_script", "_law_town", "_law_columns_here"] 7 L_row :=
 does F sc__law_row 2 rfl fun f cdv A outer s H E hr => by
  have nd := sc__law_row.nd
  have hu := hr.units
  have tk0 : Takes (cxOf (L2.CX P w) P w K mg base ["_law_script", "_law_town", "_law_columns_here", "_law_name", "_law_kind"] "_law_row" (defScope s_row) f cdv A outer s H E) (WOf E) := takes_of rfl rfl rfl rfl
  have ps0 : PassesOwn (model P w) (cxOf (L2.CX P w) P w K mg base ["_law_script", "_law_town", "_law_columns_here", "_law_name", "_law_kind"] "_law_row" (defScope s_row) f cdv A outer s H E).A (cxOf (L2.CX P w) P w K mg base ["_law_script", "_law_town", "_law_columns_here", "_law_name", "_law_kind"] "_law_row" (defScope s_row) f cdv A outer s H E).env (cxOf (L2.CX P w) P w K mg base ["_law_script", "_law_town", "_law_columns_here", "_law_name", "_law_kind"] "_law_row" (defScope s_row) f cdv A outer s H E).xe := passes_of rfl
  exact (sone (sret (xct call_tuple_of pure_tup (by rfl) T_.b.tuple b_tuple (dcons (xl (llc [("_law_name", 3), ("_law_kind", 4)] rfl nd (iany (xv 2)) (blkOk_by (by kernel_rfl)) (fun _ _ _ _ _ => (gtup rfl (gscons (gnm 3 nd) (gscons (gnm 4 nd) gsnil)))) (fun _ _ _ _ _ => pts_nilM) (fun _ _ _ _ _ => (xdo D__law_value (hr.mono (by decide)) (by rfl) takes0 (ar 0 (ab 1 (av (xv 4) anil))))) (by decide))) dnil))))
abbrev s_table : Stmt := top 30
theorem sc__law_table : FnScope ["_law_script", "_law_town", "_law_most", "_law_columns_here", "_law_rows", "_law_k"] ["_law_script", "_law_town", "_law_most"] (defScope s_table) := ⟨rfl, rfl, rfl, by decide +kernel, rfl, by decide +kernel, by decide +kernel⟩
theorem ok__law_table (T_ : Txt K mg T) (F : At K mg "_law_table" s_table ["_law_script", "_law_town", "_law_most"]) (D__law_columns : Does P w K mg base T "_law_columns" ["_law_script", "_law_town"] 5 L_columns) (D__law_draw : Does P w K mg base T "_law_draw" ["_law_script", "_law_town", "_law_many"] 3 L_draw) (D__law_row : Does P w K mg base T "_law_row" ["_law_script", "_law_town", "_law_columns_here"] 7 L_row) : Does P w K mg base T "_law_table" ["_law_script", "_law_town", "_law_most"] 8 L_table :=
 does F sc__law_table 3 rfl fun f cdv A outer s H E hr => by
  have nd := sc__law_table.nd
  have hu := hr.units
  have tk0 : Takes (cxOf (L2.CX P w) P w K mg base ["_law_script", "_law_town", "_law_most", "_law_columns_here", "_law_rows", "_law_k"] "_law_table" (defScope s_table) f cdv A outer s H E) (WOf E) := takes_of rfl rfl rfl rfl
  have ps0 : PassesOwn (model P w) (cxOf (L2.CX P w) P w K mg base ["_law_script", "_law_town", "_law_most", "_law_columns_here", "_law_rows", "_law_k"] "_law_table" (defScope s_table) f cdv A outer s H E).A (cxOf (L2.CX P w) P w K mg base ["_law_script", "_law_town", "_law_most", "_law_columns_here", "_law_rows", "_law_k"] "_law_table" (defScope s_table) f cdv A outer s H E).env (cxOf (L2.CX P w) P w K mg base ["_law_script", "_law_town", "_law_most", "_law_columns_here", "_law_rows", "_law_k"] "_law_table" (defScope s_table) f cdv A outer s H E).xe := passes_of rfl
  exact (scons (sset 3 nd (xdo D__law_columns (hr.mono (by decide)) (by rfl) tk0 (ar 0 (ab 1 anil))))
 (scons (ssetLc 4 [("_law_k", 5)] rfl nd (irng1 (by rfl) T_.b.range (dcons (xdo D__law_draw (hr.mono (by decide)) (by rfl) tk0 (ar 0 (ab 1 (av (xop op_addD pure_add (xv 2) xint) anil)))) dnil)) (blkOk_by (by kernel_rfl)) (fun _ _ _ _ _ => (gnm 5 nd)) (fun _ _ _ _ _ => pts_nilM) (fun _ _ _ _ _ => (xdo D__law_row (hr.mono (by decide)) (by rfl) takes0 (ar 0 (ab 1 (av (xv 3) anil))))) (by decide) (sw_true rfl rfl rfl (by decide +kernel)))
 (sone (sret (xtup (dcons (xv 3) (dcons (xv 4) dnil)))))))
abbrev s_two : Stmt := top 31
theorem sc__law_two : FnScope ["_law_script", "_law_town", "_law_most", "_law_table_here", "_law_columns_here", "_law_rows", "_law_some", "_law_more", "_law_k"] ["_law_script", "_law_town", "_law_most"] (defScope s_two) := ⟨rfl, rfl, rfl, by decide +kernel, rfl, by decide +kernel, by decide +kernel⟩
theorem ok__law_two (T_ : Txt K mg T) (F : At K mg "_law_two" s_two ["_law_script", "_law_town", "_law_most"]) (D__law_draw : Does P w K mg base T "_law_draw" ["_law_script", "_law_town", "_law_many"] 3 L_draw) (D__law_row : Does P w K mg base T "_law_row" ["_law_script", "_law_town", "_law_columns_here"] 7 L_row) (D__law_table : Does P w K mg base T "_law_table" ["_law_script", "_law_town", "_law_most"] 8 L_table) : Does P w K mg base T "_law_two" ["_law_script", "_law_town", "_law_most"] 9 L_two :=
 does F sc__law_two 6 rfl fun f cdv A outer s H E hr => by
  have nd := sc__law_two.nd
  have hu := hr.units
  have tk0 : Takes (cxOf (L2.CX P w) P w K mg base ["_law_script", "_law_town", "_law_most", "_law_table_here", "_law_columns_here", "_law_rows", "_law_some", "_law_more", "_law_k"] "_law_two" (defScope s_two) f cdv A outer s H E) (WOf E) := takes_of rfl rfl rfl rfl
  have ps0 : PassesOwn (model P w) (cxOf (L2.CX P w) P w K mg base ["_law_script", "_law_town", "_law_most", "_law_table_here", "_law_columns_here", "_law_rows", "_law_some", "_law_more", "_law_k"] "_law_two" (defScope s_two) f cdv A outer s H E).A (cxOf (L2.CX P w) P w K mg base ["_law_script", "_law_town", "_law_most", "_law_table_here", "_law_columns_here", "_law_rows", "_law_some", "_law_more", "_law_k"] "_law_two" (defScope s_two) f cdv A outer s H E).env (cxOf (L2.CX P w) P w K mg base ["_law_script", "_law_town", "_law_most", "_law_table_here", "_law_columns_here", "_law_rows", "_law_some", "_law_more", "_law_k"] "_law_two" (defScope s_two) f cdv A outer s H E).xe := passes_of rfl
  exact (scons (sset 3 nd (xdo D__law_table (hr.mono (by decide)) (by rfl) tk0 (ar 0 (ab 1 (av (xv 2) anil)))))
 (scons (sasg (xv 3) (gtup rfl (gscons (gnm 4 nd) (gscons (gnm 5 nd) gsnil))))
 (scons (sset 6 nd (xop op_addD pure_add (xsl (xv 5) (ops (xdo D__law_draw (hr.mono (by decide)) (by rfl) tk0 (ar 0 (ab 1 (av (xop op_addD pure_add (xcb call_len pure_len (by rfl) T_.b.len b_len (dcons (xv 5) dnil)) xint) anil))))) opn) (xsl (xv 5) opn (ops (xdo D__law_draw (hr.mono (by decide)) (by rfl) tk0 (ar 0 (ab 1 (av xint anil))))))))
 (scons (ssetLc 7 [("_law_k", 8)] rfl nd (irng1 (by rfl) T_.b.range (dcons (xdo D__law_draw (hr.mono (by decide)) (by rfl) tk0 (ar 0 (ab 1 (av xint anil)))) dnil)) (blkOk_by (by kernel_rfl)) (fun _ _ _ _ _ => (gnm 8 nd)) (fun _ _ _ _ _ => pts_nilM) (fun _ _ _ _ _ => (xdo D__law_row (hr.mono (by decide)) (by rfl) takes0 (ar 0 (ab 1 (av (xv 4) anil))))) (by decide) (sw_true rfl rfl rfl (by decide +kernel)))
 (sone (sret (xtup (dcons (xv 3) (dcons (xtup (dcons (xv 4) (dcons (xop op_addD pure_add (xv 6) (xv 7)) dnil))) dnil)))))))))
abbrev s_law : Stmt := top 33
theorem sc_law : FnScope ["_law_script", "_law_town", "_law_one", "_law_other", "_law_told", "_law_gone", "_law_come", "_law_kinds", "_law_row_here", "_law_many", "_law_k", "_law_alone", "_law_stays"] ["_law_script"] (defScope s_law) := ⟨rfl, rfl, rfl, by decide +kernel, rfl, by decide +kernel, by decide +kernel⟩
theorem ok_law {fp : Addr} {fd : FuncData} (T_ : Txt K mg T) (F : Fun K "law" "law" s_law fp fd) (D__law_draw : Does P w K mg base T "_law_draw" ["_law_script", "_law_town", "_law_many"] 3 L_draw) (D__law_due : Does P w K mg base T "_law_due" ["_law_rows", "_law_others"] 1 L_due_k80) (D__law_two : Does P w K mg base T "_law_two" ["_law_script", "_law_town", "_law_most"] 9 L_two) (D_changes : Does P w K mg base T "changes" ["one", "other"] 6 M_changes) : FnOk P w K mg base (L2.CX P w) 10 fp fd ["_law_script"] (spM K T L_law_k80) :=
 fn_ok F sc_law 12 rfl fun cdv A outer s H E hr => by
  have nd := sc_law.nd
  have hu := hr.units
  have tk0 : Takes (cxOf (L2.CX P w) P w K mg base ["_law_script", "_law_town", "_law_one", "_law_other", "_law_told", "_law_gone", "_law_come", "_law_kinds", "_law_row_here", "_law_many", "_law_k", "_law_alone", "_law_stays"] "law" (defScope s_law) fp cdv A outer s H E) (WOf E) := takes_of rfl rfl rfl rfl
  have ps0 : PassesOwn (model P w) (cxOf (L2.CX P w) P w K mg base ["_law_script", "_law_town", "_law_one", "_law_other", "_law_told", "_law_gone", "_law_come", "_law_kinds", "_law_row_here", "_law_many", "_law_k", "_law_alone", "_law_stays"] "law" (defScope s_law) fp cdv A outer s H E).A (cxOf (L2.CX P w) P w K mg base ["_law_script", "_law_town", "_law_one", "_law_other", "_law_told", "_law_gone", "_law_come", "_law_kinds", "_law_row_here", "_law_many", "_law_k", "_law_alone", "_law_stays"] "law" (defScope s_law) fp cdv A outer s H E).env (cxOf (L2.CX P w) P w K mg base ["_law_script", "_law_town", "_law_one", "_law_other", "_law_told", "_law_gone", "_law_come", "_law_kinds", "_law_row_here", "_law_many", "_law_k", "_law_alone", "_law_stays"] "law" (defScope s_law) fp cdv A outer s H E).xe := passes_of rfl
  exact (scons (ssetO 1 nd (ldsp dnil))
 (scons (sasg (xdo D__law_two (hr.mono (by decide)) (by rfl) tk0 (ar 0 (ab 1 (av xint anil)))) (gtup rfl (gscons (gnm 2 nd) (gscons (gnm 3 nd) gsnil))))
 (scons (sif (tcmp (op_eqP hu) pure_eq (xdo D__law_draw (hr.mono (by decide)) (by rfl) tk0 (ar 0 (ab 1 (av xint anil)))) xint (nomark _)) (sone (sset 2 nd (xtup (dcons (xix (xv 2) xint) (dcons (xop op_addD pure_add (xix (xv 2) xint) (xsl (xix (xv 3) xint) opn (ops xint))) dnil))))) snil)
 (scons (sset 4 nd (xdo D_changes (hr.mono (by decide)) (by rfl) tk0 (av (xv 2) (av (xv 3) anil))))
 (scons (sif (tw (wor (tcmp (op_neP hu) pure_ne (xv 4) (xdo D__law_due (hr.mono (by decide)) (by rfl) tk0 (av (xix (xv 2) xint) (av (xix (xv 3) xint) anil))) (nomark _)) (wor1 (tcmp (op_neP hu) pure_ne (xdo D_changes (hr.mono (by decide)) (by rfl) tk0 (av (xv 2) (av (xv 2) anil))) (xtup (dcons (xl (ldsp dnil)) (dcons (xl (ldsp dnil)) dnil))) (nomark _))))) (sone (sret xbl)) snil)
 (scons (sasg (xv 4) (gtup rfl (gscons (gnm 5 nd) (gscons (gnm 6 nd) gsnil))))
 (scons (sset 7 nd (xl (ldsp dnil)))
 (scons (sfor ps0 rfl (iany (xop op_addD pure_add (xix (xv 2) xint) (xix (xv 3) xint))) (gnm 8 nd) (sone (sset 7 nd (xop op_addD pure_add (xv 7) (xop op_mulD pure_mulD (xl (ldsp (dcons (xv 8) dnil))) (xct call_int1 pure_int1 (by rfl) T_.b.int b_int (dcons (xcmp (op_notinA hu) pure_notin (xv 8) (xv 7) (by rfl)) dnil)))))))
 (scons (sfor ps0 rfl (iany (xv 7)) (gnm 8 nd) (scons (sset 9 nd (xcb call_len pure_len (by rfl) T_.b.len b_len (dcons (xl (llc [("_law_k", 10)] rfl nd (irng1 (by rfl) T_.b.range (dcons (xcb call_len pure_len (by rfl) T_.b.len b_len (dcons (xix (xv 2) xint) dnil)) dnil)) (blkOk_by (by kernel_rfl)) (fun _ _ _ _ _ => (gnm 10 nd)) (fun _ _ _ _ _ => (pts_one (tcmp (op_eqP hu) pure_eq (xix (xix (xv 2) xint) (xv 10)) (xv 8) (nomark _)))) (fun _ _ _ _ _ => (xv 10)) (by decide))) dnil)))
 (scons (sset 9 nd (xop op_sub pure_sub (xv 9) (xcb call_len pure_len (by rfl) T_.b.len b_len (dcons (xl (llc [("_law_k", 10)] rfl nd (irng1 (by rfl) T_.b.range (dcons (xcb call_len pure_len (by rfl) T_.b.len b_len (dcons (xix (xv 3) xint) dnil)) dnil)) (blkOk_by (by kernel_rfl)) (fun _ _ _ _ _ => (gnm 10 nd)) (fun _ _ _ _ _ => (pts_one (tcmp (op_eqP hu) pure_eq (xix (xix (xv 3) xint) (xv 10)) (xv 8) (nomark _)))) (fun _ _ _ _ _ => (xv 10)) (by decide))) dnil))))
 (scons (sset 11 nd (xl (ldsp (dcons (xcb call_len pure_len (by rfl) T_.b.len b_len (dcons (xl (llc [("_law_k", 10)] rfl nd (iany (xv 5)) (blkOk_by (by kernel_rfl)) (fun _ _ _ _ _ => (gnm 10 nd)) (fun _ _ _ _ _ => (pts_one (tcmp (op_eqP hu) pure_eq (xix (xix (xv 2) xint) (xv 10)) (xv 8) (nomark _)))) (fun _ _ _ _ _ => (xv 10)) (by decide))) dnil)) (dcons (xcb call_len pure_len (by rfl) T_.b.len b_len (dcons (xl (llc [("_law_k", 10)] rfl nd (iany (xv 6)) (blkOk_by (by kernel_rfl)) (fun _ _ _ _ _ => (gnm 10 nd)) (fun _ _ _ _ _ => (pts_one (tcmp (op_eqP hu) pure_eq (xix (xix (xv 3) xint) (xv 10)) (xv 8) (nomark _)))) (fun _ _ _ _ _ => (xv 10)) (by decide))) dnil)) dnil)))))
 (sone (sif (tcmp (op_neP hu) pure_ne (xv 11) (xl (ldsp (dcons (xcb (call_max2 rfl) pure_max2 (by rfl) T_.b.max b_max (dcons xint (dcons (xv 9) dnil))) (dcons (xcb (call_max2 rfl) pure_max2 (by rfl) T_.b.max b_max (dcons xint (dcons (xop op_sub pure_sub xint (xv 9)) dnil))) dnil)))) (nomark _)) (sone (sret xbl)) snil))))))
 (scons (sset 12 nd (xop op_addD pure_add (xl (llc [("_law_k", 10)] rfl nd (irng1 (by rfl) T_.b.range (dcons (xcb call_len pure_len (by rfl) T_.b.len b_len (dcons (xix (xv 2) xint) dnil)) dnil)) (blkOk_by (by kernel_rfl)) (fun _ _ _ _ _ => (gnm 10 nd)) (fun _ _ _ _ _ => (pts_one (tcmp (op_notinA hu) pure_notin (xv 10) (xv 5) (by rfl)))) (fun _ _ _ _ _ => (xix (xix (xv 2) xint) (xv 10))) (by decide))) (xl (llc [("_law_k", 10)] rfl nd (iany (xv 6)) (blkOk_by (by kernel_rfl)) (fun _ _ _ _ _ => (gnm 10 nd)) (fun _ _ _ _ _ => pts_nilM) (fun _ _ _ _ _ => (xix (xix (xv 3) xint) (xv 10))) (by decide)))))
 (scons (sif (tcmp (op_neP hu) pure_ne (xdo D_changes (hr.mono (by decide)) (by rfl) tk0 (av (xtup (dcons (xix (xv 2) xint) (dcons (xv 12) dnil))) (av (xv 3) anil))) (xtup (dcons (xl (ldsp dnil)) (dcons (xl (ldsp dnil)) dnil))) (nomark _)) (sone (sret xbl)) snil)
 (sone (sret (xcmp (op_eqP hu) pure_eq (xdo D_changes (hr.mono (by decide)) (by rfl) tk0 (av (xtup (dcons (xix (xv 2) xint) (dcons (xl (ldsp dnil)) dnil))) (av (xv 3) anil))) (xtup (dcons (xl (ldsp dnil)) (dcons (xl (llr1 rfl (by rfl) T_.b.list (by rfl) T_.b.range (xcb call_len pure_len (by rfl) T_.b.len b_len (dcons (xix (xv 3) xint) dnil)))) dnil))) (nomark _)))))))))))))))
end
end VL

set_option Elab.async false
set_option linter.all false
set_option maxRecDepth 100000
set_option maxHeartbeats 8000000
namespace VL
open PySem PySem.Spec PyProof.Rows L2
theorem all_mk {l : PySem.W.OpenLaw} {w : World} {K : PySem.W.Frag} {h : Heap} {mg : Str → Option Value} {fa : Addr} (X : K.In h) (G : h.Ns mainGlobals mg) (hfa : mg "law" = some (.ref fa))
 {f_is_whole : Addr} {od_is_whole an_is_whole : Option Addr} {sl_is_whole : Array (Option Value)} {oc_is_whole kV_is_whole dc_is_whole pm_is_whole cd_is_whole ct_is_whole : Value}
 {f_is_word : Addr} {od_is_word an_is_word : Option Addr} {sl_is_word : Array (Option Value)} {oc_is_word kV_is_word dc_is_word pm_is_word cd_is_word ct_is_word : Value}
 {f_is_value : Addr} {od_is_value an_is_value : Option Addr} {sl_is_value : Array (Option Value)} {oc_is_value kV_is_value dc_is_value pm_is_value cd_is_value ct_is_value : Value}
 {f_are_columns : Addr} {od_are_columns an_are_columns : Option Addr} {sl_are_columns : Array (Option Value)} {oc_are_columns kV_are_columns dc_are_columns pm_are_columns cd_are_columns ct_are_columns : Value}
 {f_look_columns : Addr} {od_look_columns an_look_columns : Option Addr} {sl_look_columns : Array (Option Value)} {oc_look_columns kV_look_columns dc_look_columns pm_look_columns cd_look_columns ct_look_columns : Value}
 {f_look_row : Addr} {od_look_row an_look_row : Option Addr} {sl_look_row : Array (Option Value)} {oc_look_row kV_look_row dc_look_row pm_look_row cd_look_row ct_look_row : Value}
 {f_look_table : Addr} {od_look_table an_look_table : Option Addr} {sl_look_table : Array (Option Value)} {oc_look_table kV_look_table dc_look_table pm_look_table cd_look_table ct_look_table : Value}
 {f_look_two : Addr} {od_look_two an_look_two : Option Addr} {sl_look_two : Array (Option Value)} {oc_look_two kV_look_two dc_look_two pm_look_two cd_look_two ct_look_two : Value}
 {f_changes : Addr} {od_changes an_changes : Option Addr} {sl_changes : Array (Option Value)} {oc_changes kV_changes dc_changes pm_changes cd_changes ct_changes : Value}
 {f__law_cell : Addr} {od__law_cell an__law_cell : Option Addr} {sl__law_cell : Array (Option Value)} {oc__law_cell kV__law_cell dc__law_cell pm__law_cell cd__law_cell ct__law_cell : Value}
 {f__law_mix : Addr} {od__law_mix an__law_mix : Option Addr} {sl__law_mix : Array (Option Value)} {oc__law_mix kV__law_mix dc__law_mix pm__law_mix cd__law_mix ct__law_mix : Value}
 {f__law_draw : Addr} {od__law_draw an__law_draw : Option Addr} {sl__law_draw : Array (Option Value)} {oc__law_draw kV__law_draw dc__law_draw pm__law_draw cd__law_draw ct__law_draw : Value}
 {f__law_pick : Addr} {od__law_pick an__law_pick : Option Addr} {sl__law_pick : Array (Option Value)} {oc__law_pick kV__law_pick dc__law_pick pm__law_pick cd__law_pick ct__law_pick : Value}
 {f__law_word : Addr} {od__law_word an__law_word : Option Addr} {sl__law_word : Array (Option Value)} {oc__law_word kV__law_word dc__law_word pm__law_word cd__law_word ct__law_word : Value}
 {f__law_value : Addr} {od__law_value an__law_value : Option Addr} {sl__law_value : Array (Option Value)} {oc__law_value kV__law_value dc__law_value pm__law_value cd__law_value ct__law_value : Value}
 {f__law_columns : Addr} {od__law_columns an__law_columns : Option Addr} {sl__law_columns : Array (Option Value)} {oc__law_columns kV__law_columns dc__law_columns pm__law_columns cd__law_columns ct__law_columns : Value}
 {f__law_row : Addr} {od__law_row an__law_row : Option Addr} {sl__law_row : Array (Option Value)} {oc__law_row kV__law_row dc__law_row pm__law_row cd__law_row ct__law_row : Value}
 {f__law_table : Addr} {od__law_table an__law_table : Option Addr} {sl__law_table : Array (Option Value)} {oc__law_table kV__law_table dc__law_table pm__law_table cd__law_table ct__law_table : Value}
 {f__law_two : Addr} {od__law_two an__law_two : Option Addr} {sl__law_two : Array (Option Value)} {oc__law_two kV__law_two dc__law_two pm__law_two cd__law_two ct__law_two : Value}
 {f__law_due : Addr} {od__law_due an__law_due : Option Addr} {sl__law_due : Array (Option Value)} {oc__law_due kV__law_due dc__law_due pm__law_due cd__law_due ct__law_due : Value}
 {f_law : Addr} {od_law an_law : Option Addr} {sl_law : Array (Option Value)} {oc_law kV_law dc_law pm_law cd_law ct_law : Value}
 {C_SheetError : Addr}
 {C_BadTable : Addr}
 {C_BadRow : Addr}
 {t_SMALL : Tok}
 {t_MOST_COLUMNS : Tok}
 {t_MOST_ROWS : Tok}
 {t_MOST_WORD : Tok}
 {t_MOST_NUMBER : Tok}
 {p_KINDS : Addr} {o_KINDS : Option Addr} {n_KINDS : Nat} {z_KINDS : Array (Option Value)} {t0_KINDS t1_KINDS : Tok}
 (a_is_whole : PySem.W.nsIn K mainGlobals "is_whole" = some (some (.ref f_is_whole)))
 (l_is_whole : K.lookup f_is_whole = some ⟨oc_is_whole, od_is_whole, .func (PySem.W.fnOf "is_whole" "is_whole" (defArgs s_is_whole) (defBody s_is_whole) (defScope s_is_whole) .none kV_is_whole dc_is_whole pm_is_whole an_is_whole cd_is_whole ct_is_whole), sl_is_whole⟩)
 (c_is_whole : PySem.W.codeIn K cd_is_whole "is_whole" = true)
 (k_is_whole : PySem.W.keepIn K (.ref f_is_whole) = true)
 (a_is_word : PySem.W.nsIn K mainGlobals "is_word" = some (some (.ref f_is_word)))
 (l_is_word : K.lookup f_is_word = some ⟨oc_is_word, od_is_word, .func (PySem.W.fnOf "is_word" "is_word" (defArgs s_is_word) (defBody s_is_word) (defScope s_is_word) .none kV_is_word dc_is_word pm_is_word an_is_word cd_is_word ct_is_word), sl_is_word⟩)
 (c_is_word : PySem.W.codeIn K cd_is_word "is_word" = true)
 (k_is_word : PySem.W.keepIn K (.ref f_is_word) = true)
 (a_is_value : PySem.W.nsIn K mainGlobals "is_value" = some (some (.ref f_is_value)))
 (l_is_value : K.lookup f_is_value = some ⟨oc_is_value, od_is_value, .func (PySem.W.fnOf "is_value" "is_value" (defArgs s_is_value) (defBody s_is_value) (defScope s_is_value) .none kV_is_value dc_is_value pm_is_value an_is_value cd_is_value ct_is_value), sl_is_value⟩)
 (c_is_value : PySem.W.codeIn K cd_is_value "is_value" = true)
 (k_is_value : PySem.W.keepIn K (.ref f_is_value) = true)
 (a_are_columns : PySem.W.nsIn K mainGlobals "are_columns" = some (some (.ref f_are_columns)))
 (l_are_columns : K.lookup f_are_columns = some ⟨oc_are_columns, od_are_columns, .func (PySem.W.fnOf "are_columns" "are_columns" (defArgs s_are_columns) (defBody s_are_columns) (defScope s_are_columns) .none kV_are_columns dc_are_columns pm_are_columns an_are_columns cd_are_columns ct_are_columns), sl_are_columns⟩)
 (c_are_columns : PySem.W.codeIn K cd_are_columns "are_columns" = true)
 (k_are_columns : PySem.W.keepIn K (.ref f_are_columns) = true)
 (a_look_columns : PySem.W.nsIn K mainGlobals "look_columns" = some (some (.ref f_look_columns)))
 (l_look_columns : K.lookup f_look_columns = some ⟨oc_look_columns, od_look_columns, .func (PySem.W.fnOf "look_columns" "look_columns" (defArgs s_look_columns) (defBody s_look_columns) (defScope s_look_columns) .none kV_look_columns dc_look_columns pm_look_columns an_look_columns cd_look_columns ct_look_columns), sl_look_columns⟩)
 (c_look_columns : PySem.W.codeIn K cd_look_columns "look_columns" = true)
 (k_look_columns : PySem.W.keepIn K (.ref f_look_columns) = true)
 (a_look_row : PySem.W.nsIn K mainGlobals "look_row" = some (some (.ref f_look_row)))
 (l_look_row : K.lookup f_look_row = some ⟨oc_look_row, od_look_row, .func (PySem.W.fnOf "look_row" "look_row" (defArgs s_look_row) (defBody s_look_row) (defScope s_look_row) .none kV_look_row dc_look_row pm_look_row an_look_row cd_look_row ct_look_row), sl_look_row⟩)
 (c_look_row : PySem.W.codeIn K cd_look_row "look_row" = true)
 (k_look_row : PySem.W.keepIn K (.ref f_look_row) = true)
 (a_look_table : PySem.W.nsIn K mainGlobals "look_table" = some (some (.ref f_look_table)))
 (l_look_table : K.lookup f_look_table = some ⟨oc_look_table, od_look_table, .func (PySem.W.fnOf "look_table" "look_table" (defArgs s_look_table) (defBody s_look_table) (defScope s_look_table) .none kV_look_table dc_look_table pm_look_table an_look_table cd_look_table ct_look_table), sl_look_table⟩)
 (c_look_table : PySem.W.codeIn K cd_look_table "look_table" = true)
 (k_look_table : PySem.W.keepIn K (.ref f_look_table) = true)
 (a_look_two : PySem.W.nsIn K mainGlobals "look_two" = some (some (.ref f_look_two)))
 (l_look_two : K.lookup f_look_two = some ⟨oc_look_two, od_look_two, .func (PySem.W.fnOf "look_two" "look_two" (defArgs s_look_two) (defBody s_look_two) (defScope s_look_two) .none kV_look_two dc_look_two pm_look_two an_look_two cd_look_two ct_look_two), sl_look_two⟩)
 (c_look_two : PySem.W.codeIn K cd_look_two "look_two" = true)
 (k_look_two : PySem.W.keepIn K (.ref f_look_two) = true)
 (a_changes : PySem.W.nsIn K mainGlobals "changes" = some (some (.ref f_changes)))
 (l_changes : K.lookup f_changes = some ⟨oc_changes, od_changes, .func (PySem.W.fnOf "changes" "changes" (defArgs s_changes) (defBody s_changes) (defScope s_changes) .none kV_changes dc_changes pm_changes an_changes cd_changes ct_changes), sl_changes⟩)
 (c_changes : PySem.W.codeIn K cd_changes "changes" = true)
 (k_changes : PySem.W.keepIn K (.ref f_changes) = true)
 (a__law_cell : PySem.W.nsIn K mainGlobals "_law_cell" = some (some (.ref f__law_cell)))
 (l__law_cell : K.lookup f__law_cell = some ⟨oc__law_cell, od__law_cell, .func (PySem.W.fnOf "_law_cell" "_law_cell" (defArgs s_cell) (defBody s_cell) (defScope s_cell) .none kV__law_cell dc__law_cell pm__law_cell an__law_cell cd__law_cell ct__law_cell), sl__law_cell⟩)
 (c__law_cell : PySem.W.codeIn K cd__law_cell "_law_cell" = true)
 (k__law_cell : PySem.W.keepIn K (.ref f__law_cell) = true)
 (a__law_mix : PySem.W.nsIn K mainGlobals "_law_mix" = some (some (.ref f__law_mix)))
 (l__law_mix : K.lookup f__law_mix = some ⟨oc__law_mix, od__law_mix, .func (PySem.W.fnOf "_law_mix" "_law_mix" (defArgs s_mix) (defBody s_mix) (defScope s_mix) .none kV__law_mix dc__law_mix pm__law_mix an__law_mix cd__law_mix ct__law_mix), sl__law_mix⟩)
 (c__law_mix : PySem.W.codeIn K cd__law_mix "_law_mix" = true)
 (k__law_mix : PySem.W.keepIn K (.ref f__law_mix) = true)
 (a__law_draw : PySem.W.nsIn K mainGlobals "_law_draw" = some (some (.ref f__law_draw)))
 (l__law_draw : K.lookup f__law_draw = some ⟨oc__law_draw, od__law_draw, .func (PySem.W.fnOf "_law_draw" "_law_draw" (defArgs s_draw) (defBody s_draw) (defScope s_draw) .none kV__law_draw dc__law_draw pm__law_draw an__law_draw cd__law_draw ct__law_draw), sl__law_draw⟩)
 (c__law_draw : PySem.W.codeIn K cd__law_draw "_law_draw" = true)
 (k__law_draw : PySem.W.keepIn K (.ref f__law_draw) = true)
 (a__law_pick : PySem.W.nsIn K mainGlobals "_law_pick" = some (some (.ref f__law_pick)))
 (l__law_pick : K.lookup f__law_pick = some ⟨oc__law_pick, od__law_pick, .func (PySem.W.fnOf "_law_pick" "_law_pick" (defArgs s_pick) (defBody s_pick) (defScope s_pick) .none kV__law_pick dc__law_pick pm__law_pick an__law_pick cd__law_pick ct__law_pick), sl__law_pick⟩)
 (c__law_pick : PySem.W.codeIn K cd__law_pick "_law_pick" = true)
 (k__law_pick : PySem.W.keepIn K (.ref f__law_pick) = true)
 (a__law_word : PySem.W.nsIn K mainGlobals "_law_word" = some (some (.ref f__law_word)))
 (l__law_word : K.lookup f__law_word = some ⟨oc__law_word, od__law_word, .func (PySem.W.fnOf "_law_word" "_law_word" (defArgs s_word) (defBody s_word) (defScope s_word) .none kV__law_word dc__law_word pm__law_word an__law_word cd__law_word ct__law_word), sl__law_word⟩)
 (c__law_word : PySem.W.codeIn K cd__law_word "_law_word" = true)
 (k__law_word : PySem.W.keepIn K (.ref f__law_word) = true)
 (a__law_value : PySem.W.nsIn K mainGlobals "_law_value" = some (some (.ref f__law_value)))
 (l__law_value : K.lookup f__law_value = some ⟨oc__law_value, od__law_value, .func (PySem.W.fnOf "_law_value" "_law_value" (defArgs s_value) (defBody s_value) (defScope s_value) .none kV__law_value dc__law_value pm__law_value an__law_value cd__law_value ct__law_value), sl__law_value⟩)
 (c__law_value : PySem.W.codeIn K cd__law_value "_law_value" = true)
 (k__law_value : PySem.W.keepIn K (.ref f__law_value) = true)
 (a__law_columns : PySem.W.nsIn K mainGlobals "_law_columns" = some (some (.ref f__law_columns)))
 (l__law_columns : K.lookup f__law_columns = some ⟨oc__law_columns, od__law_columns, .func (PySem.W.fnOf "_law_columns" "_law_columns" (defArgs s_columns) (defBody s_columns) (defScope s_columns) .none kV__law_columns dc__law_columns pm__law_columns an__law_columns cd__law_columns ct__law_columns), sl__law_columns⟩)
 (c__law_columns : PySem.W.codeIn K cd__law_columns "_law_columns" = true)
 (k__law_columns : PySem.W.keepIn K (.ref f__law_columns) = true)
 (a__law_row : PySem.W.nsIn K mainGlobals "_law_row" = some (some (.ref f__law_row)))
 (l__law_row : K.lookup f__law_row = some ⟨oc__law_row, od__law_row, .func (PySem.W.fnOf "_law_row" "_law_row" (defArgs s_row) (defBody s_row) (defScope s_row) .none kV__law_row dc__law_row pm__law_row an__law_row cd__law_row ct__law_row), sl__law_row⟩)
 (c__law_row : PySem.W.codeIn K cd__law_row "_law_row" = true)
 (k__law_row : PySem.W.keepIn K (.ref f__law_row) = true)
 (a__law_table : PySem.W.nsIn K mainGlobals "_law_table" = some (some (.ref f__law_table)))
 (l__law_table : K.lookup f__law_table = some ⟨oc__law_table, od__law_table, .func (PySem.W.fnOf "_law_table" "_law_table" (defArgs s_table) (defBody s_table) (defScope s_table) .none kV__law_table dc__law_table pm__law_table an__law_table cd__law_table ct__law_table), sl__law_table⟩)
 (c__law_table : PySem.W.codeIn K cd__law_table "_law_table" = true)
 (k__law_table : PySem.W.keepIn K (.ref f__law_table) = true)
 (a__law_two : PySem.W.nsIn K mainGlobals "_law_two" = some (some (.ref f__law_two)))
 (l__law_two : K.lookup f__law_two = some ⟨oc__law_two, od__law_two, .func (PySem.W.fnOf "_law_two" "_law_two" (defArgs s_two) (defBody s_two) (defScope s_two) .none kV__law_two dc__law_two pm__law_two an__law_two cd__law_two ct__law_two), sl__law_two⟩)
 (c__law_two : PySem.W.codeIn K cd__law_two "_law_two" = true)
 (k__law_two : PySem.W.keepIn K (.ref f__law_two) = true)
 (a__law_due : PySem.W.nsIn K mainGlobals "_law_due" = some (some (.ref f__law_due)))
 (l__law_due : K.lookup f__law_due = some ⟨oc__law_due, od__law_due, .func (PySem.W.fnOf "_law_due" "_law_due" (defArgs s_due) (defBody s_due) (defScope s_due) .none kV__law_due dc__law_due pm__law_due an__law_due cd__law_due ct__law_due), sl__law_due⟩)
 (c__law_due : PySem.W.codeIn K cd__law_due "_law_due" = true)
 (k__law_due : PySem.W.keepIn K (.ref f__law_due) = true)
 (a_law : PySem.W.nsIn K mainGlobals "law" = some (some (.ref f_law)))
 (l_law : K.lookup f_law = some ⟨oc_law, od_law, .func (PySem.W.fnOf "law" "law" (defArgs s_law) (defBody s_law) (defScope s_law) .none kV_law dc_law pm_law an_law cd_law ct_law), sl_law⟩)
 (c_law : PySem.W.codeIn K cd_law "law" = true)
 (k_law : PySem.W.keepIn K (.ref f_law) = true)
 (aC_SheetError : PySem.W.nsIn K mainGlobals "SheetError" = some (some (.ref C_SheetError)))
 (xC_SheetError : PySem.W.excIn K C_SheetError [.type "ValueError", .type "Exception", .type "BaseException", .type "object"] "ValueError.__new__" = true)
 (kC_SheetError : PySem.W.keepIn K (.ref C_SheetError) = true)
 (bC_SheetError : PySem.W.subIn K (.ref C_SheetError) (.type "BaseException") = some true)
 (tC_SheetError : PySem.W.typeIn K (.ref C_SheetError) = some (.type "type"))
 (aC_BadTable : PySem.W.nsIn K mainGlobals "BadTable" = some (some (.ref C_BadTable)))
 (xC_BadTable : PySem.W.excIn K C_BadTable [.type "ValueError", .type "Exception", .type "BaseException", .type "object"] "ValueError.__new__" = true)
 (kC_BadTable : PySem.W.keepIn K (.ref C_BadTable) = true)
 (bC_BadTable : PySem.W.subIn K (.ref C_BadTable) (.type "BaseException") = some true)
 (tC_BadTable : PySem.W.typeIn K (.ref C_BadTable) = some (.type "type"))
 (aC_BadRow : PySem.W.nsIn K mainGlobals "BadRow" = some (some (.ref C_BadRow)))
 (xC_BadRow : PySem.W.excIn K C_BadRow [.type "ValueError", .type "Exception", .type "BaseException", .type "object"] "ValueError.__new__" = true)
 (kC_BadRow : PySem.W.keepIn K (.ref C_BadRow) = true)
 (bC_BadRow : PySem.W.subIn K (.ref C_BadRow) (.type "BaseException") = some true)
 (tC_BadRow : PySem.W.typeIn K (.ref C_BadRow) = some (.type "type"))
 (v_SMALL : PySem.W.nsIn K mainGlobals "SMALL" = some (some (.str "abcdefghijklmnopqrstuvwxyz" t_SMALL)))
 (v_MOST_COLUMNS : PySem.W.nsIn K mainGlobals "MOST_COLUMNS" = some (some (.int 6 t_MOST_COLUMNS)))
 (v_MOST_ROWS : PySem.W.nsIn K mainGlobals "MOST_ROWS" = some (some (.int 24 t_MOST_ROWS)))
 (v_MOST_WORD : PySem.W.nsIn K mainGlobals "MOST_WORD" = some (some (.int 8 t_MOST_WORD)))
 (v_MOST_NUMBER : PySem.W.nsIn K mainGlobals "MOST_NUMBER" = some (some (.int 1000000 t_MOST_NUMBER)))
 (v_KINDS : PySem.W.nsIn K mainGlobals "KINDS" = some (some (.ref p_KINDS)))
 (w_KINDS : K.lookup p_KINDS = some ⟨.type "tuple", o_KINDS, .seq #[.str "word" t0_KINDS, .str "number" t1_KINDS] n_KINDS, z_KINDS⟩)
 (z_len : PySem.W.nsIn K mainGlobals "len" = some none)
 (z_all : PySem.W.nsIn K mainGlobals "all" = some none)
 (z_any : PySem.W.nsIn K mainGlobals "any" = some none)
 (z_abs : PySem.W.nsIn K mainGlobals "abs" = some none)
 (z_max : PySem.W.nsIn K mainGlobals "max" = some none)
 (z_min : PySem.W.nsIn K mainGlobals "min" = some none)
 (z_sum : PySem.W.nsIn K mainGlobals "sum" = some none)
 (z_sorted : PySem.W.nsIn K mainGlobals "sorted" = some none)
 (z_int : PySem.W.nsIn K mainGlobals "int" = some none)
 (z_bool : PySem.W.nsIn K mainGlobals "bool" = some none)
 (z_str : PySem.W.nsIn K mainGlobals "str" = some none)
 (z_list : PySem.W.nsIn K mainGlobals "list" = some none)
 (z_tuple : PySem.W.nsIn K mainGlobals "tuple" = some none)
 (z_range : PySem.W.nsIn K mainGlobals "range" = some none)
 (z_set : PySem.W.nsIn K mainGlobals "set" = some none)
 (z_isinstance : PySem.W.nsIn K mainGlobals "isinstance" = some none)
 (z_zip : PySem.W.nsIn K mainGlobals "zip" = some none)
 (z_dict : PySem.W.nsIn K mainGlobals "dict" = some none) :
 ∃ fd : FuncData, (∀ (s : Shared) (v : Value), BindsTo s fd ⟨[v], []⟩ [("_law_script", v)]) ∧ ∀ base : Heap, K.In base → base.Ns mainGlobals mg → FnOk l.prog w K mg base (L2.CX l.prog w) 10 fa fd ["_law_script"] (spRow K) := by
  have e := hfa.symm.trans (PySem.W.mg_of X G a_law)
  cases e
  let T : VT := ⟨fun _ => 0, fun c => match c with | 8 => C_SheetError | 0 => C_BadTable | 1 => C_BadRow | _ => 0⟩
  have T_ : Txt K mg T := ⟨⟨PySem.W.mg_none_of X G z_len, PySem.W.mg_none_of X G z_all, PySem.W.mg_none_of X G z_any, PySem.W.mg_none_of X G z_abs, PySem.W.mg_none_of X G z_max, PySem.W.mg_none_of X G z_min, PySem.W.mg_none_of X G z_sum, PySem.W.mg_none_of X G z_sorted, PySem.W.mg_none_of X G z_int, PySem.W.mg_none_of X G z_bool, PySem.W.mg_none_of X G z_str, PySem.W.mg_none_of X G z_list, PySem.W.mg_none_of X G z_tuple, PySem.W.mg_none_of X G z_range, PySem.W.mg_none_of X G z_set, PySem.W.mg_none_of X G z_isinstance, PySem.W.mg_none_of X G z_zip, PySem.W.mg_none_of X G z_dict⟩, cstr_mk X G v_SMALL, cint_mk X G v_MOST_COLUMNS, cint_mk X G v_MOST_ROWS, cint_mk X G v_MOST_WORD, cint_mk X G v_MOST_NUMBER, ctup2_mk X G v_KINDS w_KINDS, exc_mk X G rfl aC_SheetError xC_SheetError kC_SheetError bC_SheetError tC_SheetError, exc_mk X G rfl aC_BadTable xC_BadTable kC_BadTable bC_BadTable tC_BadTable, exc_mk X G rfl aC_BadRow xC_BadRow kC_BadRow bC_BadRow tC_BadRow⟩
  have A_is_whole : At K mg "is_whole" s_is_whole ["thing", "low", "most"] := at_mk X G (fun _ _ _ _ _ _ us hl => match us, hl with | [_, _, _], _ => rfl) a_is_whole l_is_whole c_is_whole k_is_whole
  have A_is_word : At K mg "is_word" s_is_word ["thing"] := at_mk X G (fun _ _ _ _ _ _ us hl => match us, hl with | [_], _ => rfl) a_is_word l_is_word c_is_word k_is_word
  have A_is_value : At K mg "is_value" s_is_value ["kind", "thing"] := at_mk X G (fun _ _ _ _ _ _ us hl => match us, hl with | [_, _], _ => rfl) a_is_value l_is_value c_is_value k_is_value
  have A_are_columns : At K mg "are_columns" s_are_columns ["thing"] := at_mk X G (fun _ _ _ _ _ _ us hl => match us, hl with | [_], _ => rfl) a_are_columns l_are_columns c_are_columns k_are_columns
  have A_look_columns : At K mg "look_columns" s_look_columns ["columns"] := at_mk X G (fun _ _ _ _ _ _ us hl => match us, hl with | [_], _ => rfl) a_look_columns l_look_columns c_look_columns k_look_columns
  have A_look_row : At K mg "look_row" s_look_row ["columns", "row"] := at_mk X G (fun _ _ _ _ _ _ us hl => match us, hl with | [_, _], _ => rfl) a_look_row l_look_row c_look_row k_look_row
  have A_look_table : At K mg "look_table" s_look_table ["table"] := at_mk X G (fun _ _ _ _ _ _ us hl => match us, hl with | [_], _ => rfl) a_look_table l_look_table c_look_table k_look_table
  have A_look_two : At K mg "look_two" s_look_two ["one", "other"] := at_mk X G (fun _ _ _ _ _ _ us hl => match us, hl with | [_, _], _ => rfl) a_look_two l_look_two c_look_two k_look_two
  have A_changes : At K mg "changes" s_changes ["one", "other"] := at_mk X G (fun _ _ _ _ _ _ us hl => match us, hl with | [_, _], _ => rfl) a_changes l_changes c_changes k_changes
  have A__law_cell : At K mg "_law_cell" s_cell ["_law_script", "_law_k"] := at_mk X G (fun _ _ _ _ _ _ us hl => match us, hl with | [_, _], _ => rfl) a__law_cell l__law_cell c__law_cell k__law_cell
  have A__law_mix : At K mg "_law_mix" s_mix ["_law_script", "_law_k"] := at_mk X G (fun _ _ _ _ _ _ us hl => match us, hl with | [_, _], _ => rfl) a__law_mix l__law_mix c__law_mix k__law_mix
  have A__law_draw : At K mg "_law_draw" s_draw ["_law_script", "_law_town", "_law_many"] := at_mk X G (fun _ _ _ _ _ _ us hl => match us, hl with | [_, _, _], _ => rfl) a__law_draw l__law_draw c__law_draw k__law_draw
  have A__law_pick : At K mg "_law_pick" s_pick ["_law_script", "_law_town", "_law_some"] := at_mk X G (fun _ _ _ _ _ _ us hl => match us, hl with | [_, _, _], _ => rfl) a__law_pick l__law_pick c__law_pick k__law_pick
  have A__law_word : At K mg "_law_word" s_word ["_law_script", "_law_town"] := at_mk X G (fun _ _ _ _ _ _ us hl => match us, hl with | [_, _], _ => rfl) a__law_word l__law_word c__law_word k__law_word
  have A__law_value : At K mg "_law_value" s_value ["_law_script", "_law_town", "_law_kind"] := at_mk X G (fun _ _ _ _ _ _ us hl => match us, hl with | [_, _, _], _ => rfl) a__law_value l__law_value c__law_value k__law_value
  have A__law_columns : At K mg "_law_columns" s_columns ["_law_script", "_law_town"] := at_mk X G (fun _ _ _ _ _ _ us hl => match us, hl with | [_, _], _ => rfl) a__law_columns l__law_columns c__law_columns k__law_columns
  have A__law_row : At K mg "_law_row" s_row ["_law_script", "_law_town", "_law_columns_here"] := at_mk X G (fun _ _ _ _ _ _ us hl => match us, hl with | [_, _, _], _ => rfl) a__law_row l__law_row c__law_row k__law_row
  have A__law_table : At K mg "_law_table" s_table ["_law_script", "_law_town", "_law_most"] := at_mk X G (fun _ _ _ _ _ _ us hl => match us, hl with | [_, _, _], _ => rfl) a__law_table l__law_table c__law_table k__law_table
  have A__law_two : At K mg "_law_two" s_two ["_law_script", "_law_town", "_law_most"] := at_mk X G (fun _ _ _ _ _ _ us hl => match us, hl with | [_, _, _], _ => rfl) a__law_two l__law_two c__law_two k__law_two
  have A__law_due : At K mg "_law_due" s_due ["_law_rows", "_law_others"] := at_mk X G (fun _ _ _ _ _ _ us hl => match us, hl with | [_, _], _ => rfl) a__law_due l__law_due c__law_due k__law_due
  refine ⟨PySem.W.fnOf "law" "law" (defArgs s_law) (defBody s_law) (defScope s_law) .none kV_law dc_law pm_law an_law cd_law ct_law, fun s v => .of_eq rfl, fun base _ _ => ?_⟩
  have D_is_whole := ok_is_whole (P := l.prog) (w := w) (base := base) T_ A_is_whole 
  have D_is_word := ok_is_word (P := l.prog) (w := w) (base := base) T_ A_is_word 
  have D__law_cell := ok__law_cell (P := l.prog) (w := w) (base := base) T_ A__law_cell 
  have D__law_due := ok__law_due (P := l.prog) (w := w) (base := base) T_ A__law_due 
  have D_is_value := ok_is_value (P := l.prog) (w := w) (base := base) T_ A_is_value D_is_whole D_is_word
  have D_are_columns := ok_are_columns (P := l.prog) (w := w) (base := base) T_ A_are_columns D_is_word
  have D__law_mix := ok__law_mix (P := l.prog) (w := w) (base := base) T_ A__law_mix D__law_cell
  have D_look_columns := ok_look_columns (P := l.prog) (w := w) (base := base) T_ A_look_columns D_are_columns
  have D_look_row := ok_look_row (P := l.prog) (w := w) (base := base) T_ A_look_row D_is_value
  have D__law_draw := ok__law_draw (P := l.prog) (w := w) (base := base) T_ A__law_draw D__law_mix
  have D_look_table := ok_look_table (P := l.prog) (w := w) (base := base) T_ A_look_table D_look_columns D_look_row
  have D__law_pick := ok__law_pick (P := l.prog) (w := w) (base := base) T_ A__law_pick D__law_draw
  have D_look_two := ok_look_two (P := l.prog) (w := w) (base := base) T_ A_look_two D_look_table
  have D__law_word := ok__law_word (P := l.prog) (w := w) (base := base) T_ A__law_word D__law_draw D__law_pick
  have D__law_columns := ok__law_columns (P := l.prog) (w := w) (base := base) T_ A__law_columns D__law_draw D__law_pick
  have D_changes := ok_changes (P := l.prog) (w := w) (base := base) T_ A_changes D_look_two
  have D__law_value := ok__law_value (P := l.prog) (w := w) (base := base) T_ A__law_value D__law_draw D__law_pick D__law_word
  have D__law_row := ok__law_row (P := l.prog) (w := w) (base := base) T_ A__law_row D__law_value
  have D__law_table := ok__law_table (P := l.prog) (w := w) (base := base) T_ A__law_table D__law_columns D__law_draw D__law_row
  have D__law_two := ok__law_two (P := l.prog) (w := w) (base := base) T_ A__law_two D__law_draw D__law_row D__law_table
  exact (ok_law (P := l.prog) (w := w) (base := base) T_ (fun_mk (st := s_law) l_law c_law k_law) D__law_draw D__law_due D__law_two D_changes).imp fun vs H Q E z => row_of law_true_k80 vs H Q E z
end VL
open PySem PySem.W PyProof.Rows in
set_option maxRecDepth 100000 in
set_option maxHeartbeats 0 in
theorem PySem.Challenge.cw_sumsheets_k80_whole_changes_holds : PySem.Challenge.rw_sumsheets_k80_whole_changes.Holds := by
  w_on; o_law; k_head; (case hw => w_witness2)
  k_fill
  refine VL.row_walk (l := PySem.Challenge.rw_sumsheets_k80_whole_changes) (k := 10) rfl rfl ⟨rfl, by decide, by decide⟩ (fun w h Y => PySem.W.kIn_of Y) ?F
  case F =>
    intro w mg fa h KX G hmg
    refine' VL.all_mk KX G hmg ?a_is_whole ?l_is_whole ?c_is_whole ?k_is_whole ?a_is_word ?l_is_word ?c_is_word ?k_is_word ?a_is_value ?l_is_value ?c_is_value ?k_is_value ?a_are_columns ?l_are_columns ?c_are_columns ?k_are_columns ?a_look_columns ?l_look_columns ?c_look_columns ?k_look_columns ?a_look_row ?l_look_row ?c_look_row ?k_look_row ?a_look_table ?l_look_table ?c_look_table ?k_look_table ?a_look_two ?l_look_two ?c_look_two ?k_look_two ?a_changes ?l_changes ?c_changes ?k_changes ?a__law_cell ?l__law_cell ?c__law_cell ?k__law_cell ?a__law_mix ?l__law_mix ?c__law_mix ?k__law_mix ?a__law_draw ?l__law_draw ?c__law_draw ?k__law_draw ?a__law_pick ?l__law_pick ?c__law_pick ?k__law_pick ?a__law_word ?l__law_word ?c__law_word ?k__law_word ?a__law_value ?l__law_value ?c__law_value ?k__law_value ?a__law_columns ?l__law_columns ?c__law_columns ?k__law_columns ?a__law_row ?l__law_row ?c__law_row ?k__law_row ?a__law_table ?l__law_table ?c__law_table ?k__law_table ?a__law_two ?l__law_two ?c__law_two ?k__law_two ?a__law_due ?l__law_due ?c__law_due ?k__law_due ?a_law ?l_law ?c_law ?k_law ?aC_SheetError ?xC_SheetError ?kC_SheetError ?bC_SheetError ?tC_SheetError ?aC_BadTable ?xC_BadTable ?kC_BadTable ?bC_BadTable ?tC_BadTable ?aC_BadRow ?xC_BadRow ?kC_BadRow ?bC_BadRow ?tC_BadRow ?v_SMALL ?v_MOST_COLUMNS ?v_MOST_ROWS ?v_MOST_WORD ?v_MOST_NUMBER ?v_KINDS ?w_KINDS ?z_len ?z_all ?z_any ?z_abs ?z_max ?z_min ?z_sum ?z_sorted ?z_int ?z_bool ?z_str ?z_list ?z_tuple ?z_range ?z_set ?z_isinstance ?z_zip ?z_dict
    (case a_is_whole => k_is)
    (case l_is_whole => k_is)
    (case c_is_whole => k_is)
    (case k_is_whole => k_is)
    (case a_is_word => k_is)
    (case l_is_word => k_is)
    (case c_is_word => k_is)
    (case k_is_word => k_is)
    (case a_is_value => k_is)
    (case l_is_value => k_is)
    (case c_is_value => k_is)
    (case k_is_value => k_is)
    (case a_are_columns => k_is)
    (case l_are_columns => k_is)
    (case c_are_columns => k_is)
    (case k_are_columns => k_is)
    (case a_look_columns => k_is)
    (case l_look_columns => k_is)
    (case c_look_columns => k_is)
    (case k_look_columns => k_is)
    (case a_look_row => k_is)
    (case l_look_row => k_is)
    (case c_look_row => k_is)
    (case k_look_row => k_is)
    (case a_look_table => k_is)
    (case l_look_table => k_is)
    (case c_look_table => k_is)
    (case k_look_table => k_is)
    (case a_look_two => k_is)
    (case l_look_two => k_is)
    (case c_look_two => k_is)
    (case k_look_two => k_is)
    (case a_changes => k_is)
    (case l_changes => k_is)
    (case c_changes => k_is)
    (case k_changes => k_is)
    (case a__law_cell => k_is)
    (case l__law_cell => k_is)
    (case c__law_cell => k_is)
    (case k__law_cell => k_is)
    (case a__law_mix => k_is)
    (case l__law_mix => k_is)
    (case c__law_mix => k_is)
    (case k__law_mix => k_is)
    (case a__law_draw => k_is)
    (case l__law_draw => k_is)
    (case c__law_draw => k_is)
    (case k__law_draw => k_is)
    (case a__law_pick => k_is)
    (case l__law_pick => k_is)
    (case c__law_pick => k_is)
    (case k__law_pick => k_is)
    (case a__law_word => k_is)
    (case l__law_word => k_is)
    (case c__law_word => k_is)
    (case k__law_word => k_is)
    (case a__law_value => k_is)
    (case l__law_value => k_is)
    (case c__law_value => k_is)
    (case k__law_value => k_is)
    (case a__law_columns => k_is)
    (case l__law_columns => k_is)
    (case c__law_columns => k_is)
    (case k__law_columns => k_is)
    (case a__law_row => k_is)
    (case l__law_row => k_is)
    (case c__law_row => k_is)
    (case k__law_row => k_is)
    (case a__law_table => k_is)
    (case l__law_table => k_is)
    (case c__law_table => k_is)
    (case k__law_table => k_is)
    (case a__law_two => k_is)
    (case l__law_two => k_is)
    (case c__law_two => k_is)
    (case k__law_two => k_is)
    (case a__law_due => k_is)
    (case l__law_due => k_is)
    (case c__law_due => k_is)
    (case k__law_due => k_is)
    (case a_law => k_is)
    (case l_law => k_is)
    (case c_law => k_is)
    (case k_law => k_is)
    (case aC_SheetError => k_is)
    (case xC_SheetError => k_exc)
    (case kC_SheetError => k_is)
    (case bC_SheetError => k_is)
    (case tC_SheetError => k_is)
    (case aC_BadTable => k_is)
    (case xC_BadTable => k_exc)
    (case kC_BadTable => k_is)
    (case bC_BadTable => k_is)
    (case tC_BadTable => k_is)
    (case aC_BadRow => k_is)
    (case xC_BadRow => k_exc)
    (case kC_BadRow => k_is)
    (case bC_BadRow => k_is)
    (case tC_BadRow => k_is)
    (case v_SMALL => k_is)
    (case v_MOST_COLUMNS => k_is)
    (case v_MOST_ROWS => k_is)
    (case v_MOST_WORD => k_is)
    (case v_MOST_NUMBER => k_is)
    (case v_KINDS => k_is)
    (case w_KINDS => k_is)
    (case z_len => k_is)
    (case z_all => k_is)
    (case z_any => k_is)
    (case z_abs => k_is)
    (case z_max => k_is)
    (case z_min => k_is)
    (case z_sum => k_is)
    (case z_sorted => k_is)
    (case z_int => k_is)
    (case z_bool => k_is)
    (case z_str => k_is)
    (case z_list => k_is)
    (case z_tuple => k_is)
    (case z_range => k_is)
    (case z_set => k_is)
    (case z_isinstance => k_is)
    (case z_zip => k_is)
    (case z_dict => k_is)
