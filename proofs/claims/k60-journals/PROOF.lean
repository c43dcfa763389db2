import PyProof.Rows.All
import Wide.All
import OpenK.AllK
import Wide.FinOn
import HandS.ForMost
import HandS.ForExc
import HandS.Evl
import HandS.IsInst
import HandS.Wide
import HandS.TupAny
import HandS.TupMul
import HandS.Style
import HandS.Zip
import HandS.Exc
import HandS.SortInts
import HandS.Strs
import HandS.ExcField
import HandS.ExcIs
import HandS.SetFor
import HandS.RaiseMore
import KE.KExcSuper
import HandS.ExcInit
import HandS.ExcSuper
import HandS.WordsExc
import HandS.Ends
import KE.GoesMore
import HandS.TryOnly
import PySem.Challenge.RW_neverregret_k60_whole_journals_cut_anywh
set_option Elab.async false
set_option linter.all false
set_option maxRecDepth 100000
set_option maxHeartbeats 4000000
namespace T2
open PySem L2

/-- values as trees: tuples, lists that no longer change, instances that no longer change -/
inductive D where
  | non | bl (b : Bool) | int (i : Int) | str (x : Str) | ref (a : Addr) | ty (n : String)
  | tup (ds : List D) | lst (ds : List D) | obj (C : Addr) (fs : List (Str × D)) | raw (f : Addr → HO) | xtup (ds : List D) | exc (a dd : Addr) (fs : List (Str × D))

mutual
inductive Rep (K : PySem.W.Frag) (F : Hp) : D → V → Prop
  | non : Rep K F .non .non
  | bl (b : Bool) : Rep K F (.bl b) (.bl b)
  | int (i : Int) : Rep K F (.int i) (.int i)
  | str (x : Str) : Rep K F (.str x) (.str x)
  | ref (a : Addr) : Rep K F (.ref a) (.ref a)
  | ty (n : String) : Rep K F (.ty n) (.ty n)
  | tup {a : Addr} {vs : List V} {ds : List D} : SqT K F a vs → RepL K F ds vs → Rep K F (.tup ds) (.ref a)
  | lst {a : Addr} {vs : List V} {ds : List D} : SqL K F a vs → RepL K F ds vs → Rep K F (.lst ds) (.ref a)
  | obj {a dx C : Addr} {vs : List (Str × V)} {fs : List (Str × D)} : F a = some (.ins C dx vs) → RepF K F fs vs → Rep K F (.obj C fs) (.ref a)
  | raw {a : Addr} {f : Addr → HO} : F a = some (f a) → Rep K F (.raw f) (.ref a)
  | xtup {a : Addr} {vs : List V} {ds : List D} {o : Obj} : F a = some (.frz o (.tup vs)) → o.dict = none → RepL K F ds vs → Rep K F (.xtup ds) (.ref a)
  | exc {a dd : Addr} {vs : List (Str × V)} {fs : List (Str × D)} : F dd = some (.xd vs) → RepF K F fs vs → Rep K F (.exc a dd fs) (.ref a)
inductive RepL (K : PySem.W.Frag) (F : Hp) : List D → List V → Prop
  | nil : RepL K F [] []
  | cons {d : D} {v : V} {ds : List D} {vs : List V} : Rep K F d v → RepL K F ds vs → RepL K F (d :: ds) (v :: vs)
inductive RepF (K : PySem.W.Frag) (F : Hp) : List (Str × D) → List (Str × V) → Prop
  | nil : RepF K F [] []
  | cons {x : Str} {d : D} {v : V} {ds : List (Str × D)} {vs : List (Str × V)} : Rep K F d v → RepF K F ds vs → RepF K F ((x, d) :: ds) ((x, v) :: vs)
end

section
variable {K : PySem.W.Frag} {F F' : Hp}
theorem rd_mono {a : Addr} {u : HO} (e : Same F F') (h : Rd F a u) : Rd F' a u := by
  rcases h with h | ⟨o, h⟩
  · exact .inl (e _ _ h)
  · exact .inr ⟨o, e _ _ h⟩
theorem sqL_mono {a : Addr} {xs : List V} (e : Same F F') (h : SqL K F a xs) : SqL K F' a xs := h.elim (fun h => .inl (rd_mono e h)) .inr
theorem sqT_mono {a : Addr} {xs : List V} (e : Same F F') (h : SqT K F a xs) : SqT K F' a xs := h.elim (fun h => .inl (rd_mono e h)) .inr
mutual
theorem Rep.mono (e : Same F F') : ∀ (d : D) (v : V), Rep K F d v → Rep K F' d v
  | .non, _, h => by cases h; exact .non
  | .bl _, _, h => by cases h; exact .bl _
  | .int _, _, h => by cases h; exact .int _
  | .str _, _, h => by cases h; exact .str _
  | .ref _, _, h => by cases h; exact .ref _
  | .ty _, _, h => by cases h; exact .ty _
  | .tup ds, _, h => by
    cases h with
    | tup s r => exact .tup (sqT_mono e s) (RepL.mono e ds _ r)
  | .lst ds, _, h => by
    cases h with
    | lst s r => exact .lst (sqL_mono e s) (RepL.mono e ds _ r)
  | .obj C fs, _, h => by
    cases h with
    | obj s r => exact .obj (e _ _ s) (RepF.mono e fs _ r)
  | .raw f, _, h => by
    cases h with
    | raw s => exact .raw (e _ _ s)
  | .xtup ds, _, h => by
    cases h with
    | xtup s d r => exact .xtup (e _ _ s) d (RepL.mono e ds _ r)
  | .exc a dd fs, _, h => by
    cases h with
    | exc s r => exact .exc (e _ _ s) (RepF.mono e fs _ r)
theorem RepL.mono (e : Same F F') : ∀ (ds : List D) (vs : List V), RepL K F ds vs → RepL K F' ds vs
  | [], _, h => by cases h; exact .nil
  | d :: ds, _, h => by
    cases h with
    | cons h1 h2 => exact .cons (Rep.mono e d _ h1) (RepL.mono e ds _ h2)
theorem RepF.mono (e : Same F F') : ∀ (ds : List (Str × D)) (vs : List (Str × V)), RepF K F ds vs → RepF K F' ds vs
  | [], _, h => by cases h; exact .nil
  | (x, d) :: ds, _, h => by
    cases h with
    | cons h1 h2 => exact .cons (Rep.mono e d _ h1) (RepF.mono e ds _ h2)
end
theorem Rep.ofX {ds : List D} {v : V} (h : Rep K F (.xtup ds) v) : Rep K F (.tup ds) v := by
  cases h with
  | xtup s d r => exact .tup (.inl (.inr ⟨_, s⟩)) r
theorem RepL.length : ∀ {ds : List D} {vs : List V}, RepL K F ds vs → ds.length = vs.length
  | [], _, h => by cases h; rfl
  | d :: ds, _, h => by
    cases h with
    | cons h1 h2 => simp [RepL.length h2]
theorem RepL.get : ∀ {ds : List D} {vs : List V} {i : Nat} {d : D}, RepL K F ds vs → ds[i]? = some d → ∃ v, vs[i]? = some v ∧ Rep K F d v
  | [], _, i, d, h, e => by simp at e
  | d :: ds, _, 0, d', h, e => by
    cases h with
    | cons h1 h2 =>
      obtain rfl : d = d' := by simpa using e
      exact ⟨_, rfl, h1⟩
  | d :: ds, _, i + 1, d', h, e => by
    cases h with
    | cons h1 h2 =>
      obtain ⟨v, a, b⟩ := RepL.get (i := i) h2 (by simpa using e)
      exact ⟨v, by simpa using a, b⟩
theorem RepL.getV : ∀ {ds : List D} {vs : List V} {i : Nat} {v : V}, RepL K F ds vs → vs[i]? = some v → ∃ d, ds[i]? = some d ∧ Rep K F d v
  | _, [], i, d, h, e => by simp at e
  | _, v :: vs, 0, v', h, e => by
    cases h with
    | cons h1 h2 =>
      obtain rfl : v = v' := by simpa using e
      exact ⟨_, rfl, h1⟩
  | _, v :: vs, i + 1, v', h, e => by
    cases h with
    | cons h1 h2 =>
      obtain ⟨d, a, b⟩ := RepL.getV (i := i) h2 (by simpa using e)
      exact ⟨d, by simpa using a, b⟩
theorem RepL.append : ∀ {ds es : List D} {vs ws : List V}, RepL K F ds vs → RepL K F es ws → RepL K F (ds ++ es) (vs ++ ws)
  | [], _, _, _, h, h' => by cases h; exact h'
  | d :: ds, _, _, _, h, h' => by
    cases h with
    | cons h1 h2 => exact .cons h1 (RepL.append h2 h')
theorem RepL.set : ∀ {ds : List D} {vs : List V} {i : Nat} {d : D} {v : V}, RepL K F ds vs → Rep K F d v → RepL K F (ds.set i d) (vs.set i v)
  | [], _, i, d, v, h, e => by cases h; exact .nil
  | d :: ds, _, 0, d', v, h, e => by
    cases h with
    | cons h1 h2 => exact .cons e h2
  | d :: ds, _, i + 1, d', v, h, e => by
    cases h with
    | cons h1 h2 => exact .cons h1 (RepL.set h2 e)
theorem RepL.take : ∀ {ds : List D} {vs : List V} (n : Nat), RepL K F ds vs → RepL K F (ds.take n) (vs.take n)
  | _, _, 0, _ => by simp; exact .nil
  | [], _, n + 1, h => by cases h; exact .nil
  | d :: ds, _, n + 1, h => by
    cases h with
    | cons h1 h2 => exact .cons h1 (RepL.take n h2)
theorem RepL.drop : ∀ {ds : List D} {vs : List V} (n : Nat), RepL K F ds vs → RepL K F (ds.drop n) (vs.drop n)
  | _, _, 0, h => by simpa using h
  | [], _, n + 1, h => by cases h; exact .nil
  | d :: ds, _, n + 1, h => by
    cases h with
    | cons h1 h2 => exact RepL.drop n h2
theorem RepL.reverse : ∀ {ds : List D} {vs : List V}, RepL K F ds vs → RepL K F ds.reverse vs.reverse
  | [], _, h => by cases h; exact .nil
  | d :: ds, _, h => by
    cases h with
    | cons h1 h2 =>
      rw [List.reverse_cons, List.reverse_cons]
      exact (RepL.reverse h2).append (.cons h1 .nil)
theorem RepL.eraseIdx : ∀ {ds : List D} {vs : List V} (n : Nat), RepL K F ds vs → RepL K F (ds.eraseIdx n) (vs.eraseIdx n)
  | [], _, _, h => by cases h; exact .nil
  | d :: ds, _, 0, h => by
    cases h with
    | cons h1 h2 => exact h2
  | d :: ds, _, n + 1, h => by
    cases h with
    | cons h1 h2 => exact .cons h1 (RepL.eraseIdx n h2)
theorem RepF.lookup : ∀ {fs : List (Str × D)} {vs : List (Str × V)} {x : Str} {d : D}, RepF K F fs vs → fs.lookup x = some d → ∃ v, vs.lookup x = some v ∧ Rep K F d v
  | [], _, x, d, h, e => by simp at e
  | (y, d) :: fs, _, x, d', h, e => by
    cases h with
    | cons h1 h2 =>
      by_cases q : (x == y) = true
      · simp only [List.lookup, q] at e ⊢
        obtain rfl : d = d' := by simpa using e
        exact ⟨_, rfl, h1⟩
      · have q' : (x == y) = false := by simpa using q
        simp only [List.lookup, q'] at e ⊢
        exact RepF.lookup h2 e
theorem RepF.none : ∀ {fs : List (Str × D)} {vs : List (Str × V)} {x : Str}, RepF K F fs vs → fs.lookup x = none → vs.lookup x = none
  | [], _, x, h, e => by cases h; rfl
  | (y, d) :: fs, _, x, h, e => by
    cases h with
    | cons h1 h2 =>
      by_cases q : (x == y) = true
      · simp only [List.lookup, q] at e
        cases e
      · have q' : (x == y) = false := by simpa using q
        simp only [List.lookup, q'] at e ⊢
        exact RepF.none h2 e
theorem RepF.length : ∀ {ds : List (Str × D)} {vs : List (Str × V)}, RepF K F ds vs → ds.length = vs.length
  | [], _, h => by cases h; rfl
  | d :: ds, _, h => by
    cases h with
    | cons h1 h2 => simp [RepF.length h2]
/-- putF over trees -/
def putD (f : Str) (d : D) : List (Str × D) → List (Str × D)
  | [] => [(f, d)]
  | (g, e) :: r => if g = f then (g, d) :: r else (g, e) :: putD f d r
theorem RepF.put {f : Str} {d : D} {v : V} (h : Rep K F d v) : ∀ {fs : List (Str × D)} {vs : List (Str × V)}, RepF K F fs vs → RepF K F (putD f d fs) (putF f v vs)
  | [], _, r => by cases r; exact .cons h .nil
  | (g, e) :: fs, _, r => by
    cases r with
    | cons h1 h2 =>
      by_cases q : g = f
      · simp only [putD, putF, if_pos q]
        first
          | exact .cons h h2
          | (subst q; exact .cons h h2)
      · simp only [putD, putF, if_neg q]
        exact .cons h1 (RepF.put h h2)
end

/-- what stands at the address of a thing that may change -/
inductive MO where
  | lst (ds : List D)
  | ins (C : Addr) (fs : List (Str × D))
abbrev Mem := Addr → Option MO
/-- the heap without what may change -/
def Fz (M : Mem) (H : Hp) : Hp := fun a => match M a with
  | none => H a
  | some _ => none
def RepO (K : PySem.W.Frag) (F H : Hp) (a : Addr) : MO → Prop
  | .lst ds => ∃ vs, H a = some (.lst vs) ∧ RepL K F ds vs
  | .ins C fs => ∃ dx vs, H a = some (.ins C dx vs) ∧ RepF K F fs vs
def Ok (K : PySem.W.Frag) (M : Mem) (H : Hp) : Prop := ∀ a m, M a = some m → RepO K (Fz M H) H a m
/-- what a step leaves: all that may not change -/
def Stp (M : Mem) (H : Hp) (M' : Mem) (H' : Hp) : Prop := ∀ a o, M a = none → H a = some o → M' a = none ∧ H' a = some o
theorem Stp.refl (M : Mem) (H : Hp) : Stp M H M H := fun _ _ m h => ⟨m, h⟩
theorem Stp.trans {M M1 M2 : Mem} {H H1 H2 : Hp} (a : Stp M H M1 H1) (b : Stp M1 H1 M2 H2) : Stp M H M2 H2 := fun x o m h =>
  let ⟨m1, h1⟩ := a x o m h
  b x o m1 h1
theorem fz_of {M : Mem} {H : Hp} {a : Addr} {o : HO} (m : M a = none) (h : H a = some o) : Fz M H a = some o := by
  unfold Fz; rw [m]; exact h
theorem of_fz {M : Mem} {H : Hp} {a : Addr} {o : HO} (h : Fz M H a = some o) : M a = none ∧ H a = some o := by
  unfold Fz at h
  cases q : M a with
  | none => rw [q] at h; exact ⟨rfl, h⟩
  | some _ => rw [q] at h; cases h
theorem Stp.same {M M' : Mem} {H H' : Hp} (s : Stp M H M' H') : Same (Fz M H) (Fz M' H') := fun a o h =>
  let ⟨m, e⟩ := of_fz h
  let ⟨m', e'⟩ := s a o m e
  fz_of m' e'
theorem RepO.mono {K : PySem.W.Frag} {F F' H H' : Hp} {a : Addr} {m : MO} (e : Same F F') (h : H' a = H a) (r : RepO K F H a m) : RepO K F' H' a m := by
  cases m with
  | lst ds => obtain ⟨vs, q, r⟩ := r; exact ⟨vs, h.trans q, RepL.mono e _ _ r⟩
  | ins C fs => obtain ⟨dx, vs, q, r⟩ := r; exact ⟨dx, vs, h.trans q, RepF.mono e _ _ r⟩
theorem Ok.there {K : PySem.W.Frag} {M : Mem} {H : Hp} (ok : Ok K M H) {a : Addr} {m : MO} (h : M a = some m) : ∃ o, H a = some o := by
  have r := ok a m h
  cases m with
  | lst ds => obtain ⟨vs, q, _⟩ := r; exact ⟨_, q⟩
  | ins C fs => obtain ⟨dx, vs, q, _⟩ := r; exact ⟨_, q⟩
theorem Ok.fresh {K : PySem.W.Frag} {M : Mem} {H : Hp} (ok : Ok K M H) {a : Addr} (h : H a = none) : M a = none := by
  cases q : M a with
  | none => rfl
  | some m =>
    obtain ⟨o, e⟩ := ok.there q
    rw [h] at e; cases e

def Mem.set (M : Mem) (a : Addr) (m : MO) : Mem := fun b => if b = a then some m else M b
def Mem.del (M : Mem) (a : Addr) : Mem := fun b => if b = a then none else M b
theorem Mem.set_same {M : Mem} {a : Addr} {m : MO} : M.set a m a = some m := if_pos rfl
theorem Mem.set_ne {M : Mem} {a b : Addr} {m : MO} (h : b ≠ a) : M.set a m b = M b := if_neg h
theorem Mem.del_same {M : Mem} {a : Addr} : M.del a a = none := if_pos rfl
theorem Mem.del_ne {M : Mem} {a b : Addr} (h : b ≠ a) : M.del a b = M b := if_neg h
theorem Mem.set_set {M : Mem} {a : Addr} {m m' : MO} : (M.set a m).set a m' = M.set a m' := by
  funext b; unfold Mem.set; by_cases h : b = a <;> simp [h]
theorem Mem.set_comm {M : Mem} {a b : Addr} {m m' : MO} (h : a ≠ b) : (M.set a m).set b m' = (M.set b m').set a m := by
  funext c; unfold Mem.set
  by_cases h1 : c = a
  · have h2 : c ≠ b := fun e => h (h1.symm.trans e)
    rw [if_neg h2, if_pos h1, if_pos h1]
  · rw [if_neg h1]
    by_cases h2 : c = b
    · rw [if_pos h2, if_neg h1]
    · rw [if_neg h2, if_neg h1]
theorem Mem.ne_of {M : Mem} {a b : Addr} {m : MO} (h : M a = some m) (h' : M b = none) : a ≠ b := by
  rintro rfl; rw [h] at h'; cases h'

/-! ### steps of the heap -/
section
variable {K : PySem.W.Frag} {M : Mem} {H : Hp} {p : Addr}
/-- a new thing that does not change -/
theorem stp_new {o : HO} (h : H p = none) : Stp M H M (upd H p o) := fun a u m e => ⟨m, by rw [upd_ne (ne_of_none e h)]; exact e⟩
theorem ok_new {o : HO} (ok : Ok K M H) (h : H p = none) : Ok K M (upd H p o) := fun a m e => by
  obtain ⟨u, q⟩ := ok.there e
  exact (ok a m e).mono (stp_new h).same (upd_ne (ne_of_none q h))
/-- a new thing that may change -/
theorem stp_newM {o : HO} {m : MO} (h : H p = none) : Stp M H (M.set p m) (upd H p o) := fun a u q e => by
  have n := ne_of_none e h
  exact ⟨by rw [Mem.set_ne n]; exact q, by rw [upd_ne n]; exact e⟩
theorem ok_set {o : HO} {m : MO} (ok : Ok K M H) (s : Stp M H (M.set p m) (upd H p o)) (r : RepO K (Fz (M.set p m) (upd H p o)) (upd H p o) p m) : Ok K (M.set p m) (upd H p o) := fun a m' e => by
  by_cases q : a = p
  · subst q
    rw [Mem.set_same] at e
    cases e
    exact r
  · rw [Mem.set_ne q] at e
    exact (ok a m' e).mono s.same (upd_ne q)
/-- a thing that may change is changed -/
theorem stp_mut {o : HO} {m m0 : MO} (h : M p = some m0) : Stp M H (M.set p m) (upd H p o) := fun a u q e => by
  have n : a ≠ p := by rintro rfl; rw [q] at h; cases h
  exact ⟨by rw [Mem.set_ne n]; exact q, by rw [upd_ne n]; exact e⟩
/-- what may change no longer changes -/
theorem stp_less {M' : Mem} (h : ∀ a m, M' a = some m → M a = some m) : Stp M H M' H := fun a o m e => by
  refine ⟨?_, e⟩
  cases q : M' a with
  | none => rfl
  | some m' => rw [h a m' q] at m; cases m
theorem ok_less {M' : Mem} (ok : Ok K M H) (h : ∀ a m, M' a = some m → M a = some m) : Ok K M' H := fun a m e => (ok a m (h a m e)).mono (stp_less h).same rfl
end

/-! ### slots -/
abbrev Sls := List (Option D)
structure Slots (K : PySem.W.Frag) (F : Hp) (Δ : Sls) (σ : St) : Prop where
  len : Δ.length = σ.length
  get : ∀ (i : Nat) (d : D), Δ[i]? = some (some d) → ∃ v, σ[i]? = some (some v) ∧ Rep K F d v
theorem Slots.mono {K : PySem.W.Frag} {F F' : Hp} {Δ : Sls} {σ : St} (e : Same F F') (s : Slots K F Δ σ) : Slots K F' Δ σ :=
  ⟨s.len, fun i d h => let ⟨v, a, b⟩ := s.get i d h; ⟨v, a, Rep.mono e _ _ b⟩⟩
theorem Slots.set {K : PySem.W.Frag} {F : Hp} {Δ : Sls} {σ : St} {i : Nat} {d : D} {v : V} (s : Slots K F Δ σ) (r : Rep K F d v) : Slots K F (Δ.set i (some d)) (σ.set i (some v)) := by
  refine ⟨by simp [s.len], fun j d' h => ?_⟩
  by_cases q : j = i
  · subst q
    by_cases hl : j < Δ.length
    · rw [List.getElem?_set_self hl] at h
      have e : d = d' := by simpa using h
      subst e
      exact ⟨v, List.getElem?_set_self (by rw [← s.len]; exact hl), r⟩
    · rw [List.getElem?_eq_none (by simpa using hl)] at h
      cases h
  · rw [List.getElem?_set_ne (Ne.symm q)] at h
    obtain ⟨v', a, b⟩ := s.get j d' h
    exact ⟨v', by rw [List.getElem?_set_ne (Ne.symm q)]; exact a, b⟩
/-- forgetting slots -/
theorem Slots.weak {K : PySem.W.Frag} {F : Hp} {Δ Δ' : Sls} {σ : St} (s : Slots K F Δ σ) (hl : Δ'.length = Δ.length) (w : ∀ (i : Nat) (d : D), Δ'[i]? = some (some d) → Δ[i]? = some (some d)) : Slots K F Δ' σ :=
  ⟨hl.trans s.len, fun i d h => s.get i d (w i d h)⟩

/-! ### weakest preconditions over trees -/
/-- an own exception: its class, its fields -/
abbrev Exc := Value → List (Str × D) → Mem → Prop
abbrev PsiE := D → Mem → Prop
/-- what is wanted of a value -/
def GoodV (K : PySem.W.Frag) (M : Mem) (H : Hp) (Ψ : PsiE) (Q : VK) : Prop := ∀ M' H' d v, Stp M H M' H' → Ok K M' H' → Rep K (Fz M' H') d v → Ψ d M' → Q v H'
def GoodX (K : PySem.W.Frag) (W : WX) (M : Mem) (H : Hp) (σ : St) (Χ : Exc) : Prop :=
  ∀ M' H' cls d fs vs, Stp M H M' H' → Ok K M' H' → H' d = some (.xd vs) → M' d = none → RepF K (Fz M' H') fs vs → Χ cls fs M' → W cls (some d) σ H'
def GoodL (K : PySem.W.Frag) (M : Mem) (H : Hp) (Ψ : List D → Mem → Prop) (Q : List V → Hp → Prop) : Prop := ∀ M' H' d v, Stp M H M' H' → Ok K M' H' → RepL K (Fz M' H') d v → Ψ d M' → Q v H'
def GoodT (K : PySem.W.Frag) (M : Mem) (H : Hp) (Ψ : Bool → Mem → Prop) (Q : Bool → Hp → Prop) : Prop := ∀ M' H' b, Stp M H M' H' → Ok K M' H' → Ψ b M' → Q b H'
def AE (K : PySem.W.Frag) (W : WX) (Χ : Exc) (Δ : Sls) (te : TE) (M : Mem) (Ψ : PsiE) : Prop :=
  ∀ σ H, Ok K M H → Slots K (Fz M H) Δ σ → GoodX K W M H σ Χ → ∀ Q : VK, GoodV K M H Ψ Q → te σ H Q
def AA (K : PySem.W.Frag) (W : WX) (Χ : Exc) (Δ : Sls) (ta : TA) (M : Mem) (Ψ : List D → Mem → Prop) : Prop :=
  ∀ σ H, Ok K M H → Slots K (Fz M H) Δ σ → GoodX K W M H σ Χ → ∀ Q : List V → Hp → Prop, GoodL K M H Ψ Q → ta σ H Q
def AT (K : PySem.W.Frag) (W : WX) (Χ : Exc) (Δ : Sls) (tt : TT) (M : Mem) (Ψ : Bool → Mem → Prop) : Prop :=
  ∀ σ H, Ok K M H → Slots K (Fz M H) Δ σ → GoodX K W M H σ Χ → ∀ Q : Bool → Hp → Prop, GoodT K M H Ψ Q → tt σ H Q
/-- an operation upon values -/
def AR1 (K : PySem.W.Frag) (r : V → Hp → VK → Prop) (x : D) (M : Mem) (Ψ : PsiE) : Prop := ∀ H v, Ok K M H → Rep K (Fz M H) x v → ∀ Q : VK, GoodV K M H Ψ Q → r v H Q
def AR2 (K : PySem.W.Frag) (r : R2) (x y : D) (M : Mem) (Ψ : PsiE) : Prop := ∀ H v u, Ok K M H → Rep K (Fz M H) x v → Rep K (Fz M H) y u → ∀ Q : VK, GoodV K M H Ψ Q → r v u H Q
def ARL (K : PySem.W.Frag) (r : List V → Hp → VK → Prop) (xs : List D) (M : Mem) (Ψ : PsiE) : Prop := ∀ H vs, Ok K M H → RepL K (Fz M H) xs vs → ∀ Q : VK, GoodV K M H Ψ Q → r vs H Q

section
variable {K : PySem.W.Frag} {W : WX} {Χ : Exc} {Δ : Sls} {M : Mem} {H : Hp} {σ : St}
theorem GoodV.step {M1 : Mem} {H1 : Hp} {Ψ : PsiE} {Q : VK} (s : Stp M H M1 H1) (g : GoodV K M H Ψ Q) : GoodV K M1 H1 Ψ Q := fun M' H' d v s' ok r p => g M' H' d v (s.trans s') ok r p
theorem GoodL.step {M1 : Mem} {H1 : Hp} {Ψ : List D → Mem → Prop} {Q : List V → Hp → Prop} (s : Stp M H M1 H1) (g : GoodL K M H Ψ Q) : GoodL K M1 H1 Ψ Q := fun M' H' d v s' ok r p => g M' H' d v (s.trans s') ok r p
theorem GoodT.step {M1 : Mem} {H1 : Hp} {Ψ : Bool → Mem → Prop} {Q : Bool → Hp → Prop} (s : Stp M H M1 H1) (g : GoodT K M H Ψ Q) : GoodT K M1 H1 Ψ Q := fun M' H' b s' ok p => g M' H' b (s.trans s') ok p
theorem GoodX.step {M1 : Mem} {H1 : Hp} (s : Stp M H M1 H1) (g : GoodX K W M H σ Χ) : GoodX K W M1 H1 σ Χ := fun M' H' cls d fs vs s' ok a b c p => g M' H' cls d fs vs (s.trans s') ok a b c p
theorem GoodV.here {Ψ : PsiE} {Q : VK} {d : D} {v : V} (g : GoodV K M H Ψ Q) (ok : Ok K M H) (r : Rep K (Fz M H) d v) (p : Ψ d M) : Q v H := g M H d v (Stp.refl M H) ok r p
theorem GoodT.here {Ψ : Bool → Mem → Prop} {Q : Bool → Hp → Prop} {b : Bool} (g : GoodT K M H Ψ Q) (ok : Ok K M H) (p : Ψ b M) : Q b H := g M H b (Stp.refl M H) ok p

theorem AE.mono {te : TE} {Ψ Ψ' : PsiE} (h : AE K W Χ Δ te M Ψ) (f : ∀ d M', Ψ d M' → Ψ' d M') : AE K W Χ Δ te M Ψ' := fun σ H ok sl gx Q g => h σ H ok sl gx Q fun M' H' d v s o r p => g M' H' d v s o r (f d M' p)
theorem ae_var {i : Nat} {d : D} {Ψ : PsiE} (h : Δ[i]? = some (some d)) (k : Ψ d M) : AE K W Χ Δ (tVar i) M Ψ := fun σ H ok sl gx Q g => by
  obtain ⟨v, a, b⟩ := sl.get i d h
  exact ⟨v, a, g.here ok b k⟩
theorem ae_varX {i : Nat} {ds : List D} {Ψ : PsiE} (h : Δ[i]? = some (some (.xtup ds))) (k : Ψ (.tup ds) M) : AE K W Χ Δ (tVar i) M Ψ := fun σ H ok sl gx Q g => by
  obtain ⟨v, a, b⟩ := sl.get i _ h
  exact ⟨v, a, g.here ok b.ofX k⟩
/-- a constant -/
theorem ae_c {v : V} {d : D} {Ψ : PsiE} (h : ∀ F, Rep K F d v) (k : Ψ d M) : AE K W Χ Δ (tC v) M Ψ := fun σ H ok sl gx Q g => g.here ok (h _) k
theorem ae_int {i : Int} {Ψ : PsiE} (k : Ψ (.int i) M) : AE K W Χ Δ (tC (.int i)) M Ψ := ae_c (fun _ => .int i) k
theorem ae_str {i : Str} {Ψ : PsiE} (k : Ψ (.str i) M) : AE K W Χ Δ (tC (.str i)) M Ψ := ae_c (fun _ => .str i) k
theorem ae_bl {i : Bool} {Ψ : PsiE} (k : Ψ (.bl i) M) : AE K W Χ Δ (tC (.bl i)) M Ψ := ae_c (fun _ => .bl i) k
theorem ae_non {Ψ : PsiE} (k : Ψ .non M) : AE K W Χ Δ (tC .non) M Ψ := ae_c (fun _ => .non) k
theorem ae_ty {n : String} {Ψ : PsiE} (k : Ψ (.ty n) M) : AE K W Χ Δ (tC (.ty n)) M Ψ := ae_c (fun _ => .ty n) k
theorem ae_ref {n : Addr} {Ψ : PsiE} (k : Ψ (.ref n) M) : AE K W Χ Δ (tC (.ref n)) M Ψ := ae_c (fun _ => .ref n) k
theorem ae_op {r : R2} {ta tb : TE} {Ψ : PsiE} (h : AE K W Χ Δ ta M fun x M1 => AE K W Χ Δ tb M1 fun y M2 => AR2 K r x y M2 Ψ) : AE K W Χ Δ (tOp r ta tb) M Ψ := fun σ H ok sl gx Q g =>
  h σ H ok sl gx _ fun M1 H1 x v s1 ok1 r1 h1 => h1 σ H1 ok1 (sl.mono s1.same) (gx.step s1) _ fun M2 H2 y u s2 ok2 r2 h2 => h2 H2 v u ok2 (Rep.mono s2.same _ _ r1) r2 Q (g.step (s1.trans s2))
theorem ae_un {r : V → Hp → VK → Prop} {ta : TE} {Ψ : PsiE} (h : AE K W Χ Δ ta M fun x M1 => AR1 K r x M1 Ψ) : AE K W Χ Δ (tUn r ta) M Ψ := fun σ H ok sl gx Q g =>
  h σ H ok sl gx _ fun M1 H1 x v s1 ok1 r1 h1 => h1 H1 v ok1 r1 Q (g.step s1)
theorem aa_nil {Ψ : List D → Mem → Prop} (k : Ψ [] M) : AA K W Χ Δ tNil M Ψ := fun σ H ok sl gx Q g => g M H [] [] (Stp.refl M H) ok .nil k
theorem aa_cons {ta : TE} {tr : TA} {Ψ : List D → Mem → Prop} (h : AE K W Χ Δ ta M fun x M1 => AA K W Χ Δ tr M1 fun xs M2 => Ψ (x :: xs) M2) : AA K W Χ Δ (tCons ta tr) M Ψ := fun σ H ok sl gx Q g =>
  h σ H ok sl gx _ fun M1 H1 x v s1 ok1 r1 h1 => h1 σ H1 ok1 (sl.mono s1.same) (gx.step s1) _ fun M2 H2 y u s2 ok2 r2 h2 => g M2 H2 (x :: y) (v :: u) (s1.trans s2) ok2 (.cons (Rep.mono s2.same _ _ r1) r2) h2
theorem ae_tup {ta : TA} {Ψ : PsiE} (h : AA K W Χ Δ ta M fun xs M1 => xs.length ≤ 100000 ∧ Ψ (.tup xs) M1) : AE K W Χ Δ (tTup ta) M Ψ := fun σ H ok sl gx Q g =>
  h σ H ok sl gx _ fun M1 H1 x v s1 ok1 r1 ⟨hl, h1⟩ => ⟨Evl.sz_of (by rw [← r1.length]; exact hl), fun p hp => g M1 _ (.tup x) (.ref p) (s1.trans (stp_new hp)) (ok_new ok1 hp)
    (.tup (SqT.of (fz_of (ok1.fresh hp) upd_same)) (RepL.mono (stp_new hp).same _ _ r1)) h1⟩
/-- a list that will not change -/
theorem ae_lst {ta : TA} {Ψ : PsiE} (h : AA K W Χ Δ ta M fun xs M1 => xs.length ≤ 100000 ∧ Ψ (.lst xs) M1) : AE K W Χ Δ (tLst ta) M Ψ := fun σ H ok sl gx Q g =>
  h σ H ok sl gx _ fun M1 H1 x v s1 ok1 r1 ⟨hl, h1⟩ => ⟨Evl.sz_of (by rw [← r1.length]; exact hl), fun p hp => g M1 _ (.lst x) (.ref p) (s1.trans (stp_new hp)) (ok_new ok1 hp)
    (.lst (SqL.of (fz_of (ok1.fresh hp) upd_same)) (RepL.mono (stp_new hp).same _ _ r1)) h1⟩
/-- a list that will change: at p -/
theorem ae_lstM {ta : TA} {Ψ : PsiE} (h : AA K W Χ Δ ta M fun xs M1 => xs.length ≤ 100000 ∧ ∀ p, M1 p = none → Ψ (.ref p) (M1.set p (.lst xs))) : AE K W Χ Δ (tLst ta) M Ψ := fun σ H ok sl gx Q g =>
  h σ H ok sl gx _ fun M1 H1 x v s1 ok1 r1 ⟨hl, h1⟩ => ⟨Evl.sz_of (by rw [← r1.length]; exact hl), fun p hp =>
    let s2 : Stp M1 H1 (M1.set p (.lst x)) (upd H1 p (.lst v)) := stp_newM hp
    g (M1.set p (.lst x)) _ (.ref p) (.ref p) (s1.trans s2) (ok_set ok1 s2 ⟨v, upd_same, RepL.mono s2.same _ _ r1⟩) (.ref p) (h1 p (ok1.fresh hp))⟩
end
end T2
namespace T2
open PySem L2

theorem fz_sub {M : Mem} {H : Hp} : Same (Fz M H) H := fun _ _ h => (of_fz h).2

/-! ### trees as plain data -/
mutual
def toP : D → PyData
  | .non => .none
  | .bl b => .bool b
  | .int i => .int i
  | .str x => .str x
  | .tup ds => .tuple (toPs ds)
  | .lst ds => .list (toPs ds)
  | .ref _ => .none
  | .ty _ => .none
  | .obj _ _ => .none
  | .raw _ => .none
  | .xtup _ => .none
  | .exc _ _ _ => .none
def toPs : List D → List PyData
  | [] => []
  | d :: ds => toP d :: toPs ds
end
mutual
/-- plain data of at most n levels -/
def good : Nat → D → Bool
  | _, .non => true
  | _, .bl _ => true
  | _, .int _ => true
  | _, .str x => PyData.strOk x
  | n + 1, .tup ds => goods n ds
  | n + 1, .lst ds => goods n ds
  | 0, .tup _ => false
  | 0, .lst _ => false
  | _, .ref _ => false
  | _, .ty _ => false
  | _, .obj _ _ => false
  | _, .raw _ => false
  | _, .xtup _ => false
  | _, .exc _ _ _ => false
def goods : Nat → List D → Bool
  | _, [] => true
  | n, d :: ds => good n d && goods n ds
end
section
variable {K : PySem.W.Frag} {F H : Hp}
mutual
theorem dp_of (e : Same F H) : ∀ (d : D) (n : Nat) (v : V), good n d = true → Rep K F d v → Dp K H v (toP d)
  | .non, _, _, _, r => by cases r; simp only [toP]; exact .non
  | .bl b, _, _, _, r => by cases r; simp only [toP]; exact .bl b
  | .int i, _, _, _, r => by cases r; simp only [toP]; exact .int i
  | .str x, _, _, _, r => by cases r; simp only [toP]; exact .str x
  | .tup ds, 0, _, g, r => by simp [good] at g
  | .tup ds, n + 1, _, g, r => by
    cases r with
    | tup s r =>
      simp only [toP]
      exact .tup (sqT_mono e s) (dps_of e ds n _ (by simpa only [good] using g) r)
  | .lst ds, 0, _, g, r => by simp [good] at g
  | .lst ds, n + 1, _, g, r => by
    cases r with
    | lst s r =>
      simp only [toP]
      exact .lst (sqL_mono e s) (dps_of e ds n _ (by simpa only [good] using g) r)
  | .ref _, n, _, g, r => by simp [good] at g
  | .ty _, n, _, g, r => by simp [good] at g
  | .obj _ _, n, _, g, r => by simp [good] at g
  | .raw _, n, _, g, r => by simp [good] at g
  | .xtup _, n, _, g, r => by simp [good] at g
  | .exc _ _ _, n, _, g, r => by simp [good] at g
theorem dps_of (e : Same F H) : ∀ (ds : List D) (n : Nat) (vs : List V), goods n ds = true → RepL K F ds vs → DpAll K H vs (toPs ds)
  | [], _, _, _, r => by cases r; simp only [toPs]; exact .nil
  | d :: ds, n, _, g, r => by
    simp only [goods, Bool.and_eq_true] at g
    cases r with
    | cons h1 h2 =>
      simp only [toPs]
      exact .cons (dp_of e d n _ g.1 h1) (dps_of e ds n _ g.2 h2)
end
mutual
theorem can_of : ∀ (d : D) (n : Nat), good n d = true → (toP d).canLay0 = true ∧ (toP d).depth ≤ n
  | .non, n, _ => by simp [toP, PyData.canLay0, PyData.depth]
  | .bl b, n, _ => by simp [toP, PyData.canLay0, PyData.depth]
  | .int i, n, _ => by simp [toP, PyData.canLay0, PyData.depth]
  | .str x, n, g => by simp only [toP, PyData.canLay0, PyData.depth, good] at *; exact ⟨g, Nat.zero_le _⟩
  | .tup ds, 0, g => by simp [good] at g
  | .tup ds, n + 1, g => by
    have h := cans_of ds n (by simpa only [good] using g)
    simp only [toP, PyData.canLay0, PyData.depth]
    exact ⟨h.1, by omega⟩
  | .lst ds, 0, g => by simp [good] at g
  | .lst ds, n + 1, g => by
    have h := cans_of ds n (by simpa only [good] using g)
    simp only [toP, PyData.canLay0, PyData.depth]
    exact ⟨h.1, by omega⟩
  | .ref _, n, g => by simp [good] at g
  | .ty _, n, g => by simp [good] at g
  | .obj _ _, n, g => by simp [good] at g
  | .raw _, n, g => by simp [good] at g
  | .xtup _, n, g => by simp [good] at g
  | .exc _ _ _, n, g => by simp [good] at g
theorem cans_of : ∀ (ds : List D) (n : Nat), goods n ds = true → PyData.canLayAll0 (toPs ds) = true ∧ PyData.depthAll (toPs ds) ≤ n
  | [], n, _ => by simp [toPs, PyData.canLayAll0, PyData.depthAll]
  | d :: ds, n, g => by
    simp only [goods, Bool.and_eq_true] at g
    have h1 := can_of d n g.1
    have h2 := cans_of ds n g.2
    simp only [toPs, PyData.canLayAll0, PyData.depthAll, h1.1, h2.1, Bool.and_self]
    exact ⟨trivial, by omega⟩
end
theorem shaped_of {d : D} {n : Nat} (g : good n d = true) (hn : n ≤ 64) : SeqAt.shaped (toP d) = true := by
  have h := can_of d n g
  unfold SeqAt.shaped
  rw [h.1, Bool.true_and]
  exact decide_eq_true (Nat.le_trans h.2 hn)
end
/-- x == y -/
def eqD (x y : D) : Bool := PyData.eqv (toP x) (toP y)

section
variable {K : PySem.W.Frag} {W : WX} {Χ : Exc} {Δ : Sls} {M : Mem} {Ψ : PsiE} {i j : Int} {x y : D}
/-! ### operators -/
theorem ar_I0 {g : Int → Int → V} {d : D} (hd : ∀ F, Rep K F d (g i j)) (k : Ψ d M) : AR2 K (rI0 g) (.int i) (.int j) M Ψ := fun H v u ok r1 r2 Q q => by
  cases r1; cases r2
  exact ⟨i, j, rfl, rfl, q.here ok (hd _) k⟩
theorem ar_I {C : Int → Int → Prop} {g : Int → Int → V} {d : D} (hc : C i j) (hd : ∀ F, Rep K F d (g i j)) (k : Ψ d M) : AR2 K (rI C g) (.int i) (.int j) M Ψ := fun H v u ok r1 r2 Q q => by
  cases r1; cases r2
  exact ⟨i, j, rfl, rfl, hc, q.here ok (hd _) k⟩
theorem ar_add (k : Ψ (.int (i + j)) M) : AR2 K (rI0 fun i j => .int (i + j)) (.int i) (.int j) M Ψ := ar_I0 (fun _ => .int _) k
theorem ar_sub (k : Ψ (.int (i - j)) M) : AR2 K (rI0 fun i j => .int (i - j)) (.int i) (.int j) M Ψ := ar_I0 (fun _ => .int _) k
theorem ar_mul (h : CMul i j) (k : Ψ (.int (i * j)) M) : AR2 K (rI CMul fun i j => .int (i * j)) (.int i) (.int j) M Ψ := ar_I h (fun _ => .int _) k
theorem ar_mod (h : 0 < j) (k : Ψ (.int (i % j)) M) : AR2 K (rI (fun _ j => 0 < j) fun i j => .int (i % j)) (.int i) (.int j) M Ψ := ar_I (C := fun _ j => 0 < j) h (fun _ => .int _) k
theorem ar_fdiv (h : CDiv i j) (k : Ψ (.int (i / j)) M) : AR2 K (rI CDiv fun i j => .int (i / j)) (.int i) (.int j) M Ψ := ar_I h (fun _ => .int _) k
theorem ar_pow (h : CPow i j) (k : Ψ (.int (i ^ j.toNat)) M) : AR2 K (rI CPow fun i j => .int (i ^ j.toNat)) (.int i) (.int j) M Ψ := ar_I h (fun _ => .int _) k
theorem ar_lt (k : Ψ (.bl (decide (i < j))) M) : AR2 K (rI0 fun i j => .bl (decide (i < j))) (.int i) (.int j) M Ψ := ar_I0 (fun _ => .bl _) k
theorem ar_le (k : Ψ (.bl (decide (i ≤ j))) M) : AR2 K (rI0 fun i j => .bl (decide (i ≤ j))) (.int i) (.int j) M Ψ := ar_I0 (fun _ => .bl _) k
theorem ar_gt (k : Ψ (.bl (decide (j < i))) M) : AR2 K (rI0 fun i j => .bl (decide (j < i))) (.int i) (.int j) M Ψ := ar_I0 (fun _ => .bl _) k
theorem ar_ge (k : Ψ (.bl (decide (j ≤ i))) M) : AR2 K (rI0 fun i j => .bl (decide (j ≤ i))) (.int i) (.int j) M Ψ := ar_I0 (fun _ => .bl _) k
theorem ar_eqI (k : Ψ (.bl (decide (i = j))) M) : AR2 K rEq (.int i) (.int j) M Ψ := fun H v u ok r1 r2 Q q => by
  cases r1; cases r2
  exact ⟨rfl, by
    have e : decide (V.int i = V.int j) = decide (i = j) := by simp
    rw [e]
    exact q.here ok (.bl _) k⟩
theorem ar_neI (k : Ψ (.bl (!decide (i = j))) M) : AR2 K rNe (.int i) (.int j) M Ψ := fun H v u ok r1 r2 Q q => by
  cases r1; cases r2
  exact ⟨rfl, by
    have e : decide (V.int i = V.int j) = decide (i = j) := by simp
    rw [e]
    exact q.here ok (.bl _) k⟩
theorem ar_eqS {s t : Str} (k : Ψ (.bl (decide (s = t))) M) : AR2 K rEq (.str s) (.str t) M Ψ := fun H v u ok r1 r2 Q q => by
  cases r1; cases r2
  exact ⟨rfl, by
    have e : decide (V.str s = V.str t) = decide (s = t) := by simp
    rw [e]
    exact q.here ok (.bl _) k⟩
theorem ar_neS {s t : Str} (k : Ψ (.bl (!decide (s = t))) M) : AR2 K rNe (.str s) (.str t) M Ψ := fun H v u ok r1 r2 Q q => by
  cases r1; cases r2
  exact ⟨rfl, by
    have e : decide (V.str s = V.str t) = decide (s = t) := by simp
    rw [e]
    exact q.here ok (.bl _) k⟩
/-- == of plain data -/
theorem ar_eqD {n m : Nat} (gx : good n x = true) (gy : good m y = true) (hn : n ≤ 64) (hm : m ≤ 64) (k : Ψ (.bl (eqD x y)) M) : AR2 K (rEqD K) x y M Ψ := fun H v u ok r1 r2 Q q =>
  ⟨toP x, toP y, dp_of fz_sub x n v gx r1, dp_of fz_sub y m u gy r2, shaped_of gx hn, shaped_of gy hm, q.here ok (.bl _) k⟩
theorem ar_neD {n m : Nat} (gx : good n x = true) (gy : good m y = true) (hn : n ≤ 64) (hm : m ≤ 64) (k : Ψ (.bl (!eqD x y)) M) : AR2 K (rNeD K) x y M Ψ := fun H v u ok r1 r2 Q q =>
  ⟨toP x, toP y, dp_of fz_sub x n v gx r1, dp_of fz_sub y m u gy r2, shaped_of gx hn, shaped_of gy hm, q.here ok (.bl _) k⟩
def isNon : D → Bool
  | .non => true
  | _ => false
theorem rep_non {F : Hp} {d : D} {v : V} (r : Rep K F d v) : decide (v = .non) = isNon d := by
  cases r <;> simp [isNon]
theorem ar_isN (k : Ψ (.bl (isNon x)) M) : AR2 K (fun x y H Q => y = .non ∧ Q (.bl (decide (x = .non))) H) x .non M Ψ := fun H v u ok r1 r2 Q q => by
  cases r2
  exact ⟨rfl, by rw [rep_non r1]; exact q.here ok (.bl _) k⟩
theorem ar_notN (k : Ψ (.bl (!isNon x)) M) : AR2 K (fun x y H Q => y = .non ∧ Q (.bl (!decide (x = .non))) H) x .non M Ψ := fun H v u ok r1 r2 Q q => by
  cases r2
  exact ⟨rfl, by rw [rep_non r1]; exact q.here ok (.bl _) k⟩
/-! ### items -/
theorem ar_ixT {ds : List D} {d : D} (h : atI ds i = some d) (k : Ψ d M) : AR2 K (rIxT K) (.tup ds) (.int i) M Ψ := fun H v u ok r1 r2 Q q => by
  cases r2
  cases r1 with
  | tup s r =>
    rename_i a vs
    have hl := r.length
    unfold atI at h
    cases e : ixN ds.length i with
    | none => rw [e] at h; cases h
    | some n =>
      rw [e] at h
      obtain ⟨w, a1, b1⟩ := r.get (show ds[n]? = some d from h)
      exact ⟨a, vs, i, w, rfl, rfl, sqT_mono fz_sub s, by unfold atI; rw [← hl, e]; exact a1, q.here ok b1 k⟩
theorem ar_ixL {ds : List D} {d : D} (h : atI ds i = some d) (k : Ψ d M) : AR2 K (rIxL K) (.lst ds) (.int i) M Ψ := fun H v u ok r1 r2 Q q => by
  cases r2
  cases r1 with
  | lst s r =>
    rename_i a vs
    have hl := r.length
    unfold atI at h
    cases e : ixN ds.length i with
    | none => rw [e] at h; cases h
    | some n =>
      rw [e] at h
      obtain ⟨w, a1, b1⟩ := r.get (show ds[n]? = some d from h)
      exact ⟨a, vs, i, w, rfl, rfl, sqL_mono fz_sub s, by unfold atI; rw [← hl, e]; exact a1, q.here ok b1 k⟩
/-- of a list that may change -/
theorem ar_ixM {ds : List D} {d : D} {p : Addr} (hm : M p = some (.lst ds)) (h : atI ds i = some d) (k : Ψ d M) : AR2 K (rIxL K) (.ref p) (.int i) M Ψ := fun H v u ok r1 r2 Q q => by
  cases r2
  cases r1
  obtain ⟨vs, hp, r⟩ := ok p _ hm
  have hl := r.length
  unfold atI at h
  cases e : ixN ds.length i with
  | none => rw [e] at h; cases h
  | some n =>
    rw [e] at h
    obtain ⟨w, a1, b1⟩ := r.get (show ds[n]? = some d from h)
    exact ⟨p, vs, i, w, rfl, rfl, SqL.of hp, by unfold atI; rw [← hl, e]; exact a1, q.here ok b1 k⟩
/-- any of the three -/
theorem ar_or1 {r r' : R2} (h : AR2 K r x y M Ψ) : AR2 K (fun x y H Q => r x y H Q ∨ r' x y H Q) x y M Ψ := fun H v u ok r1 r2 Q q => .inl (h H v u ok r1 r2 Q q)
theorem ar_or2 {r r' : R2} (h : AR2 K r' x y M Ψ) : AR2 K (fun x y H Q => r x y H Q ∨ r' x y H Q) x y M Ψ := fun H v u ok r1 r2 Q q => .inr (h H v u ok r1 r2 Q q)
theorem ar_ix_L (h : AR2 K (rIxL K) x y M Ψ) : AR2 K (rIx K) x y M Ψ := fun H v u ok r1 r2 Q q => .inl (h H v u ok r1 r2 Q q)
theorem ar_ix_T (h : AR2 K (rIxT K) x y M Ψ) : AR2 K (rIx K) x y M Ψ := fun H v u ok r1 r2 Q q => .inr (.inl (h H v u ok r1 r2 Q q))
theorem ar_ixS {z : Str} {c : Nat} (hz : z.length ≤ 100000) (h : atI z.cps.toList i = some c) (k : Ψ (.str ⟨#[c]⟩) M) : AR2 K (rIx K) (.str z) (.int i) M Ψ := fun H v u ok r1 r2 Q q => by
  cases r1; cases r2
  exact .inr (.inr ⟨z, i, c, rfl, rfl, Evl.sz_of hz, h, q.here ok (.str _) k⟩)

/-! ### tests -/
theorem at_test {te : TE} {Φ : Bool → Mem → Prop} (h : AE K W Χ Δ te M fun x M' => ∃ b, x = .bl b ∧ Φ b M') : AT K W Χ Δ (tTest te) M Φ := fun σ H ok sl gx Q g =>
  h σ H ok sl gx _ fun M' H' d v s ok' r ⟨b, e, p⟩ => by
    subst e
    cases r
    exact ⟨b, rfl, g M' H' b s ok' p⟩
theorem at_B {te : TE} {Φ : Bool → Mem → Prop} (h : AE K W Χ Δ te M fun x M' => ∃ b, x = .bl b ∧ Φ b M') : AT K W Χ Δ (tB te) M Φ := fun σ H ok sl gx Q g =>
  h σ H ok sl gx _ fun M' H' d v s ok' r ⟨b, e, p⟩ => by
    subst e
    cases r
    exact ⟨b, rfl, g M' H' b s ok' p⟩
theorem at_and {t u : TT} {Φ : Bool → Mem → Prop} (h : AT K W Χ Δ t M fun a M1 => if a = true then AT K W Χ Δ u M1 Φ else Φ false M1) : AT K W Χ Δ (tAnd t u) M Φ := fun σ H ok sl gx Q g =>
  h σ H ok sl gx _ fun M1 H1 a s1 ok1 h1 => by
    cases a with
    | true =>
      rw [if_pos rfl] at h1 ⊢
      exact h1 σ H1 ok1 (sl.mono s1.same) (gx.step s1) Q (g.step s1)
    | false =>
      rw [if_neg Bool.false_ne_true] at h1 ⊢
      exact g M1 H1 false s1 ok1 h1
theorem at_or {t u : TT} {Φ : Bool → Mem → Prop} (h : AT K W Χ Δ t M fun a M1 => if a = true then Φ true M1 else AT K W Χ Δ u M1 Φ) : AT K W Χ Δ (tOr t u) M Φ := fun σ H ok sl gx Q g =>
  h σ H ok sl gx _ fun M1 H1 a s1 ok1 h1 => by
    cases a with
    | true =>
      rw [if_pos rfl] at h1 ⊢
      exact g M1 H1 true s1 ok1 h1
    | false =>
      rw [if_neg Bool.false_ne_true] at h1 ⊢
      exact h1 σ H1 ok1 (sl.mono s1.same) (gx.step s1) Q (g.step s1)
theorem at_not {t : TT} {Φ : Bool → Mem → Prop} (h : AT K W Χ Δ t M fun a M1 => Φ (!a) M1) : AT K W Χ Δ (tNot t) M Φ := fun σ H ok sl gx Q g =>
  h σ H ok sl gx _ fun M1 H1 a s1 ok1 h1 => g M1 H1 (!a) s1 ok1 h1
theorem ae_andV {ta tb : TE} (h : AE K W Χ Δ ta M fun x M1 => ∃ a, x = .bl a ∧ if a = true then AE K W Χ Δ tb M1 Ψ else Ψ (.bl false) M1) : AE K W Χ Δ (tAndV ta tb) M Ψ := fun σ H ok sl gx Q g =>
  h σ H ok sl gx _ fun M1 H1 d v s1 ok1 r ⟨a, e, h1⟩ => by
    subst e
    cases r
    refine ⟨a, rfl, ?_⟩
    cases a with
    | true =>
      rw [if_pos rfl] at h1 ⊢
      exact h1 σ H1 ok1 (sl.mono s1.same) (gx.step s1) Q (g.step s1)
    | false =>
      rw [if_neg Bool.false_ne_true] at h1 ⊢
      exact g M1 H1 _ _ s1 ok1 (.bl false) h1
theorem ae_orV {ta tb : TE} (h : AE K W Χ Δ ta M fun x M1 => ∃ a, x = .bl a ∧ if a = true then Ψ (.bl true) M1 else AE K W Χ Δ tb M1 Ψ) : AE K W Χ Δ (tOrV ta tb) M Ψ := fun σ H ok sl gx Q g =>
  h σ H ok sl gx _ fun M1 H1 d v s1 ok1 r ⟨a, e, h1⟩ => by
    subst e
    cases r
    refine ⟨a, rfl, ?_⟩
    cases a with
    | true =>
      rw [if_pos rfl] at h1 ⊢
      exact g M1 H1 _ _ s1 ok1 (.bl true) h1
    | false =>
      rw [if_neg Bool.false_ne_true] at h1 ⊢
      exact h1 σ H1 ok1 (sl.mono s1.same) (gx.step s1) Q (g.step s1)
theorem ae_notV {ta : TE} (h : AE K W Χ Δ ta M fun x M1 => ∃ a, x = .bl a ∧ Ψ (.bl (!a)) M1) : AE K W Χ Δ (tNotV ta) M Ψ := fun σ H ok sl gx Q g =>
  h σ H ok sl gx _ fun M1 H1 d v s1 ok1 r ⟨a, e, h1⟩ => by
    subst e
    cases r
    exact ⟨a, rfl, g M1 H1 _ _ s1 ok1 (.bl (!a)) h1⟩
theorem ae_if {t : TT} {ta tb : TE} (h : AT K W Χ Δ t M fun a M1 => if a = true then AE K W Χ Δ ta M1 Ψ else AE K W Χ Δ tb M1 Ψ) : AE K W Χ Δ (tIf t ta tb) M Ψ := fun σ H ok sl gx Q g =>
  h σ H ok sl gx _ fun M1 H1 a s1 ok1 h1 => by
    cases a with
    | true =>
      rw [if_pos rfl] at h1 ⊢
      exact h1 σ H1 ok1 (sl.mono s1.same) (gx.step s1) Q (g.step s1)
    | false =>
      rw [if_neg Bool.false_ne_true] at h1 ⊢
      exact h1 σ H1 ok1 (sl.mono s1.same) (gx.step s1) Q (g.step s1)
/-- a op1 b op2 c -/
theorem ae_chain {r r' : R2} {ta tb tc : TE} (h : AE K W Χ Δ ta M fun x M1 => AE K W Χ Δ tb M1 fun y M2 => AR2 K r x y M2 fun z M3 => ∃ k, z = .bl k ∧ if k = true then AE K W Χ Δ tc M3 (fun w M4 => AR2 K r' y w M4 Ψ) else Ψ (.bl false) M3) :
    AE K W Χ Δ (tChain r r' ta tb tc) M Ψ := fun σ H ok sl gx Q g =>
  h σ H ok sl gx _ fun M1 H1 x v s1 ok1 r1 h1 => h1 σ H1 ok1 (sl.mono s1.same) (gx.step s1) _ fun M2 H2 y u s2 ok2 r2 h2 => h2 H2 v u ok2 (Rep.mono s2.same _ _ r1) r2 _ fun M3 H3 d w s3 ok3 r3 ⟨k, e, h3⟩ => by
    subst e
    cases r3
    refine ⟨k, rfl, ?_⟩
    have s13 := (s1.trans s2).trans s3
    cases k with
    | true =>
      rw [if_pos rfl] at h3 ⊢
      exact h3 σ H3 ok3 (sl.mono s13.same) (gx.step s13) _ fun M4 H4 d4 v4 s4 ok4 r4 h4 => h4 H4 u v4 ok4 (Rep.mono (s3.trans s4).same _ _ r2) r4 Q (g.step (s13.trans s4))
    | false =>
      rw [if_neg Bool.false_ne_true] at h3 ⊢
      exact g M3 H3 _ _ s13 ok3 (.bl false) h3

/-! ### calls of built-ins by values -/
theorem ae_cb {r : List V → Hp → VK → Prop} {ta : TA} (h : AA K W Χ Δ ta M fun xs M1 => ARL K r xs M1 Ψ) : AE K W Χ Δ (tCB r ta) M Ψ := fun σ H ok sl gx Q g =>
  h σ H ok sl gx _ fun M1 H1 xs vs s1 ok1 r1 h1 => h1 H1 vs ok1 r1 Q (g.step s1)
end
end T2
namespace T2
open PySem L2 RZ

/-! ### statements -/
structure Post where
  nx : Sls → Mem → Prop
  rt : PsiE
  bk : Sls → Mem → Prop := fun _ _ => False
  ct : Sls → Mem → Prop := fun _ _ => False
  xr : Value → List (Str × D) → Sls → Mem → Prop := fun _ _ _ _ => False
def GoodS (K : PySem.W.Frag) (M : Mem) (H : Hp) (Φ : Sls → Mem → Prop) (Q : St → Hp → Prop) : Prop :=
  ∀ Δ' M' σ' H', Stp M H M' H' → Ok K M' H' → Slots K (Fz M' H') Δ' σ' → Φ Δ' M' → Q σ' H'
structure GoodP (K : PySem.W.Frag) (W : WX) (M : Mem) (H : Hp) (P : Post) (D : Ends) : Prop where
  nx : GoodS K M H P.nx D.nx
  rt : GoodV K M H P.rt D.rt
  bk : GoodS K M H P.bk D.bk
  ct : GoodS K M H P.ct D.ct
  xr : ∀ Δ' M' σ' H' cls d fs vs, Stp M H M' H' → Ok K M' H' → Slots K (Fz M' H') Δ' σ' → H' d = some (.xd vs) → M' d = none → RepF K (Fz M' H') fs vs → P.xr cls fs Δ' M' → W cls (some d) σ' H'
def AS (K : PySem.W.Frag) (W : WX) (ts : TS) (P : Post) (Δ : Sls) (M : Mem) : Prop :=
  ∀ σ H, Ok K M H → Slots K (Fz M H) Δ σ → ∀ D : Ends, GoodP K W M H P D → ts D σ H
/-- a target -/
def AG (K : PySem.W.Frag) (W : WX) (xr : Value → List (Str × D) → Sls → Mem → Prop) (g : TG) (d : D) (Δ : Sls) (M : Mem) (Φ : Sls → Mem → Prop) : Prop :=
  ∀ σ H v, Ok K M H → Slots K (Fz M H) Δ σ → Rep K (Fz M H) d v → GoodX K W M H σ (fun cls fs M' => xr cls fs Δ M') → ∀ Q : St → Hp → Prop, GoodS K M H Φ Q → g v σ H Q
def AGs (K : PySem.W.Frag) (W : WX) (xr : Value → List (Str × D) → Sls → Mem → Prop) (g : TGs) (ds : List D) (Δ : Sls) (M : Mem) (Φ : Sls → Mem → Prop) : Prop :=
  ∀ σ H vs, Ok K M H → Slots K (Fz M H) Δ σ → RepL K (Fz M H) ds vs → (∀ Δ' M' σ' H', Stp M H M' H' → Ok K M' H' → Slots K (Fz M' H') Δ' σ' → GoodX K W M' H' σ' (fun cls fs M' => xr cls fs Δ' M')) → ∀ Q : St → Hp → Prop, GoodS K M H Φ Q → g vs σ H Q

section
variable {K : PySem.W.Frag} {W : WX} {M M1 : Mem} {H H1 : Hp} {P : Post} {Dd : Ends} {Δ : Sls} {σ : St} {t u : TS} {te : TE} {g : TG}
theorem GoodS.step {Φ : Sls → Mem → Prop} {Q : St → Hp → Prop} (s : Stp M H M1 H1) (g : GoodS K M H Φ Q) : GoodS K M1 H1 Φ Q := fun Δ' M' σ' H' s' ok sl p => g Δ' M' σ' H' (s.trans s') ok sl p
theorem GoodP.step (s : Stp M H M1 H1) (g : GoodP K W M H P Dd) : GoodP K W M1 H1 P Dd :=
  ⟨g.nx.step s, g.rt.step s, g.bk.step s, g.ct.step s, fun Δ' M' σ' H' cls d fs vs s' ok sl a b c p => g.xr Δ' M' σ' H' cls d fs vs (s.trans s') ok sl a b c p⟩
theorem GoodP.x (g : GoodP K W M H P Dd) (sl : Slots K (Fz M H) Δ σ) : GoodX K W M H σ (fun cls fs M' => P.xr cls fs Δ M') :=
  fun M' H' cls d fs vs s' ok a b c p => g.xr Δ M' σ H' cls d fs vs s' ok (sl.mono s'.same) a b c p
theorem GoodS.here {Φ : Sls → Mem → Prop} {Q : St → Hp → Prop} (g : GoodS K M H Φ Q) (ok : Ok K M H) (sl : Slots K (Fz M H) Δ σ) (p : Φ Δ M) : Q σ H := g Δ M σ H (Stp.refl M H) ok sl p
theorem AS.mono {P' : Post} (h : AS K W t P Δ M) (hn : ∀ Δ' M', P.nx Δ' M' → P'.nx Δ' M') (hr : ∀ d M', P.rt d M' → P'.rt d M') (hb : ∀ Δ' M', P.bk Δ' M' → P'.bk Δ' M') (hc : ∀ Δ' M', P.ct Δ' M' → P'.ct Δ' M')
    (hx : ∀ c f Δ' M', P.xr c f Δ' M' → P'.xr c f Δ' M') : AS K W t P' Δ M := fun σ H ok sl D g => h σ H ok sl D
  ⟨fun Δ' M' σ' H' s o l p => g.nx Δ' M' σ' H' s o l (hn _ _ p), fun M' H' d v s o l p => g.rt M' H' d v s o l (hr _ _ p), fun Δ' M' σ' H' s o l p => g.bk Δ' M' σ' H' s o l (hb _ _ p), fun Δ' M' σ' H' s o l p => g.ct Δ' M' σ' H' s o l (hc _ _ p),
    fun Δ' M' σ' H' cls d fs vs s' ok sl a b c p => g.xr Δ' M' σ' H' cls d fs vs s' ok sl a b c (hx _ _ _ _ p)⟩
/-- what stands in memory may be forgotten ahead of a statement -/
theorem AS.less {M' : Mem} (hl : ∀ a m, M' a = some m → M a = some m) (h : AS K W t P Δ M') : AS K W t P Δ M := fun σ H ok sl D g => h σ H (ok_less ok hl) (sl.mono (stp_less hl).same) D (g.step (stp_less hl))
theorem AE.less {M' : Mem} {Χ : Exc} {Ψ : PsiE} (hl : ∀ a m, M' a = some m → M a = some m) (h : AE K W Χ Δ te M' Ψ) : AE K W Χ Δ te M Ψ := fun σ H ok sl gx Q g => h σ H (ok_less ok hl) (sl.mono (stp_less hl).same) (gx.step (stp_less hl)) Q (g.step (stp_less hl))
/-- slots may be forgotten -/
theorem AS.weak {Δ' : Sls} (hl : Δ'.length = Δ.length) (w : ∀ (i : Nat) (d : D), Δ'[i]? = some (some d) → Δ[i]? = some (some d)) (h : AS K W t P Δ' M) : AS K W t P Δ M := fun σ H ok sl D g => h σ H ok (sl.weak hl w) D g

theorem as_next (k : P.nx Δ M) : AS K W tNext P Δ M := fun σ H ok sl D g => g.nx.here ok sl k
theorem as_brk (k : P.bk Δ M) : AS K W tBreak P Δ M := fun σ H ok sl D g => g.bk.here ok sl k
theorem as_cont (k : P.ct Δ M) : AS K W tCont P Δ M := fun σ H ok sl D g => g.ct.here ok sl k
theorem as_seq (h : AS K W t { P with nx := fun Δ' M' => AS K W u P Δ' M' } Δ M) : AS K W (tSeq t u) P Δ M := fun σ H ok sl D g =>
  h σ H ok sl { D with nx := u D } ⟨fun Δ' M' σ' H' s o l p => p σ' H' o l D (g.step s), g.rt, g.bk, g.ct, g.xr⟩
theorem as_drop (h : AE K W (fun c f M' => P.xr c f Δ M') Δ te M fun _ M1 => P.nx Δ M1) : AS K W (tDrop te) P Δ M := fun σ H ok sl D g =>
  h σ H ok sl (g.x sl) _ fun M1 H1 d v s1 ok1 r1 p => g.nx Δ M1 σ H1 s1 ok1 (sl.mono s1.same) p
theorem as_ret (h : AE K W (fun c f M' => P.xr c f Δ M') Δ te M P.rt) : AS K W (tRet te) P Δ M := fun σ H ok sl D g => h σ H ok sl (g.x sl) _ g.rt
theorem as_retN (k : P.rt .non M) : AS K W tRetN P Δ M := fun σ H ok sl D g => g.rt.here ok .non k
theorem as_if {c : TT} (h : AT K W (fun c f M' => P.xr c f Δ M') Δ c M fun b M1 => if b = true then AS K W t P Δ M1 else AS K W u P Δ M1) : AS K W (tIfS c t u) P Δ M := fun σ H ok sl D g =>
  h σ H ok sl (g.x sl) _ fun M1 H1 b s1 ok1 p => by
    cases b with
    | true =>
      rw [if_pos rfl] at p ⊢
      exact p σ H1 ok1 (sl.mono s1.same) D (g.step s1)
    | false =>
      rw [if_neg Bool.false_ne_true] at p ⊢
      exact p σ H1 ok1 (sl.mono s1.same) D (g.step s1)
theorem as_asg (h : AE K W (fun c f M' => P.xr c f Δ M') Δ te M fun d M1 => AG K W P.xr g d Δ M1 P.nx) : AS K W (tAsg te g) P Δ M := fun σ H ok sl D gp =>
  h σ H ok sl (gp.x sl) _ fun M1 H1 d v s1 ok1 r1 p => p σ H1 v ok1 (sl.mono s1.same) r1 ((gp.x sl).step s1) _ (gp.nx.step s1)
theorem as_set {i : Nat} (h : AE K W (fun c f M' => P.xr c f Δ M') Δ te M fun d M1 => P.nx (Δ.set i (some d)) M1) : AS K W (tAsg te (gName i)) P Δ M := fun σ H ok sl D gp =>
  h σ H ok sl (gp.x sl) _ fun M1 H1 d v s1 ok1 r1 p => gp.nx _ M1 _ H1 s1 ok1 ((sl.mono s1.same).set r1) p
theorem ag_name {xr : Value → List (Str × D) → Sls → Mem → Prop} {i : Nat} {d : D} {Φ : Sls → Mem → Prop} (k : Φ (Δ.set i (some d)) M) : AG K W xr (gName i) d Δ M Φ := fun σ H v ok sl r gx Q g => g.here ok (sl.set r) k
theorem ags_nil {xr : Value → List (Str × D) → Sls → Mem → Prop} {Φ : Sls → Mem → Prop} (k : Φ Δ M) : AGs K W xr gNil [] Δ M Φ := fun σ H v ok sl r gx Q g => by
  cases r
  exact ⟨rfl, g.here ok sl k⟩
theorem ags_cons {xr : Value → List (Str × D) → Sls → Mem → Prop} {Φ : Sls → Mem → Prop} {g : TG} {gs : TGs} {d : D} {ds : List D} (h : AG K W xr g d Δ M fun Δ1 M1 => AGs K W xr gs ds Δ1 M1 Φ) : AGs K W xr (gCons g gs) (d :: ds) Δ M Φ := fun σ H vs ok sl r gx Q gd => by
  cases r with
  | cons r1 r2 =>
    exact ⟨_, _, rfl, h σ H _ ok sl r1 (gx Δ M σ H (Stp.refl M H) ok sl) _ fun Δ1 M1 σ1 H1 s1 ok1 sl1 p1 => p1 σ1 H1 _ ok1 sl1 (RepL.mono s1.same _ _ r2) (fun Δ' M' σ' H' s' o' l' => gx Δ' M' σ' H' (s1.trans s') o' l') Q (gd.step s1)⟩
/-- (a, b, ..) = a tuple -/
theorem ag_tup {xr : Value → List (Str × D) → Sls → Mem → Prop} {Φ : Sls → Mem → Prop} {n : Nat} {gs : TGs} {ds : List D} (hx : ∀ c f Δ' M', ¬ xr c f Δ' M') (hn : ds.length = n) (h : AGs K W xr gs ds Δ M Φ) : AG K W xr (gTup K n gs) (.tup ds) Δ M Φ := fun σ H v ok sl r gx Q g => by
  cases r with
  | tup s r =>
    exact ⟨_, _, rfl, sqT_mono fz_sub s, by rw [← r.length]; exact hn, h σ H _ ok sl r (fun Δ' M' σ' H' s' o' l' => fun _ _ _ _ _ _ _ _ _ _ _ p => (hx _ _ _ _ p).elim) Q g⟩
/-- xs[i] = v, of a list that may change -/
theorem ag_sub {xr : Value → List (Str × D) → Sls → Mem → Prop} {Φ : Sls → Mem → Prop} {to ti : TE} {d : D} (h : AE K W (fun c f M' => xr c f Δ M') Δ to M fun o M1 => AE K W (fun c f M' => xr c f Δ M') Δ ti M1 fun i M2 =>
    ∃ p ds k j, o = .ref p ∧ i = .int k ∧ M2 p = some (.lst ds) ∧ ixN ds.length k = some j ∧ Φ Δ (M2.set p (.lst (ds.set j d)))) : AG K W xr (gSub to ti rSetL) d Δ M Φ := fun σ H v ok sl r gx Q g =>
  h σ H ok sl gx _ fun M1 H1 o ov s1 ok1 r1 h1 => h1 σ H1 ok1 (sl.mono s1.same) (gx.step s1) _ fun M2 H2 i iv s2 ok2 r2 ⟨p, ds, k, j, e1, e2, hm, hj, k2⟩ => by
    subst e1 e2
    cases r1; cases r2
    obtain ⟨vs, hp, rl⟩ := ok2 p _ hm
    have s12 := s1.trans s2
    have s3 : Stp M2 H2 (M2.set p (.lst (ds.set j d))) (upd H2 p (.lst (vs.set j v))) := stp_mut hm
    refine ⟨p, vs, k, j, rfl, rfl, hp, by rw [← rl.length]; exact hj, ?_⟩
    exact g Δ _ σ _ (s12.trans s3) (ok_set ok2 s3 ⟨_, upd_same, RepL.mono s3.same _ _ (rl.set (Rep.mono s12.same _ _ r))⟩) (sl.mono (s12.trans s3).same) k2
/-- a, b = x, y -/
theorem as_par {i j : Nat} {ta : TA} (h : AA K W (fun c f M' => P.xr c f Δ M') Δ ta M fun xs M1 => ∃ x y, xs = [x, y] ∧ P.nx ((Δ.set i (some x)).set j (some y)) M1) : AS K W (tPar i j ta) P Δ M := fun σ H ok sl D gp =>
  h σ H ok sl (gp.x sl) _ fun M1 H1 xs vs s1 ok1 r1 ⟨x, y, e, p⟩ => by
    subst e
    cases r1 with
    | cons r1 r2 =>
      cases r2 with
      | cons r2 r3 =>
        cases r3
        exact ⟨_, _, rfl, gp.nx _ M1 _ H1 s1 ok1 (((sl.mono s1.same).set r1).set r2) p⟩
theorem as_par3 {i j l : Nat} {ta : TA} (h : AA K W (fun c f M' => P.xr c f Δ M') Δ ta M fun xs M1 => ∃ x y z, xs = [x, y, z] ∧ P.nx (((Δ.set i (some x)).set j (some y)).set l (some z)) M1) : AS K W (tPar3 i j l ta) P Δ M := fun σ H ok sl D gp =>
  h σ H ok sl (gp.x sl) _ fun M1 H1 xs vs s1 ok1 r1 ⟨x, y, z, e, p⟩ => by
    subst e
    cases r1 with
    | cons r1 r2 =>
      cases r2 with
      | cons r2 r3 =>
        cases r3 with
        | cons r3 r4 =>
          cases r4
          exact ⟨_, _, _, rfl, gp.nx _ M1 _ H1 s1 ok1 ((((sl.mono s1.same).set r1).set r2).set r3) p⟩
/-- name op= e, ints -/
theorem as_aug {i : Nat} {f : Int → Int → Int} {a : Int} (ha : Δ[i]? = some (some (.int a))) (h : AE K W (fun c f M' => P.xr c f Δ M') Δ te M fun d M1 => ∃ b, d = .int b ∧ P.nx (Δ.set i (some (.int (f a b)))) M1) : AS K W (tAug i te (ipI f)) P Δ M := fun σ H ok sl D gp => by
  obtain ⟨v, e, r⟩ := sl.get i _ ha
  cases r
  exact ⟨_, e, h σ H ok sl (gp.x sl) _ fun M1 H1 d v s1 ok1 r1 ⟨b, eb, p⟩ => by
    subst eb
    cases r1
    exact ⟨a, b, rfl, rfl, gp.nx _ M1 _ H1 s1 ok1 ((sl.mono s1.same).set (.int _)) p⟩⟩

/-! ### while, for -/
theorem as_while {c : TT} (I : Nat → Sls → Mem → Prop) (m0 : Nat) (h0 : I m0 Δ M)
    (hs : ∀ m Δ' M', I m Δ' M' → AT K W (fun c f M2 => P.xr c f Δ' M2) Δ' c M' fun b M1 => if b = true then AS K W t { P with nx := fun Δ2 M2 => ∃ m', m' < m ∧ I m' Δ2 M2, ct := fun Δ2 M2 => ∃ m', m' < m ∧ I m' Δ2 M2, bk := P.nx } Δ' M1 else P.nx Δ' M1) :
    AS K W (tWhile c t) P Δ M := fun σ H ok sl D gp => by
  refine ⟨fun m σ' H' => ∃ Δ' M', Stp M H M' H' ∧ Ok K M' H' ∧ Slots K (Fz M' H') Δ' σ' ∧ I m Δ' M', ⟨m0, Δ, M, Stp.refl M H, ok, sl, h0⟩, ?_⟩
  rintro m σ1 H1 ⟨Δ1, M1, s1, ok1, sl1, i1⟩
  refine hs m Δ1 M1 i1 σ1 H1 ok1 sl1 ((gp.step s1).x sl1) _ fun M2 H2 b s2 ok2 p => ?_
  have s12 := s1.trans s2
  cases b with
  | false =>
    rw [if_neg Bool.false_ne_true] at p ⊢
    exact gp.nx Δ1 M2 σ1 H2 s12 ok2 (sl1.mono s2.same) p
  | true =>
    rw [if_pos rfl] at p ⊢
    refine ⟨fun σ' H' => ∃ m' Δ' M', m' < m ∧ Stp M H M' H' ∧ Ok K M' H' ∧ Slots K (Fz M' H') Δ' σ' ∧ I m' Δ' M', fun σ' H' ⟨m', Δ', M', l, q⟩ => ⟨m', l, Δ', M', q⟩, ?_⟩
    refine p σ1 H2 ok2 (sl1.mono s2.same) _ ⟨?_, gp.rt.step s12, gp.nx.step s12, ?_, (gp.step s12).xr⟩
    · intro Δ' M' σ' H' s' o' l' ⟨m', lt, q⟩
      exact ⟨m', Δ', M', lt, s12.trans s', o', l', q⟩
    · intro Δ' M' σ' H' s' o' l' ⟨m', lt, q⟩
      exact ⟨m', Δ', M', lt, s12.trans s', o', l', q⟩

/-- what is walked gives these, one after another, whatever the turns do -/
structure WalkOk (K : PySem.W.Frag) (M : Mem) (H : Hp) (J : It) (xs : List D) : Prop where
  stop : ∀ M' H', Stp M H M' H' → Ok K M' H' → J.stop xs.length H'
  go : ∀ M' H' i, Stp M H M' H' → Ok K M' H' → i < xs.length → J.go i H'
  yld : ∀ M' H' i v H'', Stp M H M' H' → Ok K M' H' → i < xs.length → J.yld i H' v H'' → ∃ d, xs[i]? = some d ∧ Stp M' H' M' H'' ∧ Ok K M' H'' ∧ Rep K (Fz M' H'') d v
def AI (K : PySem.W.Frag) (W : WX) (Χ : Exc) (Δ : Sls) (wi : TI) (M : Mem) (Φ : List D → Mem → Prop) : Prop :=
  ∀ σ H, Ok K M H → Slots K (Fz M H) Δ σ → GoodX K W M H σ Χ → ∀ R : It → Hp → Prop, (∀ M' H' J xs, Stp M H M' H' → Ok K M' H' → WalkOk K M' H' J xs → Φ xs M' → R J H') → wi σ H R
theorem as_for {wi : TI} (h : AI K W (fun c f M' => P.xr c f Δ M') Δ wi M fun xs M1 => ∃ I : Nat → Sls → Mem → Prop, I 0 Δ M1 ∧
    (∀ i d Δ' M', xs[i]? = some d → I i Δ' M' → AG K W P.xr g d Δ' M' fun Δ2 M2 => AS K W t { P with nx := I (i + 1), ct := I (i + 1), bk := P.nx } Δ2 M2) ∧ (∀ Δ' M', I xs.length Δ' M' → P.nx Δ' M')) :
    AS K W (tFor wi g t) P Δ M := fun σ H ok sl D gp =>
  h σ H ok sl (gp.x sl) _ fun M1 H1 J xs s1 ok1 w ⟨I, i0, hs, hd⟩ => by
    refine ⟨fun i m σ' H' => m = xs.length - i ∧ i ≤ xs.length ∧ ∃ Δ' M', Stp M1 H1 M' H' ∧ Ok K M' H' ∧ Slots K (Fz M' H') Δ' σ' ∧ I i Δ' M', ⟨_, rfl, Nat.zero_le _, Δ, M1, Stp.refl M1 H1, ok1, sl.mono s1.same, i0⟩, ?_⟩
    rintro i m σ2 H2 ⟨rfl, hi, Δ2, M2, s2, ok2, sl2, i2⟩
    have s12 := s1.trans s2
    by_cases hlt : i < xs.length
    · refine .inr ⟨w.go M2 H2 i s2 ok2 hlt, fun σ' H' => i + 1 ≤ xs.length ∧ ∃ Δ' M', Stp M1 H1 M' H' ∧ Ok K M' H' ∧ Slots K (Fz M' H') Δ' σ' ∧ I (i + 1) Δ' M', fun σ' H' q => ⟨xs.length - (i + 1), by omega, rfl, q⟩, fun x H3 y => ?_⟩
      obtain ⟨d, hx, s3, ok3, r3⟩ := w.yld M2 H2 i x H3 s2 ok2 hlt y
      refine hs i d Δ2 M2 hx i2 σ2 H3 x ok3 (sl2.mono s3.same) r3 (((gp.step s12).x sl2).step s3) _ fun Δ4 M4 σ4 H4 s4 ok4 sl4 p4 => ?_
      have s14 := (s12.trans s3).trans s4
      have s24 := (s2.trans s3).trans s4
      refine p4 σ4 H4 ok4 sl4 _ ⟨?_, gp.rt.step s14, gp.nx.step s14, ?_, (gp.step s14).xr⟩
      · intro Δ' M' σ' H' s' o' l' q
        exact ⟨hlt, Δ', M', s24.trans s', o', l', q⟩
      · intro Δ' M' σ' H' s' o' l' q
        exact ⟨hlt, Δ', M', s24.trans s', o', l', q⟩
    · have e : i = xs.length := by omega
      subst e
      exact .inl ⟨w.stop M2 H2 s2 ok2, gp.nx Δ2 M2 σ2 H2 s12 ok2 sl2 (hd Δ2 M2 i2)⟩
variable {Χ : Exc}
theorem ai_tup {tl : TE} {Φ : List D → Mem → Prop} (h : AE K W Χ Δ tl M fun d M1 => ∃ xs, d = .tup xs ∧ Φ xs M1) : AI K W Χ Δ (iTup K tl) M Φ := fun σ H ok sl gx R q =>
  h σ H ok sl gx _ fun M1 H1 d v s1 ok1 r ⟨xs, e, p⟩ => by
    subst e
    cases r with
    | tup s r =>
      rename_i a vs
      have s' : ∀ {M' H'}, Stp M1 H1 M' H' → SqT K H' a vs := fun st => sqT_mono fz_sub (sqT_mono st.same s)
      refine ⟨a, rfl, ⟨vs, s' (Stp.refl _ _)⟩, q M1 H1 _ xs s1 ok1 ⟨fun M' H' st _ => ⟨vs, s' st, by rw [r.length]; exact Nat.le_refl _⟩, fun M' H' i st _ hi => ?_, fun M' H' i v H'' st ok' hi y => ?_⟩ p⟩
      · exact ⟨vs, vs[i]'(by rw [← r.length]; exact hi), s' st, by simp⟩
      · obtain ⟨e, y⟩ := y
        subst e
        have hv := y vs (s' st)
        obtain ⟨d, hd, rd⟩ := r.getV hv
        exact ⟨d, hd, Stp.refl _ _, ok', Rep.mono st.same _ _ rd⟩
theorem ai_lst {tl : TE} {Φ : List D → Mem → Prop} (h : AE K W Χ Δ tl M fun d M1 => ∃ xs, d = .lst xs ∧ Φ xs M1) : AI K W Χ Δ (iList K tl) M Φ := fun σ H ok sl gx R q =>
  h σ H ok sl gx _ fun M1 H1 d v s1 ok1 r ⟨xs, e, p⟩ => by
    subst e
    cases r with
    | lst s r =>
      rename_i a vs
      have s' : ∀ {M' H'}, Stp M1 H1 M' H' → SqL K H' a vs := fun st => sqL_mono fz_sub (sqL_mono st.same s)
      refine ⟨a, rfl, ⟨vs, s' (Stp.refl _ _)⟩, q M1 H1 _ xs s1 ok1 ⟨fun M' H' st _ => ⟨vs, s' st, by rw [r.length]; exact Nat.le_refl _⟩, fun M' H' i st _ hi => ?_, fun M' H' i v H'' st ok' hi y => ?_⟩ p⟩
      · exact ⟨vs, vs[i]'(by rw [← r.length]; exact hi), s' st, by simp⟩
      · obtain ⟨e, y⟩ := y
        subst e
        have hv := y vs (s' st)
        obtain ⟨d, hd, rd⟩ := r.getV hv
        exact ⟨d, hd, Stp.refl _ _, ok', Rep.mono st.same _ _ rd⟩
/-- lo, lo + 1, .. -/
def rngD (lo : Int) (n : Nat) : List D := (List.range n).map fun (i : Nat) => D.int (lo + (i : Int))
theorem rngD_length (lo : Int) (n : Nat) : (rngD lo n).length = n := by simp [rngD]
theorem rngD_get {lo : Int} {n i : Nat} {d : D} (h : (rngD lo n)[i]? = some d) : i < n ∧ d = .int (lo + (i : Int)) := by
  unfold rngD at h
  rw [List.getElem?_map] at h
  by_cases hi : i < n
  · rw [List.getElem?_range hi] at h
    exact ⟨hi, by simpa using h.symm⟩
  · rw [List.getElem?_eq_none (by simpa using hi)] at h
    cases h
theorem walk_rng {M : Mem} {H : Hp} (lo : Int) (n : Nat) : WalkOk K M H (Itr lo n) (rngD lo n) := ⟨fun M' H' st _ => by
  rw [rngD_length]
  exact Nat.le_refl n, fun M' H' i st _ hi => by
  rw [rngD_length] at hi
  exact hi, fun M' H' i v H'' st ok' hi y => by
  rw [rngD_length] at hi
  obtain ⟨e, e2⟩ := y
  subst e e2
  refine ⟨.int (lo + (i : Int)), ?_, Stp.refl _ _, ok', .int _⟩
  unfold rngD
  rw [List.getElem?_map, List.getElem?_range hi]
  rfl⟩
theorem ai_rng1 {ta : TA} {Φ : List D → Mem → Prop} (h : AA K W Χ Δ ta M fun ds M1 => ∃ n : Int, ds = [.int n] ∧ (-1000000 ≤ n ∧ n ≤ 1000000) ∧ Φ (rngD 0 n.toNat) M1) : AI K W Χ Δ (iRng1 ta) M Φ := fun σ H ok sl gx R q =>
  h σ H ok sl gx _ fun M1 H1 ds vs s1 ok1 r ⟨n, e, hn, p⟩ => by
    subst e
    cases r with
    | cons r1 r2 =>
      cases r2
      cases r1
      exact ⟨n, rfl, by omega, by omega, q M1 H1 _ _ s1 ok1 (walk_rng 0 n.toNat) p⟩
theorem ai_rng2 {ta : TA} {Φ : List D → Mem → Prop} (h : AA K W Χ Δ ta M fun ds M1 => ∃ m n : Int, ds = [.int m, .int n] ∧ (-1000000 ≤ m ∧ m ≤ 1000000 ∧ -1000000 ≤ n ∧ n ≤ 1000000) ∧ Φ (rngD m (n - m).toNat) M1) : AI K W Χ Δ (iRng2 ta) M Φ := fun σ H ok sl gx R q =>
  h σ H ok sl gx _ fun M1 H1 ds vs s1 ok1 r ⟨m, n, e, hn, p⟩ => by
    subst e
    cases r with
    | cons r1 r2 =>
      cases r2 with
      | cons r2 r3 =>
        cases r3
        cases r1
        cases r2
        exact ⟨m, n, rfl, by omega, q M1 H1 _ _ s1 ok1 (walk_rng m (n - m).toNat) p⟩
/-- zip of two tuples -/
theorem ai_zipT {ta : TA} {Φ : List D → Mem → Prop} (h : AA K W Χ Δ ta M fun ds M1 => ∃ xs ys : List D, ds = [.tup xs, .tup ys] ∧ xs.length = ys.length ∧ Φ ((xs.zip ys).map fun p => .tup [p.1, p.2]) M1) : AI K W Χ Δ (iZipA K ta) M Φ := fun σ H ok sl gx R q =>
  h σ H ok sl gx _ fun M1 H1 ds vs s1 ok1 r ⟨xs, ys, e, hl, p⟩ => by
    subst e
    cases r with
    | cons r1 r2 =>
      cases r2 with
      | cons r2 r3 =>
        cases r3
        cases r1 with
        | tup sa ra =>
          cases r2 with
          | tup sb rb =>
            rename_i a va b vb
            have sa' : ∀ {M' H'}, Stp M1 H1 M' H' → SqT K H' a va := fun st => sqT_mono fz_sub (sqT_mono st.same sa)
            have sb' : ∀ {M' H'}, Stp M1 H1 M' H' → SqT K H' b vb := fun st => sqT_mono fz_sub (sqT_mono st.same sb)
            have la := ra.length
            have lb := rb.length
            have lz : ((xs.zip ys).map fun p => D.tup [p.1, p.2]).length = va.length := by rw [List.length_map, List.length_zip]; omega
            refine ⟨a, b, va, vb, rfl, .inr ⟨sa' (Stp.refl _ _), sb' (Stp.refl _ _), q M1 H1 _ _ s1 ok1 ⟨fun M' H' st _ => ⟨va, vb, sa' st, sb' st, .inl (by rw [lz]; exact Nat.le_refl _)⟩, fun M' H' i st _ hi => ?_, fun M' H' i v H'' st ok' hi y => ?_⟩ p⟩⟩
            · rw [lz] at hi
              exact ⟨va, vb, va[i], vb[i]'(by omega), sa' st, sb' st, by simp, by simp⟩
            · obtain ⟨T, x, y', e1, hT, e2, y1, y2⟩ := y
              subst e1 e2
              obtain ⟨d1, hd1, rd1⟩ := ra.getV (y1 va (sa' st))
              obtain ⟨d2, hd2, rd2⟩ := rb.getV (y2 vb (sb' st))
              have s2 := stp_new (M := M') (H := H') (o := .tup [x, y']) hT
              refine ⟨.tup [d1, d2], ?_, s2, ok_new ok' hT, .tup (SqT.of (fz_of (ok'.fresh hT) upd_same)) (.cons (Rep.mono (st.trans s2).same _ _ rd1) (.cons (Rep.mono (st.trans s2).same _ _ rd2) .nil))⟩
              rw [List.getElem?_map, (List.getElem?_zip_eq_some (z := (d1, d2))).mpr ⟨hd1, hd2⟩]
              rfl
end
end T2
namespace T2
open PySem L2 RZ

/-- no exception is wished for -/
abbrev W0 : WX := fun _ _ _ _ => False
abbrev X0 : Exc := fun _ _ _ => False
theorem goodX0 {K : PySem.W.Frag} {M : Mem} {H : Hp} {σ : St} : GoodX K W0 M H σ X0 := fun _ _ _ _ _ _ _ _ _ _ _ p => p

section
variable {K : PySem.W.Frag} {W : WX} {M M1 : Mem} {H H1 : Hp} {P : Post} {Dd : Ends} {Δ : Sls} {σ : St} {Χ : Exc} {Ψ : PsiE}

/-! ### comprehensions -/
def wipeD (Δ : Sls) : List Nat → Sls
  | [] => Δ
  | i :: is => (wipeD Δ is).set i none
theorem slots_gone {F : Hp} {i : Nat} (sl : Slots K F Δ σ) : Slots K F (Δ.set i none) (σ.set i none) := by
  refine ⟨by simp [sl.len], fun j d h => ?_⟩
  by_cases q : j = i
  · subst q
    by_cases hl : j < Δ.length
    · rw [List.getElem?_set_self hl] at h
      cases h
    · rw [List.getElem?_eq_none (by simpa using hl)] at h
      cases h
  · rw [List.getElem?_set_ne (Ne.symm q)] at h ⊢
    exact sl.get j d h
theorem slots_wipe {F : Hp} : ∀ {is : List Nat} {Δ : Sls} {σ : St}, Slots K F Δ σ → Slots K F (wipeD Δ is) (wipe σ is)
  | [], _, _, h => h
  | i :: is, Δ, σ, h => by
    show Slots K F ((wipeD Δ is).set i none) ((wipe σ is).set i none)
    exact slots_gone (slots_wipe h)
theorem wipe_in {σ : St} {i : Nat} : ∀ {vs : List Nat}, i ∈ vs → (wipe σ vs)[i]? = if i < σ.length then some none else none
  | [], h => by cases h
  | v :: vs, h => by
    show ((wipe σ vs).set v none)[i]? = _
    have hl := wipe_length σ vs
    by_cases q : v = i
    · subst q
      by_cases hv : v < σ.length
      · rw [List.getElem?_set_self (by rw [hl]; exact hv), if_pos hv]
      · rw [List.getElem?_eq_none (by rw [List.length_set, hl]; omega), if_neg hv]
    · have h' : i ∈ vs := by
        rcases List.mem_cons.mp h with e | e
        · exact absurd e.symm q
        · exact e
      rw [List.getElem?_set_ne q]
      exact wipe_in h'
theorem wipe_idem (σ : St) (vs : List Nat) : wipe (wipe σ vs) vs = wipe σ vs := by
  refine List.ext_getElem? fun i => ?_
  by_cases h : i ∈ vs
  · rw [wipe_in h, wipe_in h, wipe_length]
  · rw [wipe_out h]
/-- a target within a comprehension: it stores names among vs alone -/
def AGc (K : PySem.W.Frag) (g : TG) (vs : List Nat) (d : D) (Δ : Sls) (M : Mem) (Φ : Sls → Mem → Prop) : Prop :=
  ∀ σ H v, Ok K M H → Slots K (Fz M H) Δ σ → Rep K (Fz M H) d v → ∀ Q : St → Hp → Prop, (∀ Δ' M' σ' H', Stp M H M' H' → Ok K M' H' → Slots K (Fz M' H') Δ' σ' → wipe σ' vs = wipe σ vs → Φ Δ' M' → Q σ' H') → g v σ H Q
def AGcs (K : PySem.W.Frag) (g : TGs) (vs : List Nat) (ds : List D) (Δ : Sls) (M : Mem) (Φ : Sls → Mem → Prop) : Prop :=
  ∀ σ H us, Ok K M H → Slots K (Fz M H) Δ σ → RepL K (Fz M H) ds us → ∀ Q : St → Hp → Prop, (∀ Δ' M' σ' H', Stp M H M' H' → Ok K M' H' → Slots K (Fz M' H') Δ' σ' → wipe σ' vs = wipe σ vs → Φ Δ' M' → Q σ' H') → g us σ H Q
theorem wipe_set {i : Nat} {x : Option V} {vs : List Nat} {σ : St} (h : i ∈ vs) : wipe (σ.set i x) vs = wipe σ vs := by
  refine List.ext_getElem? fun j => ?_
  by_cases q : j ∈ vs
  · rw [wipe_in q, wipe_in q, List.length_set]
  · rw [wipe_out q, wipe_out q, List.getElem?_set_ne (fun e => q (by rw [← e]; exact h))]
theorem agc_name {i : Nat} {vs : List Nat} {d : D} {Φ : Sls → Mem → Prop} (hi : i ∈ vs) (k : Φ (Δ.set i (some d)) M) : AGc K (gName i) vs d Δ M Φ := fun σ H v ok sl r Q g =>
  g _ M _ H (Stp.refl M H) ok (sl.set r) (wipe_set (σ := σ) hi) k
theorem agcs_nil {vs : List Nat} {Φ : Sls → Mem → Prop} (k : Φ Δ M) : AGcs K gNil vs [] Δ M Φ := fun σ H v ok sl r Q g => by
  cases r
  exact ⟨rfl, g _ M _ H (Stp.refl M H) ok sl rfl k⟩
theorem agcs_cons {vs : List Nat} {g : TG} {gs : TGs} {d : D} {ds : List D} {Φ : Sls → Mem → Prop} (h : AGc K g vs d Δ M fun Δ1 M1 => AGcs K gs vs ds Δ1 M1 Φ) : AGcs K (gCons g gs) vs (d :: ds) Δ M Φ := fun σ H us ok sl r Q gd => by
  cases r with
  | cons r1 r2 =>
    exact ⟨_, _, rfl, h σ H _ ok sl r1 _ fun Δ1 M1 σ1 H1 s1 ok1 sl1 w1 p1 => p1 σ1 H1 _ ok1 sl1 (RepL.mono s1.same _ _ r2) Q fun Δ' M' σ' H' s' o' l' w' p' => gd Δ' M' σ' H' (s1.trans s') o' l' (w'.trans w1) p'⟩
theorem agc_tup {vs : List Nat} {n : Nat} {gs : TGs} {ds : List D} {Φ : Sls → Mem → Prop} (hn : ds.length = n) (h : AGcs K gs vs ds Δ M Φ) : AGc K (gTup K n gs) vs (.tup ds) Δ M Φ := fun σ H v ok sl r Q g => by
  cases r with
  | tup s r => exact ⟨_, _, rfl, sqT_mono fz_sub s, by rw [← r.length]; exact hn, h σ H _ ok sl r Q g⟩

/-- [elt for target in iter if ..]: I by the turn, what is made so far, the memory (without the new list); D: the new list's place -/
theorem ae_lcG {wi : TI} {g : TG} {tt : TT} {te : TE} {vs : List Nat}
    (h : AI K W Χ Δ wi M fun xs M1 => xs.length ≤ 100000 ∧ ∃ I : Nat → List D → Mem → Prop, I 0 [] M1 ∧
      (∀ i d acc M' p, xs[i]? = some d → I i acc M' → M' p = none → acc.length ≤ i → AGc K g vs d (wipeD Δ vs) (M'.set p (.lst acc)) fun Δ2 M2 => AT K W0 X0 Δ2 tt M2 fun b M3 =>
        if b = true then AE K W0 X0 Δ2 te M3 fun y M4 => ∃ M5, M4 = M5.set p (.lst acc) ∧ M5 p = none ∧ I (i + 1) (acc ++ [y]) M5
        else ∃ M5, M3 = M5.set p (.lst acc) ∧ M5 p = none ∧ I (i + 1) acc M5) ∧
      (∀ acc M' p, I xs.length acc M' → M' p = none → Ψ (.ref p) (M'.set p (.lst acc)))) : AE K W Χ Δ (tLc wi g tt te vs) M Ψ := fun σ H ok sl gx Q gd =>
  h σ H ok sl gx _ fun M1 H1 J xs s1 ok1 w ⟨hx, I, i0, hs, hd⟩ => fun p hp => by
    have hl : (sizeLine : Nat) = 16777216 := sizeLine_eq
    -- the state between two turns
    let T : Nat → Hp → Prop := fun i H' => i ≤ xs.length ∧ ∃ M' acc, Stp M1 H1 M' H' ∧ M' p = none ∧ Ok K (M'.set p (.lst acc)) H' ∧ acc.length ≤ i ∧ I i acc M'
    have st0 : ∀ {M' : Mem} {H' : Hp} {acc : List D}, Stp M1 H1 M' H' → Stp M1 H1 (M'.set p (.lst acc)) H' := fun {M' H' acc} st a o m e => by
      obtain ⟨m', e'⟩ := st a o m e
      exact ⟨by rw [Mem.set_ne (ne_of_none e hp)]; exact m', e'⟩
    refine ⟨fun i m H' => m = xs.length - i ∧ T i H', ⟨_, rfl, Nat.zero_le _, M1, [], stp_new hp, ok1.fresh hp, ?_, Nat.le_refl _, i0⟩, ?_⟩
    · exact ok_set ok1 (stp_newM hp) ⟨[], upd_same, .nil⟩
    · rintro i m H2 ⟨rfl, hi, M2, acc, s2, m2, ok2, la, i2⟩
      by_cases hlt : i < xs.length
      · refine .inr ⟨w.go _ H2 i (st0 s2) ok2 hlt, T (i + 1), fun H' q => ⟨xs.length - (i + 1), by omega, rfl, q⟩, fun x H3 y => ?_⟩
        obtain ⟨d, hxd, s3, ok3, r3⟩ := w.yld _ H2 i x H3 (st0 s2) ok2 hlt y
        have s13 := (st0 (acc := acc) s2).trans s3
        refine hs i d acc M2 p hxd i2 m2 la (wipe σ vs) H3 x ok3 (slots_wipe (sl.mono (s1.trans s13).same)) r3 _ fun Δ4 M4 σ4 H4 s4 ok4 sl4 w4 p4 => ⟨?_, ?_⟩
        · rw [w4]
          exact wipe_idem σ vs
        · refine p4 σ4 H4 ok4 sl4 goodX0 _ fun M5 H5 b s5 ok5 p5 => ?_
          have s25 := (s3.trans s4).trans s5
          have back : ∀ {M6 : Mem} {H6 : Hp}, Stp (M2.set p (.lst acc)) H2 (M6.set p (.lst acc)) H6 → M6 p = none → Stp M1 H1 M6 H6 := fun {M6 H6} st m6 a o m e => by
            obtain ⟨m', e'⟩ := s2 a o m e
            have n := ne_of_none e hp
            obtain ⟨m'', e''⟩ := st a o (by rw [Mem.set_ne n]; exact m') e'
            rw [Mem.set_ne n] at m''
            exact ⟨m'', e''⟩
          cases b with
          | false =>
            rw [if_neg Bool.false_ne_true] at p5 ⊢
            obtain ⟨M6, e6, m6, i6⟩ := p5
            subst e6
            exact ⟨hlt, M6, acc, back s25 m6, m6, ok5, by omega, i6⟩
          | true =>
            rw [if_pos rfl] at p5 ⊢
            refine p5 σ4 H5 ok5 (sl4.mono s5.same) goodX0 _ fun M6 H6 d6 v6 s6 ok6 r6 ⟨M7, e7, m7, i7⟩ => ?_
            subst e7
            have hm : (M7.set p (.lst acc)) p = some (.lst acc) := Mem.set_same
            obtain ⟨vs6, hp6, rl6⟩ := ok6 p _ hm
            have lv := rl6.length
            refine ⟨vs6, hp6, by rw [hl]; omega, hlt, M7, acc ++ [d6], ?_, m7, ?_, by simp; omega, i7⟩
            · intro a o m e
              have n := ne_of_none e hp
              obtain ⟨m', e'⟩ := back (s25.trans s6) m7 a o m e
              exact ⟨m', by rw [upd_ne n]; exact e'⟩
            · have sm : Stp (M7.set p (.lst acc)) H6 ((M7.set p (.lst acc)).set p (.lst (acc ++ [d6]))) (upd H6 p (.lst (vs6 ++ [v6]))) := stp_mut hm
              have ok7 := ok_set ok6 sm ⟨_, upd_same, RepL.mono sm.same _ _ (rl6.append (.cons r6 .nil))⟩
              rw [Mem.set_set] at ok7
              exact ok7
      · have e : i = xs.length := by omega
        subst e
        refine .inl ⟨w.stop _ H2 (st0 s2) ok2, gd _ H2 (.ref p) (.ref p) (s1.trans (st0 s2)) ok2 (.ref p) (hd acc M2 p i2 m2)⟩
end
end T2
namespace T2
open PySem PySem.Spec PyProof.Rows L2 RZ

/-- some of a list, by places -/
def pick {α : Type} (π : List Nat) (xs : List α) : List α := π.filterMap fun i => xs[i]?
theorem Vals.pick {xs : List V} {us : List Value} (r : Vals xs us) : ∀ π : List Nat, Vals (pick π xs) (pick π us)
  | [] => .nil
  | i :: π => by
    have ih := Vals.pick r π
    unfold T2.pick at ih ⊢
    cases e : xs[i]? with
    | none =>
      have e2 : us[i]? = none := L2.Vals.none_of r e
      rw [List.filterMap_cons_none e, List.filterMap_cons_none e2]
      exact ih
    | some x =>
      obtain ⟨u, e2, ru⟩ := L2.Vals.get r e
      rw [List.filterMap_cons_some e, List.filterMap_cons_some e2]
      exact .cons ru ih
theorem RepL.pick {K : PySem.W.Frag} {F : Hp} {xs : List D} {us : List V} (r : RepL K F xs us) : ∀ π : List Nat, RepL K F (pick π xs) (pick π us)
  | [] => .nil
  | i :: π => by
    have ih := RepL.pick r π
    unfold T2.pick at ih ⊢
    cases e : xs[i]? with
    | none =>
      have e2 : us[i]? = none := by
        have h1 := List.getElem?_eq_none_iff.mp e
        have h2 := r.length
        exact List.getElem?_eq_none_iff.mpr (by omega)
      rw [List.filterMap_cons_none e, List.filterMap_cons_none e2]
      exact ih
    | some x =>
      obtain ⟨u, e2, ru⟩ := r.get e
      rw [List.filterMap_cons_some e, List.filterMap_cons_some e2]
      exact .cons ru ih

/-- a def keeps its promise wherever the repr guards are known to be none -/
structure FnG (P : Program) (w : World) (K : PySem.W.Frag) (mg : Str → Option Value) (base : Heap) (k : Nat) (f : Addr) (fd : FuncData) (ps : List Str) (sp : Sp) : Prop where
  len : ∀ vs H Q E, sp vs H Q E → vs.length = ps.length
  run : ∀ (A : Around) (outer : List Env) (s : Shared) (H : Hp) (args : Args) (us : List Value) (vs : List V) (Q : VK) (E : XK), Room k A → A.guards = some [] → Env0 P w K mg base A outer s H → BindsTo s fd args (ps.zip us) → Vals vs us →
    sp vs H Q E → codeAny (model P w) A (.call (.ref f) args) (CR (L2.CX P w) outer P w H s Q E) s
theorem FnG.mono {P : Program} {w : World} {K : PySem.W.Frag} {mg : Str → Option Value} {base : Heap} {j k : Nat} {f : Addr} {fd : FuncData} {ps : List Str} {sp : Sp} (F : FnG P w K mg base j f fd ps sp) (h : j ≤ k) : FnG P w K mg base k f fd ps sp :=
  ⟨F.len, fun A outer s H args us vs Q E r => F.run A outer s H args us vs Q E (r.mono h)⟩
/-- arguments by place and by keyword: n by place, the keywords ks, all told; π: their places in the def's order -/
def BindG (K : PySem.W.Frag) (fd : FuncData) (ps : List Str) (n : Nat) (ks : List Str) (π : List Nat) : Prop :=
  ∀ (s : Shared) (us ws : List Value), us.length = n → ws.length = ks.length → BindsTo s fd ⟨us, ks.zip ws⟩ (ps.zip (pick π (us ++ ws)))

section
variable {X : Cx} {W : WX} {k : Nat} {f C : Addr} {fd : FuncData} {ps ks : List Str} {sp : Sp} {x m : Str} {p pos apos : Pos} {e o : Expr} {es : List Expr} {ta : TE} {t tk : TA} {n : Nat} {π : List Nat} {kws : List Keyword}
def tCallG (sp : Sp) (n m : Nat) (π : List Nat) (W : WX) (t tk : TA) : TE := fun σ H Q => t σ H fun vs H1 => tk σ H1 fun zs H2 => vs.length = n ∧ zs.length = m ∧ sp (pick π (vs ++ zs)) H2 Q fun cls d H' => W cls d σ H'
def tMethG (C : Addr) (m : Str) (sp : Sp) (n l : Nat) (π : List Nat) (W : WX) (ta : TE) (t tk : TA) : TE := fun σ H Q => ta σ H fun x H1 => ∃ a dx fs, x = .ref a ∧ H1 a = some (.ins C dx fs) ∧ fs.lookup m = none ∧
  t σ H1 fun vs H2 => tk σ H2 fun zs H3 => (x :: vs).length = n ∧ zs.length = l ∧ sp (pick π ((x :: vs) ++ zs)) H3 Q fun cls d H' => W cls d σ H'
def tMakeG (C : Addr) (sp : Sp) (n l : Nat) (π : List Nat) (W : WX) (t tk : TA) : TE := fun σ H Q => t σ H fun vs H1 => tk σ H1 fun zs H2 => vs.length + 1 = n ∧ zs.length = l ∧ ∀ a dx, H2 a = none → H2 dx = none → dx ≠ a →
  sp (pick π ((.ref a :: vs) ++ zs)) (upd (upd H2 dx (.own a)) a (.ins C dx [])) (fun v H3 => v = .non ∧ Q (.ref a) H3) fun cls d H' => W cls d σ H'
theorem run_fnG {pins : List (Addr × Obj)} {σ : L2.St} {H : Hp} {s : Shared} {Q : VK} {us ws : List Value} {vs zs : List V} (F : FnG X.prog X.w X.K X.mg X.base k f fd ps sp) (hr : Room k X.A) (hg : X.A.guards = some []) (hb : BindG X.K fd ps n ks π) (tk : Takes X W)
    (I : Inv X pins σ H s) (r : Vals vs us) (rz : Vals zs ws) (hn : vs.length = n) (hm : zs.length = ks.length) (h : sp (pick π (vs ++ zs)) H Q fun cls d H' => W cls d σ H') :
    wpAny (model X.prog X.w) X.A (call (.ref f) us (ks.zip ws)) (EP X pins σ Q) X.xe s := by
  have r2 := Vals.pick (r.append rz) π
  have b := hb s us ws (r.length.symm.trans hn) (rz.length.symm.trans hm)
  refine wpAny_call (codeAny_mono (F.run X.A X.stack s H _ _ _ Q _ hr hg I.env0 b r2 h) fun res s' hq => ?_)
  match res, hq with
  | .error e, hq => exact tk e s' (XE.of_call I (fun cls d H' q => q) hq)
  | .ok (.ret u), hq => exact I.after hq
  | .ok .next, hq => exact hq.elim
  | .ok .brk, hq => exact hq.elim
  | .ok .cont, hq => exact hq.elim
theorem run_makeG {pins : List (Addr × Obj)} {σ : L2.St} {H : Hp} {s : Shared} {Q : VK} {us ws : List Value} {vs zs : List V} (Mk0 : Mk X.K C f) (F : FnG X.prog X.w X.K X.mg X.base k f fd ps sp) (hr : Room (k + 1) X.A) (hg : X.A.guards = some []) (hb : BindG X.K fd ps n ks π) (tk : Takes X W)
    (I : Inv X pins σ H s) (r : Vals vs us) (rz : Vals zs ws) (hn : vs.length + 1 = n) (hm : zs.length = ks.length)
    (h : ∀ a dx, H a = none → H dx = none → dx ≠ a → sp (pick π ((.ref a :: vs) ++ zs)) (upd (upd H dx (.own a)) a (.ins C dx [])) (fun v H3 => v = .non ∧ Q (.ref a) H3) fun cls d H' => W cls d σ H') :
    wpAny (model X.prog X.w) X.A (call (.ref C) us (ks.zip ws)) (EP X pins σ Q) X.xe s := by
  have hq := h (s.heap.objs.size + 1) s.heap.objs.size (I.hok.fresh (Nat.le_succ _)) (I.hok.fresh (Nat.le_refl _)) (Nat.ne_of_lt (Nat.lt_succ_self _))
  have J := Inv.made (C := C) I
  have r1 : Vals (V.ref (s.heap.objs.size + 1) :: vs) (Value.ref (s.heap.objs.size + 1) :: us) := .cons rfl r
  have r2 := Vals.pick (r1.append rz) π
  have b := hb { s with heap := (s.heap.push PySem.W.emptyDict).push (PySem.W.instObj C s.heap.objs.size) } (Value.ref (s.heap.objs.size + 1) :: us) ws (r1.length.symm.trans hn) (rz.length.symm.trans hm)
  have hg' : (X.A.under (.builtin "type.__call__" ⟨.ref C :: us, ks.zip ws⟩)).guards = some [] := by
    have e : (X.A.under (.builtin "type.__call__" ⟨.ref C :: us, ks.zip ws⟩)).guards = pushGuards (Code.guards (.builtin "type.__call__" ⟨.ref C :: us, ks.zip ws⟩)) X.A.guards := by
      unfold Around.under
      rfl
    rw [e, hg]
    have e2 : Code.guards (.builtin "type.__call__" ⟨.ref C :: us, ks.zip ws⟩) = [] := by
      simp [Code.guards, Code.isGuard, guardIds]
    rw [e2]
    rfl
  refine wpAny_call (make_map (f := f) I.kIn Mk0.makes Mk0.init (beq_iff_eq.mp Mk0.fn) (codeAny_mono (F.run _ X.stack _ _ _ _ _ _ _ (hr.make C us (ks.zip ws)) hg' (J.env0.make C us (ks.zip ws)) b r2 hq) fun res s' hq' => ?_))
  match res, hq' with
  | .error e, hq' => exact tk e s' (XE.of_call J (fun cls d H' q => q) hq')
  | .ok (.ret u), hq' =>
    obtain ⟨v, H', I3, rv, ev, q3⟩ := J.after hq'
    subst ev
    exact ⟨rv, V.ref (s.heap.objs.size + 1), H', I3, rfl, q3⟩
  | .ok .next, hq' => exact hq'.elim
  | .ok .brk, hq' => exact hq'.elim
  | .ok .cont, hq' => exact hq'.elim

/-! ### the calls as they are written -/
/-- f(e, .., k=v, ..) -/
theorem pg_call (F : FnG X.prog X.w X.K X.mg X.base k f fd ps sp) (hr : Room k X.A) (hg : X.A.guards = some []) (hgl : Gl X x) (hm : X.mg x = some (.ref f)) (hk : PySem.W.keepIn X.K (.ref f) = true) (hb : BindG X.K fd ps n ks π) (tkx : Takes X W)
    (ha : PA X (e :: es) t) (hkw : PK X kws tk) (hall : (backToKw pos (keywordEach kws X.env)).all (·.1.isSome) = true := by rfl) (hks : (backToKw pos (keywordEach kws X.env)).filterMap (·.1) = ks := by rfl)
    (hdb : (x == ("__debug__" : Str)) = false := by decide) (he : starEach (e :: es) X.env = (false, eval e X.env) :: starEach es X.env := by rfl)
    (hpl : ((backTo pos (starEach (e :: es) X.env)).any (·.1) || (backToKw pos (keywordEach kws X.env)).any (·.1.isNone)) = false := by rfl) :
    PE X (.Call (.Name x p) (e :: es) kws pos) (tCallG sp n ks.length π W t tk) := ⟨fun pins s σ H Q I h =>
  wpAny_Call_Name_kw (ld_glob I hgl hm (PySem.W.callWith_KW (h₀ := X.base) I.ok.mod.kin hk hall (thn (ha.run pos pins s σ H _ I h) fun us s1 ⟨vs, H1, I1, r, q⟩ =>
    thn (hkw.run pos pins s1 σ H1 _ I1 q) fun ws s2 ⟨zs, H2, I2, rz, hn, hz, q2⟩ => ⟨I2.kIn, by rw [hks]; exact run_fnG F hr hg hb tkx I2 r rz hn hz q2⟩) hpl he) hdb)⟩
/-- f(), f(k=v, ..) -/
theorem pg_call0 (F : FnG X.prog X.w X.K X.mg X.base k f fd ps sp) (hr : Room k X.A) (hg : X.A.guards = some []) (hgl : Gl X x) (hm : X.mg x = some (.ref f)) (hk : PySem.W.keepIn X.K (.ref f) = true) (hb : BindG X.K fd ps n ks π) (tkx : Takes X W)
    (hkw : PK X kws tk) (hall : (backToKw pos (keywordEach kws X.env)).all (·.1.isSome) = true := by rfl) (hks : (backToKw pos (keywordEach kws X.env)).filterMap (·.1) = ks := by rfl)
    (hdb : (x == ("__debug__" : Str)) = false := by decide) (hpl : ((backTo pos (starEach [] X.env)).any (·.1) || (backToKw pos (keywordEach kws X.env)).any (·.1.isNone)) = false := by rfl) :
    PE X (.Call (.Name x p) [] kws pos) (tCallG sp n ks.length π W tNil tk) := ⟨fun pins s σ H Q I h =>
  wpAny_Call_Name_kw (ld_glob I hgl hm (PySem.W.callWith_KW0 (h₀ := X.base) I.ok.mod.kin hk hall (thn (hkw.run pos pins s σ H _ I h) fun ws s2 ⟨zs, H2, I2, rz, hn, hz, q2⟩ =>
    ⟨I2.kIn, by rw [hks]; exact run_fnG (us := []) (vs := []) F hr hg hb tkx I2 .nil rz hn hz q2⟩) hpl) hdb)⟩
/-- C(e, .., k=v, ..) -/
theorem pg_make (Mk0 : Mk X.K C f) (F : FnG X.prog X.w X.K X.mg X.base k f fd ps sp) (hr : Room (k + 1) X.A) (hg : X.A.guards = some []) (hgl : Gl X x) (hm : X.mg x = some (.ref C)) (hb : BindG X.K fd ps n ks π) (tkx : Takes X W)
    (ha : PA X (e :: es) t) (hkw : PK X kws tk) (hall : (backToKw pos (keywordEach kws X.env)).all (·.1.isSome) = true := by rfl) (hks : (backToKw pos (keywordEach kws X.env)).filterMap (·.1) = ks := by rfl)
    (hdb : (x == ("__debug__" : Str)) = false := by decide) (he : starEach (e :: es) X.env = (false, eval e X.env) :: starEach es X.env := by rfl)
    (hpl : ((backTo pos (starEach (e :: es) X.env)).any (·.1) || (backToKw pos (keywordEach kws X.env)).any (·.1.isNone)) = false := by rfl) :
    PE X (.Call (.Name x p) (e :: es) kws pos) (tMakeG C sp n ks.length π W t tk) := ⟨fun pins s σ H Q I h =>
  wpAny_Call_Name_kw (ld_glob I hgl hm (PySem.W.callWith_KW (h₀ := X.base) I.ok.mod.kin Mk0.kp hall (thn (ha.run pos pins s σ H _ I h) fun us s1 ⟨vs, H1, I1, r, q⟩ =>
    thn (hkw.run pos pins s1 σ H1 _ I1 q) fun ws s2 ⟨zs, H2, I2, rz, hn, hz, q2⟩ => ⟨I2.kIn, by rw [hks]; exact run_makeG Mk0 F hr hg hb tkx I2 r rz hn hz q2⟩) hpl he) hdb)⟩
theorem pg_make0 (Mk0 : Mk X.K C f) (F : FnG X.prog X.w X.K X.mg X.base k f fd ps sp) (hr : Room (k + 1) X.A) (hg : X.A.guards = some []) (hgl : Gl X x) (hm : X.mg x = some (.ref C)) (hb : BindG X.K fd ps n ks π) (tkx : Takes X W)
    (hkw : PK X kws tk) (hall : (backToKw pos (keywordEach kws X.env)).all (·.1.isSome) = true := by rfl) (hks : (backToKw pos (keywordEach kws X.env)).filterMap (·.1) = ks := by rfl)
    (hdb : (x == ("__debug__" : Str)) = false := by decide) (hpl : ((backTo pos (starEach [] X.env)).any (·.1) || (backToKw pos (keywordEach kws X.env)).any (·.1.isNone)) = false := by rfl) :
    PE X (.Call (.Name x p) [] kws pos) (tMakeG C sp n ks.length π W tNil tk) := ⟨fun pins s σ H Q I h =>
  wpAny_Call_Name_kw (ld_glob I hgl hm (PySem.W.callWith_KW0 (h₀ := X.base) I.ok.mod.kin Mk0.kp hall (thn (hkw.run pos pins s σ H _ I h) fun ws s2 ⟨zs, H2, I2, rz, hn, hz, q2⟩ =>
    ⟨I2.kIn, by rw [hks]; exact run_makeG (us := []) (vs := []) Mk0 F hr hg hb tkx I2 .nil rz hn hz q2⟩) hpl) hdb)⟩
/-- o.m(e, .., k=v, ..) -/
theorem pg_meth {pl : Sem Bool} (he0 : PE X o ta) (c : Cls X.K C) (hme : Meth X.K C m f) (F : FnG X.prog X.w X.K X.mg X.base k f fd ps sp) (hr : Room k X.A) (hg : X.A.guards = some []) (hb : BindG X.K fd ps n ks π) (tkx : Takes X W)
    (ha : PA X (e :: es) t) (hkw : PK X kws tk) (hall : (backToKw pos (keywordEach kws X.env)).all (·.1.isSome) = true := by rfl) (hks : (backToKw pos (keywordEach kws X.env)).filterMap (·.1) = ks := by rfl)
    (he : starEach (e :: es) X.env = (false, eval e X.env) :: starEach es X.env := by rfl)
    (hpl : ((backTo pos (starEach (e :: es) X.env)).any (·.1) || (backToKw pos (keywordEach kws X.env)).any (·.1.isNone)) = false := by rfl)
    (ht : eval (.Call (.Attribute o m apos) (e :: es) kws pos) X.env = (do
      let ob ← eval o X.env
      standAt apos.atName
      let (g, first) ← holding [ob] (getMethod ob m pl)
      callWith pos g first (backTo pos (starEach (e :: es) X.env)) (backToKw pos (keywordEach kws X.env))) := by rfl) :
    PE X (.Call (.Attribute o m apos) (e :: es) kws pos) (tMethG C m sp n ks.length π W ta t tk) := ⟨fun pins s σ H Q I h =>
  PySem.W.methodCall_KW (pl := pl) (thn (he0.run pins s σ H _ I h) fun u s1 ⟨y, H1, I1, ry, a, dx, fs, ey, ea, l, q⟩ => by
    subst ey
    cases ry
    exact getmeth_ok I1 ea c hme l (PySem.W.callWith_KW (first := [.ref a]) (h₀ := X.base) I.ok.mod.kin hme.kp hall (thn (ha.run pos pins s1 σ H1 _ I1 q) fun us s2 ⟨vs, H2, I2, r, q2⟩ =>
      thn (hkw.run pos pins s2 σ H2 _ I2 q2) fun ws s3 ⟨zs, H3, I3, rz, hn, hz, q3⟩ => ⟨I3.kIn, by rw [hks]; exact run_fnG (us := .ref a :: us) (vs := .ref a :: vs) F hr hg hb tkx I3 (.cons rfl r) rz hn hz q3⟩) hpl he)) ht⟩
/-- o.m(), o.m(k=v, ..) -/
theorem pg_meth0 {pl : Sem Bool} (he0 : PE X o ta) (c : Cls X.K C) (hme : Meth X.K C m f) (F : FnG X.prog X.w X.K X.mg X.base k f fd ps sp) (hr : Room k X.A) (hg : X.A.guards = some []) (hb : BindG X.K fd ps n ks π) (tkx : Takes X W)
    (hkw : PK X kws tk) (hall : (backToKw pos (keywordEach kws X.env)).all (·.1.isSome) = true := by rfl) (hks : (backToKw pos (keywordEach kws X.env)).filterMap (·.1) = ks := by rfl)
    (hpl : ((backTo pos (starEach [] X.env)).any (·.1) || (backToKw pos (keywordEach kws X.env)).any (·.1.isNone)) = false := by rfl)
    (ht : eval (.Call (.Attribute o m apos) [] kws pos) X.env = (do
      let ob ← eval o X.env
      standAt apos.atName
      let (g, first) ← holding [ob] (getMethod ob m pl)
      callWith pos g first (backTo pos (starEach [] X.env)) (backToKw pos (keywordEach kws X.env))) := by rfl) :
    PE X (.Call (.Attribute o m apos) [] kws pos) (tMethG C m sp n ks.length π W ta tNil tk) := ⟨fun pins s σ H Q I h =>
  PySem.W.methodCall_KW (pl := pl) (thn (he0.run pins s σ H _ I h) fun u s1 ⟨y, H1, I1, ry, a, dx, fs, ey, ea, l, q⟩ => by
    subst ey
    cases ry
    exact getmeth_ok I1 ea c hme l (PySem.W.callWith_KW0 (first := [.ref a]) (h₀ := X.base) I.ok.mod.kin hme.kp hall
      (thn (hkw.run pos pins s1 σ H1 _ I1 q) fun ws s3 ⟨zs, H3, I3, rz, hn, hz, q3⟩ => ⟨I3.kIn, by rw [hks]; exact run_fnG (us := [.ref a]) (vs := [.ref a]) F hr hg hb tkx I3 (.cons rfl .nil) rz hn hz q3⟩) hpl)) ht⟩
end

/-! ### a def's body -/
section
variable {P : Program} {w : World} {K : PySem.W.Frag} {mg : Str → Option Value} {base : Heap}
theorem fnG_of {k : Nat} {f : Addr} {name qual : Str} {params : Arguments} {body : List Stmt} {scope : Scope} {dV kV doc pm cdv ct oc : Value} {an od : Option Addr} {osl : Array (Option Value)} {N ps : List Str} {sp : Sp}
    (lk : K.lookup f = some ⟨oc, od, .func (PySem.W.fnOf name qual params body scope dV kV doc pm an cdv ct), osl⟩) (hcd : PySem.W.codeIn K cdv qual = true) (S : FnScope N ps scope)
    (len : ∀ vs H Q E, sp vs H Q E → vs.length = ps.length)
    (hbody : ∀ (A : Around) (outer : List Env) (s : Shared) (H : Hp) (vs : List V) (Q : VK) (E : XK), Room k (A.deeper (envOfC qual scope s.heap.objs.size f cdv)) → A.guards = some [] → sp vs H Q E →
      ∃ t, PSs (cxOf (L2.CX P w) P w K mg base N qual scope f cdv A outer s H E) body t ∧ t { nx := fun _ H' => Q .non H', rt := Q } (L2.start N vs) H) :
    FnG P w K mg base (k + 1) f (PySem.W.fnOf name qual params body scope dV kV doc pm an cdv ct) ps sp where
  len := len
  run := fun A outer s H args us vs Q E room gd env bnd rel wish => by
    have heap0 : ∀ b o, base.get? b = some o → s.heap.get? b = some o := fun b o z => (env.bs b o z).1
    have written := env.mod.kin.keeps heap0
    have free := env.mod.nolimit.keeps heap0
    have many := len _ _ _ _ wish
    refine codeAny_call_function room.depth (written _ _ lk) rfl S.co S.gen rfl (PySem.W.codeRec_of written hcd) (bnd _ _ _ _ ?_)
    have par : ∀ y ∈ ps.zip us, scope.names.lookup y.1 = some .local ∨ (scope.names.lookup y.1 = some .cell ∧ ((cellsFrom (s.heap.objs.size + 1) scope.names []).lookup y.1).isSome = true) := fun y hy =>
      (S.par y.1 (List.of_mem_zip hy).1).imp id fun z => ⟨z, PySem.W.cellsFrom_some _ _ _ (.inl z)⟩
    refine wpAny_newFunctionEnv_cells S.kind par fun ev hev s1 made => ?_
    cases hev
    refine ⟨free.keeps made.toInCall.keep, codeAny_func ?_⟩
    obtain ⟨t, derives, reads⟩ := hbody A outer s H vs Q E (room.deeper _) gd wish
    have begun := inv_start (CX := L2.CX P w) (E := E) (N := N) (ps := ps) (qual := qual) (f := f) (cd := cdv) S room.hd env many rel made
    refine wpAny_mono (derives.run [] s1 (L2.start N vs) H _ begun reads) (fun fl s' ends => ?_) fun _ _ z => z
    match fl, ends with
    | .ret u, ⟨v, σ', H', J, rv, q⟩ => exact ⟨v, H', J.os, J.bare, J.base, J.hok, rv, q⟩
    | .next, ⟨σ', H', J, q⟩ => exact ⟨V.non, H', J.os, J.bare, J.base, J.hok, rfl, q⟩
    | .brk, ⟨_, _, _, q⟩ => exact q.elim
    | .cont, ⟨_, _, _, q⟩ => exact q.elim

/-- a promise over trees -/
abbrev ASp := List D → Mem → PsiE → Exc → Prop
def lift (K : PySem.W.Frag) (a : ASp) : Sp := fun vs H Q E => ∃ M ds Ψ Χ, Ok K M H ∧ RepL K (Fz M H) ds vs ∧ a ds M Ψ Χ ∧ GoodV K M H Ψ Q ∧
  ∀ M' H' cls d fs fv, Stp M H M' H' → Ok K M' H' → H' d = some (.xd fv) → M' d = none → RepF K (Fz M' H') fs fv → Χ cls fs M' → E cls (some d) H'
def startD (N : List Str) (ds : List D) : Sls := ds.map some ++ List.replicate (N.length - ds.length) none
theorem slots_start {F : Hp} {N : List Str} {ds : List D} {vs : List V} (r : RepL K F ds vs) : Slots K F (startD N ds) (L2.start N vs) := by
  have hl := r.length
  refine ⟨by unfold startD L2.start; simp [hl], fun i d h => ?_⟩
  unfold startD at h
  by_cases hi : i < ds.length
  · rw [List.getElem?_append_left (by simpa using hi), List.getElem?_map] at h
    cases e : ds[i]? with
    | none => rw [e] at h; cases h
    | some d' =>
      rw [e] at h
      have e2 : d' = d := by simpa using h
      subst e2
      obtain ⟨v, hv, rv⟩ := r.get e
      refine ⟨v, ?_, rv⟩
      unfold L2.start
      rw [List.getElem?_append_left (by rw [List.length_map, ← hl]; exact hi), List.getElem?_map, hv]
      rfl
  · rw [List.getElem?_append_right (by simpa using hi), List.getElem?_replicate] at h
    split at h <;> cases h
/-- THE RULE for a def over trees -/
theorem okG {x qual : Str} {st : Stmt} {f : Addr} {fd : FuncData} {N ps : List Str} {k : Nat} {a : ASp} (F : Fun K x qual st f fd) (S : FnScope N ps (defScope st)) (len : ∀ ds M Ψ Χ, a ds M Ψ Χ → ds.length = ps.length)
    (hbody : ∀ (cdv : Value) (A : Around) (outer : List Env) (s : Shared) (H : Hp) (E : XK), Room k (A.deeper (envOfC qual (defScope st) s.heap.objs.size f cdv)) → (A.deeper (envOfC qual (defScope st) s.heap.objs.size f cdv)).guards = some [] →
      ∃ t, PSs (cxOf (L2.CX P w) P w K mg base N qual (defScope st) f cdv A outer s H E) (defBody st) t ∧
        ∀ ds M Ψ Χ, a ds M Ψ Χ → AS K (fun cls d _ H => E cls d H) t { nx := fun _ M' => Ψ .non M', rt := Ψ, xr := fun c g _ M' => Χ c g M' } (startD N ds) M) :
    FnG P w K mg base (k + 1) f fd ps (lift K a) := by
  obtain ⟨oc, od, kV, doc, pm, an, cdv, ct, osl, e, lk, hcd⟩ := F.ex
  subst e
  refine fnG_of lk hcd S (fun vs H Q E ⟨M, ds, Ψ, Χ, _, r, h, _⟩ => r.length.symm.trans (len _ _ _ _ h)) fun A outer s H vs Q E room gd ⟨M, ds, Ψ, Χ, ok, r, h, gv, gx⟩ => ?_
  obtain ⟨t, dv, rd⟩ := hbody cdv A outer s H E room gd
  refine ⟨t, dv, rd ds M Ψ Χ h (L2.start N vs) H ok (slots_start r) _ ⟨?_, gv, ?_, ?_, ?_⟩⟩
  · exact fun Δ' M' σ' H' st' o' l' p => gv M' H' .non .non st' o' .non p
  · exact fun Δ' M' σ' H' st' o' l' p => p
  · exact fun Δ' M' σ' H' st' o' l' p => p
  · exact fun Δ' M' σ' H' cls d fs vs s' ok' sl a b c p => gx M' H' cls d fs vs s' ok' a b c p
end

/-! ### calls over trees -/
section
variable {K : PySem.W.Frag} {W : WX} {M M1 : Mem} {H H1 : Hp} {Δ : Sls} {Χ : Exc} {Ψ : PsiE} {a : ASp} {n l : Nat} {π : List Nat} {ta : TE} {t tk : TA} {C : Addr} {m : Str}
theorem ae_callG (h : AA K W Χ Δ t M fun xs M1 => AA K W Χ Δ tk M1 fun ys M2 => xs.length = n ∧ ys.length = l ∧ a (pick π (xs ++ ys)) M2 Ψ Χ) : AE K W Χ Δ (tCallG (lift K a) n l π W t tk) M Ψ := fun σ H ok sl gx Q g =>
  h σ H ok sl gx _ fun M1 H1 xs vs s1 ok1 r1 h1 => h1 σ H1 ok1 (sl.mono s1.same) (gx.step s1) _ fun M2 H2 ys zs s2 ok2 r2 ⟨hn, hl, h2⟩ =>
    ⟨r1.length.symm.trans hn, r2.length.symm.trans hl, M2, _, Ψ, Χ, ok2, ((RepL.mono s2.same _ _ r1).append r2).pick π, h2, g.step (s1.trans s2), gx.step (s1.trans s2)⟩
/-- o.m(..) of an instance that does not change -/
theorem ae_methG (h : AE K W Χ Δ ta M fun o M1 => ∃ fs, o = .obj C fs ∧ fs.lookup m = none ∧ AA K W Χ Δ t M1 fun xs M2 => AA K W Χ Δ tk M2 fun ys M3 => xs.length + 1 = n ∧ ys.length = l ∧ a (pick π ((o :: xs) ++ ys)) M3 Ψ Χ) :
    AE K W Χ Δ (tMethG C m (lift K a) n l π W ta t tk) M Ψ := fun σ H ok sl gx Q g =>
  h σ H ok sl gx _ fun M1 H1 o v s1 ok1 r1 ⟨fs, eo, hm, h1⟩ => by
    subst eo
    cases r1 with
    | obj hF rf =>
      exact ⟨_, _, _, rfl, fz_sub _ _ hF, rf.none hm, h1 σ H1 ok1 (sl.mono s1.same) (gx.step s1) _ fun M2 H2 xs vs s2 ok2 r2 h2 => h2 σ H2 ok2 (sl.mono (s1.trans s2).same) (gx.step (s1.trans s2)) _ fun M3 H3 ys zs s3 ok3 r3 ⟨hn, hl, h3⟩ =>
        ⟨by rw [List.length_cons, ← r2.length]; exact hn, r3.length.symm.trans hl, M3, _, Ψ, Χ, ok3, RepL.pick (.cons (Rep.mono (s2.trans s3).same _ _ (.obj hF rf)) ((RepL.mono s3.same _ _ r2).append r3)) π, h3, g.step ((s1.trans s2).trans s3), gx.step ((s1.trans s2).trans s3)⟩⟩
/-- .. of one that may change -/
theorem ae_methM (h : AE K W Χ Δ ta M fun o M1 => ∃ p fs, o = .ref p ∧ M1 p = some (.ins C fs) ∧ fs.lookup m = none ∧ AA K W Χ Δ t M1 fun xs M2 => AA K W Χ Δ tk M2 fun ys M3 => xs.length + 1 = n ∧ ys.length = l ∧ a (pick π ((o :: xs) ++ ys)) M3 Ψ Χ) :
    AE K W Χ Δ (tMethG C m (lift K a) n l π W ta t tk) M Ψ := fun σ H ok sl gx Q g =>
  h σ H ok sl gx _ fun M1 H1 o v s1 ok1 r1 ⟨p, fs, eo, hp, hm, h1⟩ => by
    subst eo
    cases r1
    obtain ⟨dx, vs, hH, rf⟩ := ok1 p _ hp
    exact ⟨_, _, _, rfl, hH, rf.none hm, h1 σ H1 ok1 (sl.mono s1.same) (gx.step s1) _ fun M2 H2 xs vs s2 ok2 r2 h2 => h2 σ H2 ok2 (sl.mono (s1.trans s2).same) (gx.step (s1.trans s2)) _ fun M3 H3 ys zs s3 ok3 r3 ⟨hn, hl, h3⟩ =>
        ⟨by rw [List.length_cons, ← r2.length]; exact hn, r3.length.symm.trans hl, M3, _, Ψ, Χ, ok3, RepL.pick (.cons (.ref p) ((RepL.mono s3.same _ _ r2).append r3)) π, h3, g.step ((s1.trans s2).trans s3), gx.step ((s1.trans s2).trans s3)⟩⟩
/-- C(..): a new instance at p, then its __init__ -/
theorem ae_makeG (h : AA K W Χ Δ t M fun xs M1 => AA K W Χ Δ tk M1 fun ys M2 => xs.length + 1 = n ∧ ys.length = l ∧ ∀ p, M2 p = none → a (pick π ((.ref p :: xs) ++ ys)) (M2.set p (.ins C [])) (fun d M' => d = .non ∧ Ψ (.ref p) M') Χ) :
    AE K W Χ Δ (tMakeG C (lift K a) n l π W t tk) M Ψ := fun σ H ok sl gx Q g =>
  h σ H ok sl gx _ fun M1 H1 xs vs s1 ok1 r1 h1 => h1 σ H1 ok1 (sl.mono s1.same) (gx.step s1) _ fun M2 H2 ys zs s2 ok2 r2 ⟨hn, hl, h2⟩ =>
    ⟨by rw [← r1.length]; exact hn, r2.length.symm.trans hl, fun p dx hp hdx hne => by
      have sa : Stp M2 H2 M2 (upd H2 dx (.own p)) := stp_new hdx
      have oka := ok_new (o := .own p) ok2 hdx
      have hp' : (upd H2 dx (.own p)) p = none := by rw [upd_ne (Ne.symm hne)]; exact hp
      have sb : Stp M2 (upd H2 dx (.own p)) (M2.set p (.ins C [])) (upd (upd H2 dx (.own p)) p (.ins C dx [])) := stp_newM hp'
      have okb : Ok K (M2.set p (.ins C [])) (upd (upd H2 dx (.own p)) p (.ins C dx [])) := ok_set oka sb ⟨dx, [], upd_same, .nil⟩
      have s12 := s1.trans s2
      have sab := sa.trans sb
      refine ⟨M2.set p (.ins C []), _, _, Χ, okb, RepL.pick (.cons (.ref p) ((RepL.mono (s2.trans sab).same _ _ r1).append (RepL.mono sab.same _ _ r2))) π, h2 p (ok2.fresh hp), ?_, gx.step (s12.trans sab)⟩
      intro M' H' d v s' ok' r' ⟨e, q⟩
      subst e
      cases r'
      exact ⟨rfl, g M' H' (.ref p) (.ref p) ((s12.trans sab).trans s') ok' (.ref p) q⟩⟩
end
end T2
namespace T2
open PySem PySem.Spec PyProof.Rows L2 RZ

section
variable {K : PySem.W.Frag} {W : WX} {M M1 : Mem} {H H1 : Hp} {P : Post} {Δ : Sls} {Χ : Exc} {Ψ : PsiE} {ds : List D} {p : Addr}

/-! ### len, tuple, list, int, abs, sum, all, any, sorted -/
abbrev cLen (K : PySem.W.Frag) : List V → Hp → VK → Prop := fun xs H Q => ∃ x n, xs = [x] ∧ LenV K x H n ∧ Q (.int n) H
theorem arl_lenT (k : Ψ (.int ds.length) M) : ARL K (cLen K) [.tup ds] M Ψ := fun H vs ok r Q q => by
  cases r with
  | cons r1 r2 =>
    cases r2
    cases r1 with
    | tup s rl => exact ⟨_, _, rfl, .inr ⟨_, sqT_mono fz_sub s, rfl⟩, q.here ok (by rw [← rl.length]; exact .int _) k⟩
theorem arl_lenL (k : Ψ (.int ds.length) M) : ARL K (cLen K) [.lst ds] M Ψ := fun H vs ok r Q q => by
  cases r with
  | cons r1 r2 =>
    cases r2
    cases r1 with
    | lst s rl => exact ⟨_, _, rfl, .inl ⟨_, sqL_mono fz_sub s, rfl⟩, q.here ok (by rw [← rl.length]; exact .int _) k⟩
theorem arl_lenM (hm : M p = some (.lst ds)) (k : Ψ (.int ds.length) M) : ARL K (cLen K) [.ref p] M Ψ := fun H vs ok r Q q => by
  cases r with
  | cons r1 r2 =>
    cases r2
    cases r1
    obtain ⟨vs, hp, rl⟩ := ok p _ hm
    exact ⟨_, _, rfl, .inl ⟨_, SqL.of hp, rfl⟩, q.here ok (by rw [← rl.length]; exact .int _) k⟩
theorem arl_lenS {z : Str} (hz : z.length ≤ 100000) (k : Ψ (.int z.length) M) : ARL K (cLen K) [.str z] M Ψ := fun H vs ok r Q q => by
  cases r with
  | cons r1 r2 =>
    cases r2
    cases r1
    exact ⟨_, _, rfl, ⟨Evl.sz_of hz, rfl⟩, q.here ok (.int _) k⟩
abbrev cTuple (K : PySem.W.Frag) : List V → Hp → VK → Prop := fun xs H Q => ∃ p ys, xs = [.ref p] ∧ ((SqL K H p ys ∧ ∀ l, H l = none → Q (.ref l) (upd H l (.tup ys))) ∨ (SqT K H p ys ∧ Q (.ref p) H))
/-- tuple(xs) -/
theorem arl_tupL (k : Ψ (.tup ds) M) : ARL K (cTuple K) [.lst ds] M Ψ := fun H vs ok r Q q => by
  cases r with
  | cons r1 r2 =>
    cases r2
    cases r1 with
    | lst s rl => exact ⟨_, _, rfl, .inl ⟨sqL_mono fz_sub s, fun l hl => q M _ _ _ (stp_new hl) (ok_new ok hl) (.tup (SqT.of (fz_of (ok.fresh hl) upd_same)) (RepL.mono (stp_new hl).same _ _ rl)) k⟩⟩
theorem arl_tupM (hm : M p = some (.lst ds)) (k : Ψ (.tup ds) M) : ARL K (cTuple K) [.ref p] M Ψ := fun H vs ok r Q q => by
  cases r with
  | cons r1 r2 =>
    cases r2
    cases r1
    obtain ⟨vs, hp, rl⟩ := ok p _ hm
    exact ⟨_, _, rfl, .inl ⟨SqL.of hp, fun l hl => q M _ _ _ (stp_new hl) (ok_new ok hl) (.tup (SqT.of (fz_of (ok.fresh hl) upd_same)) (RepL.mono (stp_new hl).same _ _ rl)) k⟩⟩
theorem arl_tupT (k : Ψ (.tup ds) M) : ARL K (cTuple K) [.tup ds] M Ψ := fun H vs ok r Q q => by
  cases r with
  | cons r1 r2 =>
    cases r2
    cases r1 with
    | tup s rl => exact ⟨_, _, rfl, .inr ⟨sqT_mono fz_sub s, q.here ok (.tup s rl) k⟩⟩
abbrev cList (K : PySem.W.Frag) : List V → Hp → VK → Prop := fun xs H Q => ∃ p ys, xs = [.ref p] ∧ (SqL K H p ys ∨ SqT K H p ys) ∧ ∀ l, H l = none → Q (.ref l) (upd H l (.lst ys))
theorem arl_listT (k : ∀ l, M l = none → Ψ (.ref l) (M.set l (.lst ds))) : ARL K (cList K) [.tup ds] M Ψ := fun H vs ok r Q q => by
  cases r with
  | cons r1 r2 =>
    cases r2
    cases r1 with
    | tup s rl => exact ⟨_, _, rfl, .inr (sqT_mono fz_sub s), fun l hl =>
      let st : Stp M H (M.set l (.lst ds)) (upd H l (.lst _)) := stp_newM hl
      q _ _ _ _ st (ok_set ok st ⟨_, upd_same, RepL.mono st.same _ _ rl⟩) (.ref l) (k l (ok.fresh hl))⟩
theorem arl_listL (k : ∀ l, M l = none → Ψ (.ref l) (M.set l (.lst ds))) : ARL K (cList K) [.lst ds] M Ψ := fun H vs ok r Q q => by
  cases r with
  | cons r1 r2 =>
    cases r2
    cases r1 with
    | lst s rl => exact ⟨_, _, rfl, .inl (sqL_mono fz_sub s), fun l hl =>
      let st : Stp M H (M.set l (.lst ds)) (upd H l (.lst _)) := stp_newM hl
      q _ _ _ _ st (ok_set ok st ⟨_, upd_same, RepL.mono st.same _ _ rl⟩) (.ref l) (k l (ok.fresh hl))⟩
/-- list(t), not changed behind it -/
theorem arl_listTF (k : Ψ (.lst ds) M) : ARL K (cList K) [.tup ds] M Ψ := fun H vs ok r Q q => by
  cases r with
  | cons r1 r2 =>
    cases r2
    cases r1 with
    | tup s rl => exact ⟨_, _, rfl, .inr (sqT_mono fz_sub s), fun l hl => q M _ _ _ (stp_new hl) (ok_new ok hl) (.lst (SqL.of (fz_of (ok.fresh hl) upd_same)) (RepL.mono (stp_new hl).same _ _ rl)) k⟩
abbrev cAbs : List V → Hp → VK → Prop := fun xs H Q => ∃ i, xs = [.int i] ∧ Q (.int (if i < 0 then -i else i)) H
theorem arl_abs {i : Int} (k : Ψ (.int (if i < 0 then -i else i)) M) : ARL K cAbs [.int i] M Ψ := fun H vs ok r Q q => by
  cases r with
  | cons r1 r2 =>
    cases r2
    cases r1
    exact ⟨i, rfl, q.here ok (.int _) k⟩
abbrev cInt : List V → Hp → VK → Prop := fun xs H Q => (∃ i, xs = [.int i] ∧ Q (.int i) H) ∨ ∃ k, xs = [.bl k] ∧ Q (.int (if k then 1 else 0)) H
theorem arl_intI {i : Int} (k : Ψ (.int i) M) : ARL K cInt [.int i] M Ψ := fun H vs ok r Q q => by
  cases r with
  | cons r1 r2 =>
    cases r2
    cases r1
    exact .inl ⟨i, rfl, q.here ok (.int _) k⟩
theorem arl_intB {b : Bool} (k : Ψ (.int (if b then 1 else 0)) M) : ARL K cInt [.bl b] M Ψ := fun H vs ok r Q q => by
  cases r with
  | cons r1 r2 =>
    cases r2
    cases r1
    exact .inr ⟨b, rfl, q.here ok (.int _) k⟩
abbrev cMax : List V → Hp → VK → Prop := fun xs H Q => ∃ i j, xs = [.int i, .int j] ∧ Q (.int (if j > i then j else i)) H
theorem arl_max2 {i j : Int} (k : Ψ (.int (if j > i then j else i)) M) : ARL K cMax [.int i, .int j] M Ψ := fun H vs ok r Q q => by
  cases r with
  | cons r1 r2 =>
    cases r2 with
    | cons r2 r3 =>
      cases r3
      cases r1; cases r2
      exact ⟨i, j, rfl, q.here ok (.int _) k⟩
theorem repL_ints {F : Hp} : ∀ {ns : List Int} {vs : List V}, RepL K F (ns.map D.int) vs → vs = ns.map V.int
  | [], _, h => by cases h; rfl
  | n :: ns, _, h => by
    cases h with
    | cons h1 h2 =>
      cases h1
      rw [repL_ints h2]
      rfl
theorem ints_repL {F : Hp} : ∀ {ns : List Int}, RepL K F (ns.map D.int) (ns.map V.int)
  | [] => .nil
  | n :: ns => .cons (.int n) ints_repL
theorem repL_bls {F : Hp} : ∀ {ns : List Bool} {vs : List V}, RepL K F (ns.map D.bl) vs → vs = ns.map V.bl
  | [], _, h => by cases h; rfl
  | n :: ns, _, h => by
    cases h with
    | cons h1 h2 =>
      cases h1
      rw [repL_bls h2]
      rfl
theorem arl_sum {ns : List Int} (k : Ψ (.int ns.sum) M) : ARL K (rSum K) [.lst (ns.map D.int)] M Ψ := fun H vs ok r Q q => by
  cases r with
  | cons r1 r2 =>
    cases r2
    cases r1 with
    | lst s rl =>
      cases repL_ints rl
      exact ⟨_, ns, rfl, sqL_mono fz_sub s, q.here ok (.int _) k⟩
theorem arl_all {bs : List Bool} (k : Ψ (.bl (bs.all id)) M) : ARL K (rAll K) [.lst (bs.map D.bl)] M Ψ := fun H vs ok r Q q => by
  cases r with
  | cons r1 r2 =>
    cases r2
    cases r1 with
    | lst s rl =>
      cases repL_bls rl
      exact ⟨_, bs, rfl, sqL_mono fz_sub s, q.here ok (.bl _) k⟩
theorem arl_any {bs : List Bool} (k : Ψ (.bl (bs.any id)) M) : ARL K (rAny K) [.lst (bs.map D.bl)] M Ψ := fun H vs ok r Q q => by
  cases r with
  | cons r1 r2 =>
    cases r2
    cases r1 with
    | lst s rl =>
      cases repL_bls rl
      exact ⟨_, bs, rfl, sqL_mono fz_sub s, q.here ok (.bl _) k⟩
/-- the ints in rising order -/
def insI (x : Int) : List Int → List Int
  | [] => [x]
  | y :: r => if x ≤ y then x :: y :: r else y :: insI x r
def isort : List Int → List Int
  | [] => []
  | x :: r => insI x (isort r)
theorem insI_perm (x : Int) : ∀ r : List Int, (insI x r).Perm (x :: r)
  | [] => List.Perm.refl _
  | y :: r => by
    unfold insI
    split
    · exact List.Perm.refl _
    · exact ((insI_perm x r).cons y).trans (List.Perm.swap x y r)
theorem isort_perm : ∀ r : List Int, (isort r).Perm r
  | [] => List.Perm.refl _
  | x :: r => (insI_perm x (isort r)).trans ((isort_perm r).cons x)
theorem insI_sorted (x : Int) : ∀ r : List Int, r.Pairwise (· ≤ ·) → (insI x r).Pairwise (· ≤ ·)
  | [], _ => by simp [insI]
  | y :: r, h => by
    unfold insI
    have h' := List.pairwise_cons.mp h
    split
    · rename_i hxy
      refine List.pairwise_cons.mpr ⟨fun z hz => ?_, h⟩
      rcases List.mem_cons.mp hz with e | e
      · rw [e]; exact hxy
      · exact Int.le_trans hxy (h'.1 z e)
    · rename_i hxy
      refine List.pairwise_cons.mpr ⟨fun z hz => ?_, insI_sorted x r h'.2⟩
      rcases List.mem_cons.mp ((insI_perm x r).mem_iff.mp hz) with e | e
      · rw [e]; omega
      · exact h'.1 z e
theorem isort_sorted : ∀ r : List Int, (isort r).Pairwise (· ≤ ·)
  | [] => List.Pairwise.nil
  | x :: r => insI_sorted x _ (isort_sorted r)
theorem sorted_unique : ∀ {xs ys : List Int}, xs.Perm ys → xs.Pairwise (· ≤ ·) → ys.Pairwise (· ≤ ·) → xs = ys
  | [], ys, p, _, _ => (List.Perm.nil_eq p)
  | x :: xs, ys, p, hx, hy => by
    cases ys with
    | nil => exact absurd p.length_eq (by simp)
    | cons y ys =>
      have hx' := List.pairwise_cons.mp hx
      have hy' := List.pairwise_cons.mp hy
      have e : x = y := by
        have h1 : x ∈ y :: ys := p.mem_iff.mp (List.mem_cons_self ..)
        have h2 : y ∈ x :: xs := p.mem_iff.mpr (List.mem_cons_self ..)
        rcases List.mem_cons.mp h1 with a | a
        · exact a
        · rcases List.mem_cons.mp h2 with b | b
          · exact b.symm
          · have c1 := hy'.1 x a
            have c2 := hx'.1 y b
            omega
      subst e
      rw [sorted_unique ((List.perm_cons x).mp p) hx'.2 hy'.2]
theorem sorted_isort {xs ns : List Int} (p : ns.Perm xs) (s : ns.Pairwise (· ≤ ·)) : ns = isort xs := sorted_unique (p.trans (isort_perm xs).symm) s (isort_sorted xs)
/-- sorted(xs), ints -/
theorem arl_sorted {ns : List Int} (k : Ψ (.lst ((isort ns).map D.int)) M) : ARL K (rSortedI K) [.lst (ns.map D.int)] M Ψ := fun H vs ok r Q q => by
  cases r with
  | cons r1 r2 =>
    cases r2
    cases r1 with
    | lst s rl =>
      cases repL_ints rl
      refine ⟨_, ns, rfl, sqL_mono fz_sub s, fun ns' l pm st hl => ?_⟩
      cases sorted_isort pm st
      exact q M _ _ _ (stp_new hl) (ok_new ok hl) (.lst (SqL.of (fz_of (ok.fresh hl) upd_same)) ints_repL) k
theorem arl_sortedM {ns : List Int} (hm : M p = some (.lst (ns.map D.int))) (k : Ψ (.lst ((isort ns).map D.int)) M) : ARL K (rSortedI K) [.ref p] M Ψ := fun H vs ok r Q q => by
  cases r with
  | cons r1 r2 =>
    cases r2
    cases r1
    obtain ⟨vs, hp, rl⟩ := ok p _ hm
    cases repL_ints rl
    refine ⟨_, ns, rfl, SqL.of hp, fun ns' l pm st hl => ?_⟩
    cases sorted_isort pm st
    exact q M _ _ _ (stp_new hl) (ok_new ok hl) (.lst (SqL.of (fz_of (ok.fresh hl) upd_same)) ints_repL) k

/-! ### methods of lists -/
theorem ae_append {ta te : TE} (h : AE K W Χ Δ ta M fun o M1 => ∃ p ds0, o = .ref p ∧ M1 p = some (.lst ds0) ∧ AE K W Χ Δ te M1 fun d M2 => ∃ ds, M2 p = some (.lst ds) ∧ ds.length < 100000 ∧ Ψ .non (M2.set p (.lst (ds ++ [d])))) :
    AE K W Χ Δ (tBM K "list" rAppend ta (tCons te tNil)) M Ψ := fun σ H ok sl gx Q g =>
  h σ H ok sl gx _ fun M1 H1 o ov s1 ok1 r1 ⟨p, ds0, eo, hm1, h1⟩ => by
    subst eo
    cases r1
    obtain ⟨v0, hp1, rl1⟩ := ok1 p _ hm1
    refine ⟨.inl ⟨rfl, v0, SqL.of hp1⟩, h1 σ H1 ok1 (sl.mono s1.same) (gx.step s1) _ fun M2 H2 d v s2 ok2 r2 ⟨ds, hm2, hl, k⟩ => ?_⟩
    obtain ⟨vs, hp2, rl2⟩ := ok2 p _ hm2
    have st : Stp M2 H2 (M2.set p (.lst (ds ++ [d]))) (upd H2 p (.lst (vs ++ [v]))) := stp_mut hm2
    exact ⟨p, vs, v, rfl, rfl, hp2, Evl.sz_lt (by rw [← rl2.length]; exact hl), g _ _ .non .non ((s1.trans s2).trans st) (ok_set ok2 st ⟨_, upd_same, RepL.mono st.same _ _ (rl2.append (.cons r2 .nil))⟩) .non k⟩
theorem ae_pop {ta : TE} (h : AE K W Χ Δ ta M fun o M1 => ∃ p ds d, o = .ref p ∧ M1 p = some (.lst (ds ++ [d])) ∧ Ψ d (M1.set p (.lst ds))) :
    AE K W Χ Δ (tBM0 K "list" rPop ta) M Ψ := fun σ H ok sl gx Q g =>
  h σ H ok sl gx _ fun M1 H1 o ov s1 ok1 r1 ⟨p, ds, d, eo, hm1, k⟩ => by
    subst eo
    cases r1
    obtain ⟨vs, hp1, rl1⟩ := ok1 p _ hm1
    have hl := rl1.length
    rw [List.length_append] at hl
    have hl' : vs.length = ds.length + 1 := by simpa using hl.symm
    obtain ⟨v, hv, rv⟩ := rl1.get (i := ds.length) (d := d) (by simp)
    have ev : vs = vs.dropLast ++ [v] := by
      refine List.ext_getElem? fun i => ?_
      by_cases hi : i < ds.length
      · rw [List.getElem?_append_left (by rw [List.length_dropLast, hl']; omega), List.getElem?_dropLast, if_pos (by omega)]
      · by_cases hi2 : i = ds.length
        · subst hi2
          rw [hv, List.getElem?_append_right (by rw [List.length_dropLast, hl']; omega), List.length_dropLast, hl']
          simp
        · rw [List.getElem?_eq_none (by omega), List.getElem?_eq_none (by rw [List.length_append, List.length_dropLast, hl']; simp; omega)]
    have st : Stp M1 H1 (M1.set p (.lst ds)) (upd H1 p (.lst vs.dropLast)) := stp_mut hm1
    refine ⟨.inl ⟨rfl, vs, SqL.of hp1⟩, p, vs, v, rfl, rfl, hp1, by rw [hl']; exact hv, g _ _ _ _ (s1.trans st) (ok_set ok1 st ⟨_, upd_same, ?_⟩) (Rep.mono st.same _ _ rv) k⟩
    have rt := rl1.take ds.length
    rw [List.take_left' rfl] at rt
    have et : vs.take ds.length = vs.dropLast := by rw [List.dropLast_eq_take, hl']; rfl
    rw [et] at rt
    exact RepL.mono st.same _ _ rt

/-! ### fields -/
theorem ae_fldO {ta : TE} {f : Str} {C : Addr} (hc : Cls K C) (hn : NoAttr K C f) (h : AE K W Χ Δ ta M fun o M1 => ∃ fs d, o = .obj C fs ∧ fs.lookup f = some d ∧ Ψ d M1) : AE K W Χ Δ (tFld K ta f) M Ψ := fun σ H ok sl gx Q g =>
  h σ H ok sl gx _ fun M1 H1 o ov s1 ok1 r1 ⟨fs, d, eo, hl, k⟩ => by
    subst eo
    cases r1 with
    | obj hF rf =>
      obtain ⟨v, hv, rv⟩ := rf.lookup hl
      exact ⟨_, C, _, _, v, rfl, fz_sub _ _ hF, hc, hn, hv, g M1 H1 d v s1 ok1 rv k⟩
theorem ae_fldM {ta : TE} {f : Str} {C : Addr} (hc : Cls K C) (hn : NoAttr K C f) (h : AE K W Χ Δ ta M fun o M1 => ∃ p fs d, o = .ref p ∧ M1 p = some (.ins C fs) ∧ fs.lookup f = some d ∧ Ψ d M1) : AE K W Χ Δ (tFld K ta f) M Ψ := fun σ H ok sl gx Q g =>
  h σ H ok sl gx _ fun M1 H1 o ov s1 ok1 r1 ⟨p, fs, d, eo, hp, hl, k⟩ => by
    subst eo
    cases r1
    obtain ⟨dx, vs, hH, rf⟩ := ok1 p _ hp
    obtain ⟨v, hv, rv⟩ := rf.lookup hl
    exact ⟨p, C, dx, vs, v, rfl, hH, hc, hn, hv, g M1 H1 d v s1 ok1 rv k⟩
/-- o.f = e -/
theorem as_fld {ta tv : TE} {f : Str} {C : Addr} (hc : Cls K C) (hn : NoAttr K C f) (h : AE K W (fun c f M' => P.xr c f Δ M') Δ tv M fun y M1 => AE K W (fun c f M' => P.xr c f Δ M') Δ ta M1 fun o M2 =>
    ∃ p fs, o = .ref p ∧ M2 p = some (.ins C fs) ∧ fs.length < 1000 ∧ P.nx Δ (M2.set p (.ins C (putD f y fs)))) : AS K W (sFld K ta tv f) P Δ M := fun σ H ok sl D gp =>
  h σ H ok sl (gp.x sl) _ fun M1 H1 y v s1 ok1 r1 h1 => h1 σ H1 ok1 (sl.mono s1.same) ((gp.x sl).step s1) _ fun M2 H2 o ov s2 ok2 r2 ⟨p, fs, eo, hp, hl, k⟩ => by
    subst eo
    cases r2
    obtain ⟨dx, vs, hH, rf⟩ := ok2 p _ hp
    have s12 := s1.trans s2
    have st : Stp M2 H2 (M2.set p (.ins C (putD f y fs))) (upd H2 p (.ins C dx (putF f v vs))) := stp_mut hp
    exact ⟨p, C, dx, vs, rfl, hH, hc, hn, by rw [← rf.length]; exact hl, gp.nx Δ _ σ _ (s12.trans st) (ok_set ok2 st ⟨dx, _, upd_same, RepF.mono st.same _ _ (rf.put (Rep.mono s2.same _ _ r1))⟩) (sl.mono (s12.trans st).same) k⟩
/-- an instance no longer changes -/
theorem ae_frzI {te : TE} (h : AE K W Χ Δ te M fun d M' => ∃ p C fs M0, d = .ref p ∧ M' p = some (.ins C fs) ∧ (∀ a m, M0 a = some m → M' a = some m) ∧ M0 p = none ∧ Ψ (.obj C fs) M0) : AE K W Χ Δ te M Ψ := fun σ H ok sl gx Q g =>
  h σ H ok sl gx _ fun M1 H1 d v s1 ok1 r1 ⟨p, C, fs, M0, e, hp, hle, h0, k⟩ => by
    subst e
    cases r1
    obtain ⟨dx, vs, hH, rf⟩ := ok1 p _ hp
    have st : Stp M1 H1 M0 H1 := stp_less hle
    exact g M0 H1 (.obj C fs) (.ref p) (s1.trans st) (ok_less ok1 hle) (.obj (fz_of h0 hH) (RepF.mono st.same _ _ rf)) k
/-- a list no longer changes -/
theorem ae_frzL {te : TE} (h : AE K W Χ Δ te M fun d M' => ∃ p ds M0, d = .ref p ∧ M' p = some (.lst ds) ∧ (∀ a m, M0 a = some m → M' a = some m) ∧ M0 p = none ∧ Ψ (.lst ds) M0) : AE K W Χ Δ te M Ψ := fun σ H ok sl gx Q g =>
  h σ H ok sl gx _ fun M1 H1 d v s1 ok1 r1 ⟨p, ds, M0, e, hp, hle, h0, k⟩ => by
    subst e
    cases r1
    obtain ⟨vs, hH, rl⟩ := ok1 p _ hp
    have st : Stp M1 H1 M0 H1 := stp_less hle
    exact g M0 H1 (.lst ds) (.ref p) (s1.trans st) (ok_less ok1 hle) (.lst (SqL.of (fz_of h0 hH)) (RepL.mono st.same _ _ rl)) k
/-- .. the list in a slot -/
theorem as_frz {t : TS} {i : Nat} {M0 : Mem} (hi : Δ[i]? = some (some (.ref p))) (hp : M p = some (.lst ds)) (hle : ∀ a m, M0 a = some m → M a = some m) (h0 : M0 p = none) (h : AS K W t P (Δ.set i (some (.lst ds))) M0) : AS K W t P Δ M := fun σ H ok sl D gp => by
  obtain ⟨v, hv, rv⟩ := sl.get i _ hi
  cases rv
  obtain ⟨vs, hH, rl⟩ := ok p _ hp
  have st : Stp M H M0 H := stp_less hle
  refine h σ H (ok_less ok hle) ?_ D (gp.step st)
  have sl2 := (sl.mono st.same).set (i := i) (show Rep K (Fz M0 H) (.lst ds) (.ref p) from .lst (SqL.of (fz_of h0 hH)) (RepL.mono st.same _ _ rl))
  have e : σ.set i (some (.ref p)) = σ := by
    refine List.ext_getElem? fun j => ?_
    by_cases q : i = j
    · subst q
      rw [List.getElem?_set_self (List.getElem?_eq_some_iff.mp hv).1, hv]
    · rw [List.getElem?_set_ne q]
  rw [e] at sl2
  exact sl2

/-! ### comprehensions whose list does not change any more -/
theorem ae_lcF {wi : TI} {g : TG} {tt : TT} {te : TE} {vs : List Nat}
    (h : AI K W Χ Δ wi M fun xs M1 => xs.length ≤ 100000 ∧ ∃ I : Nat → List D → Mem → Prop, I 0 [] M1 ∧
      (∀ i d acc M' p, xs[i]? = some d → I i acc M' → M' p = none → acc.length ≤ i → AGc K g vs d (wipeD Δ vs) (M'.set p (.lst acc)) fun Δ2 M2 => AT K W0 X0 Δ2 tt M2 fun b M3 =>
        if b = true then AE K W0 X0 Δ2 te M3 fun y M4 => ∃ M5, M4 = M5.set p (.lst acc) ∧ M5 p = none ∧ I (i + 1) (acc ++ [y]) M5
        else ∃ M5, M3 = M5.set p (.lst acc) ∧ M5 p = none ∧ I (i + 1) acc M5) ∧
      (∀ acc M', I xs.length acc M' → Ψ (.lst acc) M')) : AE K W Χ Δ (tLc wi g tt te vs) M Ψ :=
  ae_frzL (ae_lcG fun σ H ok sl gx R q => h σ H ok sl gx R fun M' H' J xs s o w ⟨a, I, b, c, d⟩ => q M' H' J xs s o w ⟨a, I, b, c, fun acc M' p i0 m0 => ⟨p, acc, M', rfl, Mem.set_same, fun x m e => by
    have n := Mem.ne_of e m0
    rw [Mem.set_ne n]
    exact e, m0, d acc M' i0⟩⟩)
/-- .. whose turns leave the memory as it is -/
theorem ae_lcP {wi : TI} {g : TG} {tt : TT} {te : TE} {vs : List Nat}
    (h : AI K W Χ Δ wi M fun xs M1 => xs.length ≤ 100000 ∧ ∃ (f : D → Bool) (e : D → D),
      (∀ d M', d ∈ xs → AGc K g vs d (wipeD Δ vs) M' fun Δ2 M2 => M2 = M' ∧ AT K W0 X0 Δ2 tt M' fun b M3 => M3 = M' ∧ b = f d ∧ (f d = true → AE K W0 X0 Δ2 te M' fun y M4 => y = e d ∧ M4 = M')) ∧
      Ψ (.lst ((xs.filter f).map e)) M1) : AE K W Χ Δ (tLc wi g tt te vs) M Ψ :=
  ae_lcF fun σ H ok sl gx R q => h σ H ok sl gx R fun M1 H1 J xs s o w ⟨a, f, e, b, c⟩ => q M1 H1 J xs s o w ⟨a, fun i acc M' => acc = ((xs.take i).filter f).map e ∧ M' = M1, ⟨by simp, rfl⟩, by
    rintro i d acc M' p hx ⟨ea, em⟩ hp hl
    subst ea em
    have ht : xs.take (i + 1) = xs.take i ++ [d] := by rw [List.take_add_one, hx]; rfl
    refine fun σ1 H2 v ok2 sl2 r2 Q2 g2 => b d _ (List.mem_of_getElem? hx) σ1 H2 v ok2 sl2 r2 Q2 fun Δ3 M3 σ3 H3 s3 ok3 sl3 w3 ⟨e3, t3⟩ => g2 Δ3 M3 σ3 H3 s3 ok3 sl3 w3 ?_
    rw [e3]
    refine fun σ4 H4 ok4 sl4 gx4 Q4 g4 => t3 σ4 H4 ok4 sl4 gx4 Q4 fun M5 H5 bb s5 ok5 ⟨e5, eb, t5⟩ => g4 M5 H5 bb s5 ok5 ?_
    rw [e5, eb]
    cases hf : f d with
    | true =>
      rw [if_pos rfl]
      refine (t5 hf).mono fun y M6 ⟨ey, e6⟩ => ⟨_, e6, hp, ?_, rfl⟩
      rw [ht, List.filter_append, List.map_append, ey]
      simp [hf]
    | false =>
      rw [if_neg Bool.false_ne_true]
      refine ⟨_, rfl, hp, ?_, rfl⟩
      rw [ht, List.filter_append, List.map_append]
      simp [hf], fun acc M' ⟨ea, em⟩ => by
    subst ea em
    rw [List.take_length]
    exact c⟩
end
end T2
namespace T2
open PySem PySem.Spec PyProof.Rows L2 RZ

/-! ### set(xs) of a list of ints -/
section
variable {P : Program} {w : World} {A : Around} {E : Value → Shared → Prop} {s : Shared}
set_option maxHeartbeats 3200000 in
theorem set_of_list {l : Addr} {its : Array Value} (ns : List Int) {Q : Value → Shared → Prop} (calm : A.handled = none) (lst : s.heap.IsList l its) (areI : IntsAre its.toList ns) (few : ns.length + 1 < scanBound)
    (out : ∀ (g : Heap) (tk c : Nat), SetR w g s.heap.objs.size (fun j => decide (j ∈ ns)) c → c ≤ ns.length → (∀ b o, s.heap.get? b = some o → g.get? b = some o) → Q (.ref s.heap.objs.size) { s with heap := g, toks := tk }) :
    wpAny (model P w) A (call (.type "set") [.ref l]) Q E s := by
  have many : its.size = ns.length := (Array.length_toList (xs := its)).symm.trans areI.length
  obtain ⟨mc, mt, mro⟩ := F.called_set.mro
  have f1 := F.called_set.made
  have f2 := F.called_set.sub
  have f3 := F.called_set.notType
  have f4 := F.called_set.canCreate
  have f5 := F.typeCall_set_1 (.ref l)
  have f6 := F.called_set.init.lookup
  have f7 := F.called_set.init.bind (.ref s.heap.objs.size)
  refine wpAny_call (codeAny_of_tree ?_)
  show wpAny _ _ (callAny (.type "set") _) _ _ _
  refine wpAny_pure ⟨Code.quiet_builtin _ (by decide +kernel), codeAny_builtin F.entry_type_call ?_⟩
  rw [Around.under_plain (weight_type_call_type "set" [.ref l] []) rfl]
  repeat (any_goals (first | assumption | wp_step))
  refine codeAny_mono (code_set_led1 (.ref l) (E := E) (Q₁ := fun obj s₁ => obj = .ref s.heap.objs.size ∧
    s₁ = { s with heap := s.heap.push { cls := .type "set", dict := none, data := .set #[] 0 (.fresh 0 0 (!w.params.followText "set-order")) } }) ⟨rfl, rfl⟩) fun r s₁ back => ?_
  match r, back with
  | .error _, z => exact z
  | .ok .next, z => exact z.elim
  | .ok .brk, z => exact z.elim
  | .ok .cont, z => exact z.elim
  | .ok (.ret obj), ⟨e1, e2⟩ =>
    subst e1 e2
    have new0 : (s.heap.push { cls := .type "set", dict := none, data := .set #[] 0 (.fresh 0 0 (!w.params.followText "set-order")) }).get? s.heap.objs.size = some { cls := .type "set", dict := none, data := .set #[] 0 (.fresh 0 0 (!w.params.followText "set-order")) } := Heap.get?_push_size _ rfl
    have hT : Shared.TypeIs { s with heap := s.heap.push { cls := .type "set", dict := none, data := .set #[] 0 (.fresh 0 0 (!w.params.followText "set-order")) } } (.ref s.heap.objs.size) "set" := ⟨_, new0, rfl⟩
    repeat (any_goals (first | assumption | wp_step))
    refine codeAny_mono (codeAny_call_builtin (R := wants (fun r s₂ => r = .none ∧ ∃ g tk c, s₂ = { s with heap := g, toks := tk } ∧ SetR w g s.heap.objs.size (fun j => decide (j ∈ ns)) c ∧ c ≤ ns.length ∧
      (∀ b o, s.heap.get? b = some o → g.get? b = some o)) E) F.called_set.init.plain F.entry_set_init (check_set_init_1 hT ?_)) fun r₂ s₂ back₂ => ?_
    · obtain ⟨⟨lc, ld, lt, ls⟩, at0, c0, n0, d0⟩ := lst
      simp only at c0 d0
      subst c0; subst d0
      have at1 : (s.heap.push { cls := .type "set", dict := none, data := .set #[] 0 (.fresh 0 0 (!w.params.followText "set-order")) }).get? l = some { cls := .type "list", dict := ld, data := .seq its n0, slots := ls } := Heap.get?_push_of_some _ at0
      have g1 := F.sub_list_set
      have g2 := F.sub_list_frozenset
      have g3 : (Value.type "list" == Value.type "dict") = false := by decide
      have lst1 : (s.heap.push { cls := .type "set", dict := none, data := .set #[] 0 (.fresh 0 0 (!w.params.followText "set-order")) }).IsList l its := ⟨_, at1, rfl, n0, rfl⟩
      unfold Builtin.«set.__init__» noKeywords Builtin.Frozenset.updateFrom
      generalize hPI : pyIter = PI
      wp_walk
      subst hPI
      refine wpAny_pyIter_list lst1 (wpAny_bind (wpAny_runValue ?_))
      have low : l < s.heap.objs.size := Heap.lt_size at0
      have calm3 : A.in1.in1.in1.handled = none := by simp [calm]
      have top : (s.heap.push { cls := .type "set", dict := none, data := .set #[] 0 (.fresh 0 0 (!w.params.followText "set-order")) }).objs.size = s.heap.objs.size + 1 := Heap.size_push ..
      have apart : l ≠ (s.heap.push { cls := .type "set", dict := none, data := .set #[] 0 (.fresh 0 0 (!w.params.followText "set-order")) }).objs.size := by
        rw [top]; exact Nat.ne_of_lt (Nat.lt_succ_of_lt low)
      have outside : s.heap.objs.size ∉ [(s.heap.push { cls := .type "set", dict := none, data := .set #[] 0 (.fresh 0 0 (!w.params.followText "set-order")) }).objs.size, l] := by
        rw [top]
        intro z
        rcases List.mem_cons.mp z with e | z
        · exact absurd e (Nat.ne_of_lt (Nat.lt_succ_self _))
        · rcases List.mem_cons.mp z with e | z
          · exact absurd e (Nat.ne_of_gt low)
          · cases z
      have vals : ∀ (i : Nat) (v : Value), its[i]? = some v → ∃ k t, ns[i]? = some k ∧ v = .int k t := fun i v hv => by
        have hi : i < ns.length := by rw [← many]; exact (Array.getElem?_eq_some_iff.mp hv).1
        obtain ⟨t, e⟩ := PyProof.Rows.IntsAre.int_at areI i v (by rw [Array.getElem?_toList]; exact hv)
        exact ⟨ns[i], t, List.getElem?_eq_getElem hi, by rw [e, List.getD_eq_getElem?_getD, List.getElem?_eq_getElem hi]; rfl⟩
      refine set_update_ints ((Walks.list calm3 _ l apart its).toS) s.heap.objs.size outside ns many few vals (its.size - 0) 0 _ (by omega) (Nat.zero_le _)
        ⟨⟨_, Heap.get?_push_size _ rfl, rfl, rfl⟩, (lst1.push _)⟩ ⟨0, Nat.le_refl 0, setR_new_at (Heap.get?_push_of_some _ new0)⟩ fun s' c' mv le' R' => ?_
      obtain ⟨g, gg, gd, gt, go⟩ := s'
      cases (show gg = s.gens from mv.gens)
      cases (show gd = s.drawn from mv.drawn)
      cases (show go = s.os from mv.os)
      show wpAny _ _ _ _ _ _
      refine wpAny_pure ?_
      show wpAny _ _ (ret Value.none) _ _ _
      refine wpAny_pure ⟨rfl, g, gt, c', rfl, R', by rw [← many]; exact le', fun b o e => ?_⟩
      have b0 : b < s.heap.objs.size := Heap.lt_size e
      refine mv.heap b o (fun z => ?_) (Heap.get?_push_of_some _ (Heap.get?_push_of_some _ e))
      rcases List.mem_cons.mp z with e | z
      · exact absurd e (Nat.ne_of_lt b0)
      · rcases List.mem_cons.mp z with e | z
        · rw [top] at e
          exact absurd e (Nat.ne_of_lt (Nat.lt_succ_of_lt b0))
        · cases z
    · match r₂, back₂ with
      | .error _, z => exact z
      | .ok .next, z => exact z.elim
      | .ok .brk, z => exact z.elim
      | .ok .cont, z => exact z.elim
      | .ok (.ret r), ⟨e1, g, tk, c', e2, R', le', kp⟩ =>
        subst e1 e2
        repeat (any_goals (first | assumption | wp_step))
        exact out _ _ _ R' le' kp
end
section
variable {X : Cx}
/-- set(xs) -/
def rSetL (K : PySem.W.Frag) (w : World) : List V → Hp → VK → Prop := fun vs H Q => ∃ (a : Addr) (ns : List Int), vs = [V.ref a] ∧ SqL K H a (ns.map V.int) ∧ ns.length ≤ 1000 ∧ ∀ p c, H p = none → c ≤ ns.length → Q (.ref p) (upd H p (SetO w p (fun j => decide (j ∈ ns)) c))
theorem cr_setL (hc : X.calm = true) : CallR X (.type "set") (rSetL X.K X.w) := by
  intro pins s σ H vs us Q I r h
  obtain ⟨a, ns, e, hs, hl, q⟩ := h
  subst e
  rw [Vals.ref1 r]
  obtain ⟨its, rv, pl, hz⟩ := I.list hs
  have sb : ns.length + 1 < scanBound := by unfold scanBound; omega
  refine set_of_list ns (I.ok.hd hc) pl.isList rv.ints sb fun g tk c R le kp => ?_
  exact ⟨.ref s.heap.objs.size, _, I.laid (t' := tk) kp (Nat.le_refl _) (setO_new R), rfl, q _ c (I.hok.fresh (Nat.le_refl _)) le⟩
end

/-! ### repr -/
section
variable {X : Cx}
def rRepr (K : PySem.W.Frag) : List V → Hp → VK → Prop := fun vs H Q => ∃ (a : Addr) (d : PyData), vs = [V.ref a] ∧ Dp K H (.ref a) d ∧ d.showable = true ∧ d.hasDict = false ∧ d.depth ≤ 100 ∧ d.shown.length ≤ sizeLine ∧ Q (.str d.shown) H
theorem cr_repr (hg : X.A.guards = some []) (hu : X.A.units + 150 < cLine) : CallR X (.builtin "repr") (rRepr X.K) := by
  intro pins s σ H vs us Q I r h
  obtain ⟨a, d, e, hd, hs, hn, hdp, hz, q⟩ := h
  subst e
  rw [Vals.ref1 r]
  obtain ⟨as, rd⟩ := Dp.reads I d (.ref a) (.ref a) hd rfl
  refine repr_of_reads' rd hs (fun z => by rw [hn] at z; cases z) hg (by omega) (fun _ _ e => e) (fun h' u tk kp => ?_) hz
  exact ⟨.str d.shown, H, I.kept kp, ⟨u, rfl⟩, q⟩
end

/-! ### tuple(xs), the object known; t.index(x) -/
section
variable {X : Cx}
def rTupX (K : PySem.W.Frag) : List V → Hp → VK → Prop := fun vs H Q => ∃ (a : Addr) (ys : List V), vs = [.ref a] ∧ SqL K H a ys ∧ ∀ p o, H p = none → o.dict = none → Q (.ref p) (upd H p (.frz o (.tup ys)))
theorem call_tupX : CallR X (.type "tuple") (rTupX X.K) := by
  intro pins s σ H vs us Q I r h
  obtain ⟨a, ys, e, hs, q⟩ := h
  subst e
  rw [Vals.ref1 r]
  obtain ⟨its, rv, pl, hz⟩ := I.list hs
  have hlen := rv.length
  have hsl := sizeLine_eq
  refine call_tuple_list pl.isList (fun g kp => ?_) (by simp only [List.size_toArray]; omega)
  have J : Inv X pins σ H { s with heap := g } := I.kept (t' := s.toks) kp
  have at_ : (g.push { cls := .type "tuple", data := .seq its.toArray }).get? g.objs.size = some { cls := .type "tuple", data := .seq its.toArray } := Heap.get?_push_size _ rfl
  exact ⟨.ref g.objs.size, _, J.laid (t' := s.toks) (fun b o z => Heap.get?_push_of_some _ z) (Nat.le_refl _) (show ObjOk X.prog X.w _ _ _ (.frz { cls := .type "tuple", data := .seq its.toArray } (.tup ys)) from ⟨at_, hz, its, rv, IsTup.new _ _⟩), rfl, q _ _ (J.hok.fresh (Nat.le_refl _)) rfl⟩
/-- t.index(x) of a known tuple of flat things: the first place -/
def tIdx (K : PySem.W.Frag) (to te : TE) : TE := fun σ H Q => to σ H fun x H1 => ∃ a o ys, x = .ref a ∧ H1 a = some (.frz o (.tup ys)) ∧ o.dict = none ∧ te σ H1 fun y H2 => ∃ j z, H2 a = some (.frz o (.tup ys)) ∧ flatV y = true ∧ ys.all flatV = true ∧
  ys[j]? = some z ∧ eqV z y = true ∧ (∀ m z', m < j → ys[m]? = some z' → eqV z' y = false) ∧ Q (.int (j : Nat)) H2
variable {o e : Expr} {to te : TE} {apos cpos : Pos}
theorem pe_tupIdx (ho : PE X o to) (he : PE X e te) (hbase : attributeBase o "index" X.env (eval o X.env) = eval o X.env := by rfl)
    (hfew : ((backTo cpos (starEach [e] X.env)).all (fun x => !x.1) && (backToKw cpos (keywordEach [] X.env)).all (fun x => x.1.isSome)
      && decide ([e].length + ([] : List Keyword).length + (if ([] : List Keyword).isEmpty then 0 else 1) < 30)) = true := by rfl)
    (hline : (apos.endLine == cpos.line) = true := by rfl) (hs : starEach [e] X.env = (false, eval e X.env) :: starEach [] X.env := by rfl) :
    PE X (.Call (.Attribute o "index" apos) [e] [] cpos) (tIdx X.K to te) := ⟨fun pins s σ H Q I h => by
  refine wpAny_Call_method_late hbase hfew hline rfl (thn (ho.run pins s σ H _ I h) fun v s1 ⟨x, H1, I1, r1, a, ob, ys, ex, ha, hd, q1⟩ => ?_)
  subst ex
  cases r1
  have there : ∀ {s2 : Shared} {H2 : Hp}, Inv X pins σ H2 s2 → H2 a = some (.frz ob (.tup ys)) → s2.heap.get? a = some ob ∧ ∃ its : List Value, Vals ys its ∧ IsTup s2.heap a its.toArray := fun {s2 H2} I2 z => by
    obtain ⟨z1, _, its, rv, it⟩ := (show ObjOk X.prog X.w H2 s2.heap a (.frz ob (.tup ys)) from I2.hok a _ z)
    exact ⟨z1, its, rv, it⟩
  obtain ⟨g1, its1, rv1, it1⟩ := there I1 ha
  have ty : s1.TypeIs (.ref a) "tuple" := by
    obtain ⟨o', z1, z2, _⟩ := it1
    exact ⟨o', z1, z2⟩
  refine ⟨"tuple", "tuple.index", F.plainAttrs_tuple, F.slot_tuple_index, F.type_tuple_index, ty, fun b z => ?_, ?_⟩
  · cases z
    exact ⟨ob, g1, hd⟩
  · rw [hs]
    refine Calls.callWith_builtin rfl (Calls.evalArgs_plain ?_)
    show wpAny _ _ (spliced ((false, eval e X.env) :: backTo cpos (starEach [] X.env))) _ _ _
    refine Calls.spliced_cons (thn (he.run pins s1 σ H1 _ I1 q1) fun u s2 ⟨y, H2, I2, r2, j, z, ha2, fy, fys, hz, hzj, hno, q2⟩ => Calls.spliced_nil ?_)
    obtain ⟨g2, its, rv, ⟨⟨cls, dd, data, sl⟩, ho2, hc2, n, hd2⟩⟩ := there I2 ha2
    simp only at hc2 hd2
    subst hc2 hd2
    obtain ⟨u1, hu1, ru1⟩ := L2.Vals.get rv hz
    obtain ⟨hjl, hje⟩ := List.getElem?_eq_some_iff.mp hu1
    have hvl := rv.length
    have hj : j < its.toArray.size := by simpa using hjl
    refine call_meets F.slot_tuple_index ⟨_, ho2, rfl⟩ F.entry_tuple_index (F.args_tuple_index_2 _ _) (TI.tuple_indexAt a its.toArray n dd sl u (eqU y) j hj ?_ ?_)
      ⟨ho2, fun u' hu' => mem_eqAt r2 fy rv fys u' (by simpa using hu'), ⟨.int (j : Nat), H2, I2.tok _, ⟨_, rfl⟩, q2⟩⟩
    · have e1 : its.toArray[j] = u1 := by simpa using hje
      rw [e1, eqU_of ru1 (flat_at fys hz)]
      exact hzj
    · intro m hm hmj
      have hml : m < its.length := by simpa using hm
      have hmy : m < ys.length := by omega
      have hy' : ys[m]? = some ys[m] := List.getElem?_eq_getElem hmy
      obtain ⟨u2, hu2, ru2⟩ := L2.Vals.get rv hy'
      obtain ⟨_, hme⟩ := List.getElem?_eq_some_iff.mp hu2
      have e1 : its.toArray[m] = u2 := by simpa using hme
      rw [e1, eqU_of ru2 (flat_at fys hy')]
      exact hno m _ hmj hy'⟩
/-- (x,) * n -/
def rRep1 (K : PySem.W.Frag) : R2 := fun x y H Q => ∃ l k v, x = .ref l ∧ y = .int k ∧ SqT K H l [v] ∧ 2 ≤ k ∧ k ≤ 1000000 ∧ ∀ p, H p = none → Q (.ref p) (upd H p (.tup (List.replicate k.toNat v)))
theorem flat_rep {α : Type} (x : α) : ∀ n : Nat, (List.replicate n [x]).flatten = List.replicate n x
  | 0 => rfl
  | n + 1 => by rw [List.replicate_succ, List.flatten_cons, flat_rep x n]; rfl
theorem op_rep1 : OpR X (binaryOp .Mult) (rRep1 X.K) := by
  intro pins s σ H x y vv uu Q I rx ry h
  obtain ⟨l, k, v, e1, e2, hT, h1, h2, q⟩ := h
  subst e1 e2
  cases rx
  obtain ⟨t, et⟩ := ry
  subst et
  obtain ⟨its, r, ⟨⟨cls, dd, data, sl⟩, ho, hc, n, hd⟩, hs⟩ := I.tuple hT
  simp only at hc hd
  subst hc hd
  cases r with
  | cons r1 r2 =>
    rename_i it rest
    cases r2
    have sz : ((#[it] : Array Value).size : Int) = 1 := rfl
    have flen : (List.replicate k.toNat [it]).flatten.length ≤ sizeLine := by
      rw [flat_rep, List.length_replicate, sizeLine_eq]
      omega
    have c0 : (decide (k < -(2 ^ 63)) || decide (k ≥ 2 ^ 63)) = false := by
      rw [decide_eq_false (by omega), decide_eq_false (by omega)]
      rfl
    have c1 : ((#[it] : Array Value).isEmpty || k == 1) = false := by
      show (false || k == 1) = false
      rw [Bool.false_or]
      exact beq_eq_false_iff_ne.mpr (by omega)
    have c2 : (decide (k ≤ 0) || (#[it] : Array Value).isEmpty) = false := by
      show (decide (k ≤ 0) || false) = false
      rw [Bool.or_false]
      exact decide_eq_false (by omega)
    have c4 : Builtin.Tuple.tupleTooMany (((#[it] : Array Value).size : Int) * k) = false := by
      unfold Builtin.Tuple.tupleTooMany
      rw [sizeLine_eq, sz]
      exact decide_eq_false (by omega)
    have fo : (List.foldl (fun x1 x2 => x1 ++ x2) #[] (List.replicate k.toNat #[it])) = (List.replicate k.toNat it).toArray := by
      have z := size_rep [it] k.toNat
      rw [flat_rep] at z
      exact z
    refine wpAny_binaryOp_repeat_ref (T := "tuple") (U := "int") (by decide) ⟨_, ho, rfl⟩ (fun s' => typeIs_int s' k t) noFill_tuple_mul F.fills_int_mul F.slot_int_rmul repeat_tuple F.slot_int_index.lookup
      (call_meets F.slot_int_rmul (typeIs_int s k t) F.entry_int_rmul (F.args_int_rmul_2 _ _) (int_rmul_tuple k t l #[it] n dd sl)
        ⟨ho, rfl, ⟨_, ho, rfl⟩, call_meets F.slot_tuple_mul ⟨_, ho, rfl⟩ F.entry_tuple_mul (F.args_tuple_mul_2 _ _) (tuple_mulW l #[it] n dd sl k t c0 c1 c2 (by rw [sz]; omega) c4 (by rw [fo, List.size_toArray, List.length_replicate, sizeLine_eq]; omega)) ⟨ho, ?_⟩⟩)
    rw [fo]
    have rr : Vals (List.replicate k.toNat v) (List.replicate k.toNat it) := by
      generalize k.toNat = m
      induction m with
      | zero => exact .nil
      | succ m ih => rw [List.replicate_succ, List.replicate_succ]; exact .cons r1 ih
    exact ⟨.ref s.heap.objs.size, _, I.laid (t' := s.toks) (fun b ob z => Heap.get?_push_of_some _ z) (Nat.le_refl _) (show ObjOk X.prog X.w _ _ _ (.tup (List.replicate k.toNat v)) from ⟨by rw [List.length_replicate, sizeLine_eq]; omega, _, rr, IsTup.new _ _⟩), rfl, q _ (I.hok.fresh (Nat.le_refl _))⟩
end
end T2
namespace T2
open PySem PySem.Spec PyProof.Rows L2 RZ

section
variable {K : PySem.W.Frag} {W : WX} {M M1 : Mem} {H H1 : Hp} {P : Post} {Δ : Sls} {Χ : Exc} {Ψ : PsiE} {ds : List D} {p : Addr}

/-! ### sets, repr, known tuples, repetition -/
theorem arl_set {w : World} {ns : List Int} (hl : ns.length ≤ 1000) (k : ∀ c, c ≤ ns.length → Ψ (.raw fun a => SetO w a (fun j => decide (j ∈ ns)) c) M) : ARL K (rSetL K w) [.lst (ns.map D.int)] M Ψ := fun H vs ok r Q q => by
  cases r with
  | cons r1 r2 =>
    cases r2
    cases r1 with
    | lst s rl =>
      cases repL_ints rl
      exact ⟨_, ns, rfl, sqL_mono fz_sub s, hl, fun a c ha hc => q M _ _ _ (stp_new ha) (ok_new ok ha) (.raw (fz_of (ok.fresh ha) upd_same)) (k c hc)⟩
theorem arl_setM {w : World} {ns : List Int} (hm : M p = some (.lst (ns.map D.int))) (hl : ns.length ≤ 1000) (k : ∀ c, c ≤ ns.length → Ψ (.raw fun a => SetO w a (fun j => decide (j ∈ ns)) c) M) : ARL K (rSetL K w) [.ref p] M Ψ := fun H vs ok r Q q => by
  cases r with
  | cons r1 r2 =>
    cases r2
    cases r1
    obtain ⟨vs, hp, rl⟩ := ok p _ hm
    cases repL_ints rl
    exact ⟨_, ns, rfl, SqL.of hp, hl, fun a c ha hc => q M _ _ _ (stp_new ha) (ok_new ok ha) (.raw (fz_of (ok.fresh ha) upd_same)) (k c hc)⟩
/-- the unlike ints in rising order -/
def ddI : List Int → List Int
  | [] => []
  | x :: r => if x ∈ r then ddI r else x :: ddI r
theorem mem_ddI {x : Int} : ∀ {ns : List Int}, x ∈ ddI ns ↔ x ∈ ns
  | [] => Iff.rfl
  | y :: r => by
    unfold ddI
    have ih := mem_ddI (x := x) (ns := r)
    split
    · rename_i h
      rw [ih, List.mem_cons]
      exact ⟨.inr, fun z => z.elim (fun e => by rw [e]; exact h) id⟩
    · rw [List.mem_cons, List.mem_cons, ih]
theorem nodup_ddI : ∀ ns : List Int, (ddI ns).Nodup
  | [] => List.nodup_nil
  | y :: r => by
    unfold ddI
    split
    · exact nodup_ddI r
    · rename_i h
      exact List.nodup_cons.mpr ⟨fun z => h (mem_ddI.mp z), nodup_ddI r⟩
def lotI (ns : List Int) : List Int := isort (ddI ns)
theorem mem_isort {x : Int} {ns : List Int} : x ∈ isort ns ↔ x ∈ ns := (isort_perm ns).mem_iff
theorem lt_unique : ∀ {xs ys : List Int}, xs.Pairwise (· < ·) → ys.Pairwise (· < ·) → (∀ k, k ∈ xs ↔ k ∈ ys) → xs = ys
  | [], [], _, _, _ => rfl
  | [], y :: ys, _, _, h => absurd ((h y).mpr (List.mem_cons_self ..)) (by simp)
  | x :: xs, [], _, _, h => absurd ((h x).mp (List.mem_cons_self ..)) (by simp)
  | x :: xs, y :: ys, hx, hy, h => by
    have hx' := List.pairwise_cons.mp hx
    have hy' := List.pairwise_cons.mp hy
    have e : x = y := by
      rcases List.mem_cons.mp ((h x).mp (List.mem_cons_self ..)) with a | a
      · exact a
      · rcases List.mem_cons.mp ((h y).mpr (List.mem_cons_self ..)) with b | b
        · exact b.symm
        · have c1 := hy'.1 x a
          have c2 := hx'.1 y b
          omega
    subst e
    rw [lt_unique hx'.2 hy'.2 fun k => ?_]
    constructor
    · intro m
      rcases List.mem_cons.mp ((h k).mp (List.mem_cons_of_mem _ m)) with e | e
      · subst e; exact absurd (hx'.1 k m) (Int.lt_irrefl k)
      · exact e
    · intro m
      rcases List.mem_cons.mp ((h k).mpr (List.mem_cons_of_mem _ m)) with e | e
      · subst e; exact absurd (hy'.1 k m) (Int.lt_irrefl k)
      · exact e
theorem lotI_lt (ns : List Int) : (lotI ns).Pairwise (· < ·) := by
  have h1 := isort_sorted (ddI ns)
  have h2 : (isort (ddI ns)).Nodup := (isort_perm (ddI ns)).nodup_iff.mpr (nodup_ddI ns)
  unfold lotI
  exact (h1.and h2).imp fun {a b} ⟨x, y⟩ => by omega
theorem mem_lotI {x : Int} {ns : List Int} : x ∈ lotI ns ↔ x ∈ ns := by
  unfold lotI
  rw [mem_isort, mem_ddI]
theorem arl_sortedSet {w : World} {ns : List Int} {c : Nat} (hc : c < 64) (k : Ψ (.lst ((lotI ns).map D.int)) M) : ARL K (rSortedSet w) [.raw fun a => SetO w a (fun j => decide (j ∈ ns)) c] M Ψ := fun H vs ok r Q q => by
  cases r with
  | cons r1 r2 =>
    cases r2
    cases r1 with
    | raw s =>
      refine ⟨_, _, c, rfl, fz_sub _ _ s, hc, fun xs a lt mem hn ha => ?_⟩
      have e : xs = lotI ns := lt_unique lt (lotI_lt ns) fun k => by rw [mem k, mem_lotI]; exact decide_eq_true_iff
      subst e
      exact q M _ _ _ (stp_new ha) (ok_new ok ha) (.lst (SqL.of (fz_of (ok.fresh ha) upd_same)) ints_repL) k
/-- repr of plain data -/
def shownD (d : D) : Str := (toP d).shown
def isSeq : D → Bool
  | .tup _ => true
  | .lst _ => true
  | _ => false
theorem arl_repr {d : D} {n : Nat} (hs : isSeq d = true) (g : good n d = true) (hn : n ≤ 64) (hsh : (toP d).showable = true) (hz : (shownD d).length ≤ 1000000) (k : Ψ (.str (shownD d)) M) : ARL K (rRepr K) [d] M Ψ := fun H vs ok r Q q => by
  cases r with
  | cons r1 r2 =>
    cases r2
    rename_i v
    have hd := dp_of (H := H) fz_sub d n v g r1
    have hc := can_of d n g
    have hv : ∃ a, v = .ref a := by
      cases r1 <;> first | exact ⟨_, rfl⟩ | (cases hs)
    obtain ⟨a, e⟩ := hv
    subst e
    exact ⟨a, toP d, rfl, hd, hsh, PyData.hasDict_of_canLay _ hc.1, by omega, Nat.le_trans hz (by decide), q.here ok (.str _) k⟩
theorem arl_reprI {i : Int} (hi : i.natAbs.log2 < 1920) (k : Ψ (.str (toString i : String)) M) : ARL K (fun xs H Q => ∃ i, xs = [.int i] ∧ i.natAbs.log2 < 1920 ∧ Q (.str (toString i)) H) [.int i] M Ψ := fun H vs ok r Q q => by
  cases r with
  | cons r1 r2 =>
    cases r2
    cases r1
    exact ⟨i, rfl, hi, q.here ok (.str _) k⟩
theorem arl_tupX (k : Ψ (.xtup ds) M) : ARL K (rTupX K) [.lst ds] M Ψ := fun H vs ok r Q q => by
  cases r with
  | cons r1 r2 =>
    cases r2
    cases r1 with
    | lst s rl => exact ⟨_, _, rfl, sqL_mono fz_sub s, fun a o ha ho => q M _ _ _ (stp_new ha) (ok_new ok ha) (.xtup (fz_of (ok.fresh ha) upd_same) ho (RepL.mono (stp_new ha).same _ _ rl)) k⟩
/-- flat values of trees -/
def toV : D → V
  | .non => .non
  | .bl b => .bl b
  | .int i => .int i
  | .str x => .str x
  | _ => .byt #[]
def flatD : D → Bool
  | .non => true
  | .bl _ => true
  | .int _ => true
  | .str _ => true
  | _ => false
theorem rep_flat {F : Hp} {d : D} {v : V} (f : flatD d = true) (r : Rep K F d v) : v = toV d ∧ flatV v = true := by
  cases r <;> first | exact ⟨rfl, rfl⟩ | (cases f)
theorem repL_flat {F : Hp} : ∀ {ds : List D} {vs : List V}, ds.all flatD = true → RepL K F ds vs → vs = ds.map toV ∧ vs.all flatV = true
  | [], _, _, h => by cases h; exact ⟨rfl, rfl⟩
  | d :: ds, _, f, h => by
    rw [List.all_cons, Bool.and_eq_true] at f
    cases h with
    | cons h1 h2 =>
      obtain ⟨a1, a2⟩ := rep_flat f.1 h1
      obtain ⟨b1, b2⟩ := repL_flat f.2 h2
      subst a1 b1
      exact ⟨rfl, by rw [List.all_cons, a2, b2]; rfl⟩
/-- x in .. of flat things -/
def inD (x : D) (ds : List D) : Bool := inV (toV x) (ds.map toV)
theorem ar_inT {x : D} {neg : Bool} (fx : flatD x = true) (fd : ds.all flatD = true) (k : Ψ (.bl (if neg then !inD x ds else inD x ds)) M) : AR2 K (rIn K neg) x (.tup ds) M Ψ := fun H v u ok r1 r2 Q q => by
  obtain ⟨a1, a2⟩ := rep_flat fx r1
  cases r2 with
  | tup s rl =>
    obtain ⟨b1, b2⟩ := repL_flat fd rl
    refine ⟨_, _, rfl, .inr (sqT_mono fz_sub s), a2, b2, ?_⟩
    rw [a1, b1]
    exact q.here ok (.bl _) k
theorem ar_inL {x : D} {neg : Bool} (fx : flatD x = true) (fd : ds.all flatD = true) (k : Ψ (.bl (if neg then !inD x ds else inD x ds)) M) : AR2 K (rIn K neg) x (.lst ds) M Ψ := fun H v u ok r1 r2 Q q => by
  obtain ⟨a1, a2⟩ := rep_flat fx r1
  cases r2 with
  | lst s rl =>
    obtain ⟨b1, b2⟩ := repL_flat fd rl
    refine ⟨_, _, rfl, .inl (sqL_mono fz_sub s), a2, b2, ?_⟩
    rw [a1, b1]
    exact q.here ok (.bl _) k
theorem ar_inM {x : D} {neg : Bool} (hm : M p = some (.lst ds)) (fx : flatD x = true) (fd : ds.all flatD = true) (k : Ψ (.bl (if neg then !inD x ds else inD x ds)) M) : AR2 K (rIn K neg) x (.ref p) M Ψ := fun H v u ok r1 r2 Q q => by
  obtain ⟨a1, a2⟩ := rep_flat fx r1
  cases r2
  obtain ⟨vs, hp, rl⟩ := ok p _ hm
  obtain ⟨b1, b2⟩ := repL_flat fd rl
  refine ⟨_, _, rfl, .inl (SqL.of hp), a2, b2, ?_⟩
  rw [a1, b1]
  exact q.here ok (.bl _) k
theorem inD_ints {x : Int} : ∀ {ns : List Int}, inD (.int x) (ns.map D.int) = decide (x ∈ ns)
  | [] => rfl
  | n :: ns => by
    have ih := inD_ints (x := x) (ns := ns)
    unfold inD inV at ih ⊢
    simp only [List.map_cons, List.any_cons] at ih ⊢
    rw [ih]
    show (n == x || decide (x ∈ ns)) = decide (x ∈ n :: ns)
    by_cases e : n = x
    · subst e; simp
    · have e2 : ¬ x = n := fun z => e z.symm
      have e3 : (n == x) = false := beq_eq_false_iff_ne.mpr e
      rw [e3, Bool.false_or]
      simp [e2]
theorem flat_ints (ns : List Int) : (ns.map D.int).all flatD = true := by
  rw [List.all_map]
  exact List.all_eq_true.mpr fun _ _ => rfl
/-- t.index(x) -/
theorem ae_idx {to te : TE} (h : AE K W Χ Δ to M fun o M1 => ∃ ns : List Int, o = .xtup (ns.map D.int) ∧ AE K W Χ Δ te M1 fun y M2 => ∃ (x : Int) (j : Nat), y = .int x ∧ ns[j]? = some x ∧ (∀ m : Nat, m < j → ns[m]? ≠ some x) ∧ Ψ (.int j) M2) :
    AE K W Χ Δ (tIdx K to te) M Ψ := fun σ H ok sl gx Q g =>
  h σ H ok sl gx _ fun M1 H1 o v s1 ok1 r1 ⟨ns, eo, h1⟩ => by
    subst eo
    cases r1 with
    | xtup hF ho rl =>
      rename_i a vs ob
      cases repL_ints rl
      refine ⟨a, ob, _, rfl, fz_sub _ _ hF, ho, h1 σ H1 ok1 (sl.mono s1.same) (gx.step s1) _ fun M2 H2 y u s2 ok2 r2 ⟨x, j, ey, hj, hno, k⟩ => ?_⟩
      subst ey
      cases r2
      refine ⟨j, .int x, fz_sub _ _ (s2.same _ _ hF), rfl, ?_, ?_, ?_, fun m z hm hz => ?_, g M2 H2 _ _ (s1.trans s2) ok2 (.int _) k⟩
      · rw [List.all_map]; exact List.all_eq_true.mpr fun _ _ => rfl
      · rw [List.getElem?_map, hj]; rfl
      · show (x == x) = true
        exact beq_self_eq_true x
      · rw [List.getElem?_map] at hz
        cases e : ns[m]? with
        | none => rw [e] at hz; cases hz
        | some y =>
          rw [e] at hz
          have ez : V.int y = z := by simpa using hz
          subst ez
          show (y == x) = false
          exact beq_eq_false_iff_ne.mpr fun q => hno m hm (by rw [e, q])
theorem repL_rep {F : Hp} {d : D} {v : V} (r : Rep K F d v) : ∀ n : Nat, RepL K F (List.replicate n d) (List.replicate n v)
  | 0 => .nil
  | n + 1 => .cons r (repL_rep r n)
theorem ar_rep1 {d : D} {n : Int} (h1 : 2 ≤ n) (h2 : n ≤ 1000000) (k : Ψ (.tup (List.replicate n.toNat d)) M) : AR2 K (rRep1 K) (.tup [d]) (.int n) M Ψ := fun H v u ok r1 r2 Q q => by
  cases r2
  cases r1 with
  | tup s rl =>
    cases rl with
    | cons rd rn =>
      cases rn
      exact ⟨_, n, _, rfl, rfl, sqT_mono fz_sub s, h1, h2, fun a ha => q M _ _ _ (stp_new ha) (ok_new ok ha) (.tup (SqT.of (fz_of (ok.fresh ha) upd_same)) (repL_rep (Rep.mono (stp_new ha).same _ _ rd) _)) k⟩

/-! ### isinstance of a built-in class -/
def dty : D → Option String
  | .non => some "NoneType"
  | .bl _ => some "bool"
  | .int _ => some "int"
  | .str _ => some "str"
  | .tup _ => some "tuple"
  | .xtup _ => some "tuple"
  | .lst _ => some "list"
  | _ => none
theorem tyX_of {d : D} {v : V} {t : String} (hd : dty d = some t) (r : Rep K (Fz M H) d v) : TyX K H v (.type t) := by
  cases r with
  | non => cases hd; exact .base .non
  | bl b => cases hd; exact .base (.bl b)
  | int i => cases hd; exact .base (.int i)
  | str x => cases hd; exact .base (.str x)
  | ref a => cases hd
  | ty n => cases hd
  | raw s => cases hd
  | exc s r => cases hd
  | obj s r => cases hd
  | tup s r =>
    cases hd
    rcases s with (s | ⟨o, s⟩) | ⟨o, its, n, hk, hc, _⟩
    · exact .base (.tup (fz_sub _ _ s))
    · exact .fTuple (fz_sub _ _ s)
    · exact .kTuple hk hc
  | xtup s d r =>
    cases hd
    exact .fTuple (fz_sub _ _ s)
  | lst s r =>
    cases hd
    rcases s with (s | ⟨o, s⟩) | ⟨o, its, n, hk, hc, _⟩
    · exact .base (.lst (fz_sub _ _ s))
    · exact .base (.frz (fz_sub _ _ s))
    · exact .kList hk hc
theorem arl_isi {d : D} {t c : String} {b : Bool} (hd : dty d = some t) (hk : kitB t c = some b) (k : Ψ (.bl b) M) : ARL K (rIsi K) [d, .ty c] M Ψ := fun H vs ok r Q q => by
  cases r with
  | cons r1 r2 =>
    cases r2 with
    | cons r2 r3 =>
      cases r3
      cases r2
      exact ⟨_, _, _, _, b, rfl, .ty c, tyX_of hd r1, kit_ty hk, q.here ok (.bl b) k⟩
theorem arl_isiD {c : String} {b : Bool} (hk : kitB "dict" c = some b) (k : Ψ (.bl b) M) : ARL K (rIsi K) [.raw fun _ => .dK [], .ty c] M Ψ := fun H vs ok r Q q => by
  cases r with
  | cons r1 r2 =>
    cases r2 with
    | cons r2 r3 =>
      cases r3
      cases r2
      cases r1 with
      | raw s => exact ⟨_, _, _, _, b, rfl, .ty c, .base (.dK (fz_sub _ _ s)), kit_ty hk, q.here ok (.bl b) k⟩

/-! ### slices -/
def AO (K : PySem.W.Frag) (W : WX) (Χ : Exc) (Δ : Sls) (to : TO) (M : Mem) (Φ : Option Int → Mem → Prop) : Prop :=
  ∀ σ H, Ok K M H → Slots K (Fz M H) Δ σ → GoodX K W M H σ Χ → ∀ Q : Option Int → Hp → Prop, (∀ M' H' o, Stp M H M' H' → Ok K M' H' → Φ o M' → Q o H') → to σ H Q
theorem ao_none {Φ : Option Int → Mem → Prop} (k : Φ none M) : AO K W Χ Δ tNoPart M Φ := fun σ H ok sl gx Q g => g M H none (Stp.refl M H) ok k
theorem ao_some {te : TE} {Φ : Option Int → Mem → Prop} (h : AE K W Χ Δ te M fun d M1 => ∃ i, d = .int i ∧ Φ (some i) M1) : AO K W Χ Δ (tPart te) M Φ := fun σ H ok sl gx Q g =>
  h σ H ok sl gx _ fun M1 H1 d v s1 ok1 r1 ⟨i, e, k⟩ => by
    subst e
    cases r1
    exact ⟨i, rfl, g M1 H1 (some i) s1 ok1 k⟩
def cutD (xs : List D) (lo hi : Option Int) : List D := (xs.drop (HT.sIx xs.length 0 lo)).take (HT.sIx xs.length xs.length hi - HT.sIx xs.length 0 lo)
theorem RepL.cut {F : Hp} {vs : List V} (r : RepL K F ds vs) (lo hi : Option Int) : RepL K F (cutD ds lo hi) (cutV vs lo hi) := by
  unfold cutD cutV
  rw [r.length]
  exact (r.drop _).take _
theorem ae_slL {te : TE} {tl th : TO} (h : AE K W Χ Δ te M fun d M1 => ∃ xs, d = .lst xs ∧ AO K W Χ Δ tl M1 fun lo M2 => AO K W Χ Δ th M2 fun hi M3 => Ψ (.lst (cutD xs lo hi)) M3) : AE K W Χ Δ (tSl (rSlL K) te tl th) M Ψ := fun σ H ok sl gx Q g =>
  h σ H ok sl gx _ fun M1 H1 d v s1 ok1 r1 ⟨xs, e, h1⟩ => h1 σ H1 ok1 (sl.mono s1.same) (gx.step s1) _ fun M2 H2 lo s2 ok2 h2 => h2 σ H2 ok2 (sl.mono (s1.trans s2).same) (gx.step (s1.trans s2)) _ fun M3 H3 hi s3 ok3 k => by
    subst e
    cases r1 with
    | lst s rl =>
      have s13 := s2.trans s3
      exact ⟨_, _, rfl, sqL_mono fz_sub (sqL_mono s13.same s), fun a ha => g M3 _ _ _ ((s1.trans s13).trans (stp_new ha)) (ok_new ok3 ha) (.lst (SqL.of (fz_of (ok3.fresh ha) upd_same)) (RepL.mono (s13.trans (stp_new ha)).same _ _ (rl.cut lo hi))) k⟩
theorem cut_whole {α : Type} {xs : List α} {lo hi : Option Int} (h : HT.sIx xs.length 0 lo = 0 ∧ HT.sIx xs.length xs.length hi = xs.length) : (xs.drop (HT.sIx xs.length 0 lo)).take (HT.sIx xs.length xs.length hi - HT.sIx xs.length 0 lo) = xs := by
  rw [h.1, h.2, List.drop_zero, Nat.sub_zero, List.take_length]
theorem ae_slT {te : TE} {tl th : TO} (h : AE K W Χ Δ te M fun d M1 => ∃ xs, d = .tup xs ∧ AO K W Χ Δ tl M1 fun lo M2 => AO K W Χ Δ th M2 fun hi M3 => Ψ (.tup (cutD xs lo hi)) M3) : AE K W Χ Δ (tSl (rSlA K) te tl th) M Ψ := fun σ H ok sl gx Q g =>
  h σ H ok sl gx _ fun M1 H1 d v s1 ok1 r1 ⟨xs, e, h1⟩ => h1 σ H1 ok1 (sl.mono s1.same) (gx.step s1) _ fun M2 H2 lo s2 ok2 h2 => h2 σ H2 ok2 (sl.mono (s1.trans s2).same) (gx.step (s1.trans s2)) _ fun M3 H3 hi s3 ok3 k => by
    subst e
    cases r1 with
    | tup s rl =>
      rename_i a vs
      have s13 := s2.trans s3
      refine ⟨_, _, rfl, sqT_mono fz_sub (sqT_mono s13.same s), fun hw => ?_, fun hw a ha => g M3 _ _ _ ((s1.trans s13).trans (stp_new ha)) (ok_new ok3 ha) (.tup (SqT.of (fz_of (ok3.fresh ha) upd_same)) (RepL.mono (s13.trans (stp_new ha)).same _ _ (rl.cut lo hi))) k⟩
      have e1 : cutV vs lo hi = vs := cut_whole hw
      have rc := rl.cut lo hi
      rw [e1] at rc
      exact g M3 H3 _ _ (s1.trans s13) ok3 (.tup (sqT_mono s13.same s) (RepL.mono s13.same _ _ rc)) k
/-- xs[::-1] -/
theorem ae_revL {te : TE} (h : AE K W Χ Δ te M fun d M1 => ∃ xs, d = .lst xs ∧ Ψ (.lst xs.reverse) M1) : AE K W Χ Δ (tRevL K te) M Ψ := fun σ H ok sl gx Q g =>
  h σ H ok sl gx _ fun M1 H1 d v s1 ok1 r1 ⟨xs, e, k⟩ => by
    subst e
    cases r1 with
    | lst s rl => exact ⟨_, _, rfl, sqL_mono fz_sub s, fun a ha => g M1 _ _ _ (s1.trans (stp_new ha)) (ok_new ok1 ha) (.lst (SqL.of (fz_of (ok1.fresh ha) upd_same)) (RepL.mono (stp_new ha).same _ _ rl.reverse)) k⟩
theorem ae_revLM {te : TE} (h : AE K W Χ Δ te M fun d M1 => ∃ xs, d = .lst xs ∧ ∀ p, M1 p = none → Ψ (.ref p) (M1.set p (.lst xs.reverse))) : AE K W Χ Δ (tRevL K te) M Ψ := fun σ H ok sl gx Q g =>
  h σ H ok sl gx _ fun M1 H1 d v s1 ok1 r1 ⟨xs, e, k⟩ => by
    subst e
    cases r1 with
    | lst s rl => exact ⟨_, _, rfl, sqL_mono fz_sub s, fun a ha =>
        let st : Stp M1 H1 (M1.set a (.lst xs.reverse)) (upd H1 a (.lst _)) := stp_newM ha
        g _ _ _ _ (s1.trans st) (ok_set ok1 st ⟨_, upd_same, RepL.mono st.same _ _ rl.reverse⟩) (.ref a) (k a (ok1.fresh ha))⟩
/-- t + u -/
theorem ar_catT {xs ys : List D} (hl : xs.length + ys.length ≤ 100000) (k : Ψ (.tup (xs ++ ys)) M) : AR2 K (rCatA K) (.tup xs) (.tup ys) M Ψ := fun H v u ok r1 r2 Q q => by
  cases r1 with
  | tup s1 l1 =>
    cases r2 with
    | tup s2 l2 =>
      have e1 := l1.length
      have e2 := l2.length
      refine ⟨_, _, _, _, rfl, rfl, sqT_mono fz_sub s1, sqT_mono fz_sub s2, Evl.sz_of (by omega), fun z => ?_, fun z1 z2 => ?_, fun z1 z2 a ha => q M _ _ _ (stp_new ha) (ok_new ok ha) (.tup (SqT.of (fz_of (ok.fresh ha) upd_same)) (RepL.mono (stp_new ha).same _ _ (l1.append l2))) k⟩
      · subst z
        have z0 : xs = [] := List.length_eq_zero_iff.mp e1
        subst z0
        exact q.here ok (.tup s2 l2) k
      · subst z2
        have z0 : ys = [] := List.length_eq_zero_iff.mp e2
        subst z0
        rw [List.append_nil] at k
        exact q.here ok (.tup s1 l1) k
/-- {} -/
theorem ae_dic0 {t : TE} (ht : ∀ σ H Q, (∀ d, H d = none → Q (.ref d) (upd H d (.dK []))) → t σ H Q) (k : Ψ (.raw fun _ => .dK []) M) : AE K W Χ Δ t M Ψ := fun σ H ok sl gx Q g =>
  ht σ H Q fun d hd => g M _ _ _ (stp_new hd) (ok_new ok hd) (.raw (fz_of (ok.fresh hd) upd_same)) k
end
end T2
/-! own exceptions: def __init__(self, F): super().__init__(lit); self.F = F -/
namespace T2
open PySem PySem.W PySem.Calls PyProof.Rows PySem.HandSPX
def xA (p1 p2 : Pos) (fx : Str) : Arguments := { posonlyargs := [], args := [{ arg := "self", annotation := none, pos := p1 }, { arg := fx, annotation := none, pos := p2 }], vararg := none, kwonlyargs := [], kw_defaults := [], kwarg := none, defaults := [] }
def xB (fx lit : Str) (k : Nat) (p0 p1 p2 p3 p4 p5 q1 q2 q3 q4 : Pos) : List Stmt :=
  [.Expr (.Call (.Attribute (.Call (.Name "super" p0) [] [] p1) "__init__" p2) [.Constant (.str lit) k p3] [] p4) p5, .Assign [.Attribute (.Name "self" q1) fx q2] (.Name fx q3) q4]
def xS (fx : Str) : Scope := { kind := .function, names := [("self", .local), (fx, .local), ("__class__", .free), ("super", .globalImplicit)], isGenerator := false, isCoroutine := false, more := [] }
/-- the text of __init__ -/
structure XTxt (st : Stmt) (fx : Str) : Prop where
  args : ∃ p1 p2, L2.defArgs st = xA p1 p2 fx
  body : ∃ lit k p0 p1 p2 p3 p4 p5 q1 q2 q3 q4, L2.defBody st = xB fx lit k p0 p1 p2 p3 p4 p5 q1 q2 q3 q4 ∧ (p2.endLine == p4.line) = true
  scope : L2.defScope st = xS fx
  hF : (xS fx).names.lookup fx = some .local
  hS : (xS fx).names.lookup ("super" : Str) = some .globalImplicit
  hC : (xS fx).names.lookup ("__class__" : Str) = some .free
  nF : ((fx : Str) == ("self" : Str)) = false
  nS : (("self" : Str) == fx) = false
  nD : ((fx : Str) == ("__debug__" : Str)) = false
  bind : ∀ (p1 p2 : Pos) (body : List Stmt) (q : Str) (kV doc pm : Value) (an : Option Addr) (cdv ct : Value) (cc : Addr) (u v : Value), bindArgs (ksFn "__init__" q (xA p1 p2 fx) body (xS fx) .none kV doc pm an cdv ct cc) ⟨[u, v], []⟩ = pure [(("self" : Str), u), (fx, v)]
/-- what the written part says of the class at C, its __init__ at fI -/
structure OwnX (P : Program) (K : Frag) (mg : Str → Option Value) (C fI : Addr) (fx : Str) : Prop where
  cls : ∃ nm q N bs bm sn sub ab col dd k0 k1 k2 k3 k5, K.lookup C = some (excClassObj nm q C N bs bm true sn sub ab col dd k0 k1 k2 k3 k5 "ValueError.__new__") ∧ refsVE bm = true ∧ alongIn K "__init__" bm = some (some (.builtin "ValueError.__init__"))
  sa : findIn K (.ref C) "__setattr__" = some (some (.builtin "object.__setattr__"))
  noN : findIn K (.ref C) fx = some none
  iC : findIn K (.ref C) "__init__" = some (some (.ref fI))
  tC : typeIn K (.ref fI) = some (.type "function")
  kC : keepIn K (.ref C) = true
  exC : subIn K (.ref C) (.type "BaseException") = some true
  veC : subIn K (.ref C) (.type "ValueError") = some true
  tyC : typeIn K (.ref C) = some (.type "type")
  op : nsIn K cStatics "thirdparty.any" = some none
  sup : mg "super" = none
  top : (P.main.scope.names.lookup ("super" : Str)).isSome = false
  fn : ∃ (st : Stmt) (q : Str) (oc ccl cl : Value) (od cdd cld : Option Addr) (osl ccs csl : Array (Option Value)) (kV doc pm ct : Value) (an : Option Addr) (cda cc : Addr) (vs : Array Value) (file : Str) (tf : Tok),
    XTxt st fx ∧ K.lookup fI = some ⟨oc, od, .func (ksFn "__init__" q (L2.defArgs st) (L2.defBody st) (L2.defScope st) .none kV doc pm an (.ref cda) ct cc), osl⟩ ∧ codeIn K (.ref cda) q = true ∧
    K.lookup cda = some ⟨ccl, cdd, .fields vs, ccs⟩ ∧ vs[2]? = some (.str file tf) ∧ ((P.main.file : Str) == file) = true ∧ K.lookup cc = some ⟨cl, cld, .cell (some (.ref C)), csl⟩
/-- what __init__ leaves of a fresh exception at x -/
structure XEnd (fx : Str) (h h' : Heap) (x C dx : Addr) (v : Value) : Prop where
  keep : ∀ b o, b ≠ x → h.get? b = some o → h'.get? b = some o
  obj : ∃ t1 : Addr, h'.get? x = some { cls := .ref C, dict := some dx, data := .fields #[.ref t1, .none, .none, .none, .bool false, .none] }
  dbig : h.objs.size ≤ dx
  dne : dx ≠ x
  ns : h'.Ns1 dx (fun y => if y = fx then some v else none)
structure XMade (fx : Str) (h h' : Heap) (e C d : Addr) (v : Value) : Prop where
  keep : ∀ b o, h.get? b = some o → h'.get? b = some o
  new : h.objs.size ≤ e
  obj : ∃ oe vs, h'.get? e = some oe ∧ oe.cls = .ref C ∧ oe.dict = some d ∧ oe.data = .fields vs ∧ vs[1]? = some .none
  dbig : h.objs.size ≤ d
  dne : d ≠ e
  ns : h'.Ns1 d (fun y => if y = fx then some v else none)
section
variable {prog : Program} {w : World} {A : Around} {E : Value → Shared → Prop} {R : Result → Shared → Prop} {s : Shared} {K : Frag} {mg : Str → Option Value} {C fI : Addr} {fx : Str}
theorem x_size (v : Value) : [v].length ≤ sizeLine := by
  rw [sizeLine_eq]
  exact (by decide : 1 ≤ 16777216)
theorem x_call {h : Heap} {g : Array GenState} {d : Drawn} {t : Nat} {os : OsState} {nm q : Str} {N : Addr} {bs bm : List Value} {hdct : Bool} {sn : List Str} {sub : List Value} {ab : Bool} {col : Option Bool} {dd : Option Addr} {k0 k1 k2 k3 k5 : Option Value}
    {u e t0 : Addr} {rest : List Value} {Q : Value → Shared → Prop}
    (hC : h.get? C = some (excClassObj nm q C N bs bm hdct sn sub ab col dd k0 k1 k2 k3 k5 "ValueError.__new__")) (he : h.get? e = some (excO C t0)) (hu : h.get? u = some (kxs_mw "ValueError.__init__" e)) (hrest : rest.length ≤ sizeLine)
    (hq : ∀ h' t1, (∀ b o, b ≠ e → h.get? b = some o → h'.get? b = some o) → h'.get? e = some (excO C t1) → Q .none ⟨h', g, d, t, os⟩) :
    wpAny (model prog w) A (call (.ref u) rest) Q E ⟨h, g, d, t, os⟩ := by
  refine wpAny_call (codeAny_of_tree ?_)
  show wpAny _ A.in1 (callAny (.ref u) ⟨rest, []⟩) _ _ _
  simp only [callAny]
  refine wpAny_bind (wpAny_load hu ?_)
  simp only [kxs_mw, show (Value.type "method-wrapper" == Value.type "method" || Value.type "method-wrapper" == Value.type "builtin_function_or_method" || Value.type "method-wrapper" == Value.type "method-wrapper") = true by decide, if_true]
  refine W.KFB.if_so (by decide) ?_
  refine wpAny_bind (PySem.ESX.check_bound PySem.F.excBase_ValueError hC he rfl ?_)
  refine wpAny_bind (wpAny_pure (wpAny_pure ?_))
  refine ⟨Code.quiet_builtin _ (by decide +kernel), codeAny_builtin PySem.F.excBase_ValueError.initEntry ?_⟩
  rw [Around.under_plainId PySem.F.excBase_ValueError.init.plain _]
  wp_walk
  refine hq _ h.objs.size (fun b o hb ho => ?_) ?_
  · rw [Heap.get?_update_other _ _ (Ne.symm hb)]
    exact Heap.get?_push_of_some _ ho
  · rw [Heap.get?_update_self _ (Heap.get?_push_of_some _ he) rfl]
    rfl
theorem own_init (T : OwnX prog K mg C fI fx) {x t0 : Addr} {v : Value} (X : K.In s.heap) (G : s.heap.Ns mainGlobals mg) (B : ∃ mb, s.heap.Ns builtinsNs mb ∧ ∀ y : Str, y ≠ "__name__" → mb y = bootBuiltins y) (hlim : s.heap.NoLimit)
    (hx : s.heap.get? x = some (excO C t0)) (hnx : K.lookup x = none) (hroom : A.depth < recursionLimit)
    (hq : ∀ h' tk dx, XEnd fx s.heap h' x C dx v → R (.ok (.ret .none)) { s with heap := h', toks := tk }) :
    codeAny (model prog w) A (.call (.ref fI) ⟨[.ref x, v], []⟩) R s := by
  obtain ⟨st, q, oc, ccl, cl, od, cdd, cld, osl, ccs, csl, kV, doc, pm, ct, an, cda, cc, vs, file, tf, TT, hf, hcd, hco, hvs, hfile, hcell⟩ := T.fn
  obtain ⟨nm, qn, N, bs, bm, sn, sub, ab, col, dd, k0, k1, k2, k3, k5, hC, hbm, hal⟩ := T.cls
  obtain ⟨a1, a2, eA⟩ := TT.args
  obtain ⟨lit, kk, p0, p1, p2, p3, p4, p5, q1, q2, q3, q4, eB, hln⟩ := TT.body
  have eS := TT.scope
  rw [eA, eB, eS] at hf
  have hcl : clsIn K C = some { name := nm, bases := bs, mro := .ref C :: bm, ns := N, qualname := qn, hasDict := true, slotNames := sn, subclasses := sub, abstract := ab, collection := col, hasDel := false } := by unfold clsIn; rw [hC] <;> rfl
  obtain ⟨mb, hB, hB2⟩ := B
  have kSuper : ∀ {env : Env}, env.scope = xS fx → env.kindOf "super" = some .globalImplicit := fun {env} e => by unfold Env.kindOf; rw [e]; exact TT.hS
  have kClass : ∀ {env : Env}, env.scope = xS fx → env.kindOf "__class__" = some .free := fun {env} e => by unfold Env.kindOf; rw [e]; exact TT.hC
  have kF : ∀ {env : Env}, env.scope = xS fx → env.kindOf fx = some .local := fun {env} e => by unfold Env.kindOf; rw [e]; exact TT.hF
  have kSelf : ∀ {env : Env}, env.scope = xS fx → env.kindOf "self" = some .local := fun {env} e => by unfold Env.kindOf; rw [e]; rfl
  refine ks_codeAny_call_defAt (fd := ksFn "__init__" q (xA a1 a2 fx) (xB fx lit kk p0 p1 p2 p3 p4 p5 q1 q2 q3 q4) (xS fx) .none kV doc pm an (.ref cda) ct cc) (body := xB fx lit kk p0 p1 p2 p3 p4 p5 q1 q2 q3 q4) (binds := [("self", .ref x), (fx, v)])
    hroom (X _ _ hf) rfl hlim (codeRec_of X hcd) rfl (BindsTo.of_eq (TT.bind _ _ _ _ _ _ _ _ _ _ _ _ _)) ?_ ?_ (fun h₁ hn k => ?_) rfl rfl rfl
  · intro y hy
    unfold ksFn fnX xS at hy
    simp only [List.mem_cons, List.mem_nil_iff, or_false] at hy
    rcases hy with rfl | rfl | rfl | rfl <;> exact fun z => NameKind.noConfusion z
  · intro y hy
    rcases List.mem_cons.mp hy with rfl | hy
    · rfl
    · rcases List.mem_cons.mp hy with rfl | hy
      · exact TT.hF
      · cases hy
  have X₁ : K.In h₁ := X.keeps k
  have hx₁ := k _ _ hx
  have hself : ([(("self" : Str), Value.ref x), (fx, v)].reverse.lookup ("self" : Str)) = some (.ref x) := by
    show List.lookup ("self" : Str) [(fx, v), ("self", .ref x)] = _
    unfold List.lookup
    rw [TT.nS]
    rfl
  have hfv : ([(("self" : Str), Value.ref x), (fx, v)].reverse.lookup fx) = some v := by
    show List.lookup fx [(fx, v), ("self", .ref x)] = _
    unfold List.lookup
    rw [beq_self_eq_true]
  generalize hm : (fun y => [(("self" : Str), Value.ref x), (fx, v)].reverse.lookup y) = m at hn
  have hself' : m "self" = some (.ref x) := by rw [← hm]; exact hself
  have hfv' : m fx = some v := by rw [← hm]; exact hfv
  obtain ⟨hp, g, dr, tk, os⟩ := s
  generalize hL : hp.objs.size = L at hn ⊢
  show _root_.PySem.wpAt _ _ _ (execs (xB fx lit kk p0 p1 p2 p3 p4 p5 q1 q2 q3 q4) (ksEnv q (xS fx) L fI (.ref cda) cc)) _ _ _
  have he : ∀ (o e : Expr) (env : Env) (ov : Value), starEach [e] env = [(false, eval e env)] → methodCall o "__init__" p2 p4 env ov 1 (backTo p4 (starEach [e] env)) [] = (do
      let (f, first) ← holding [ov] (getMethod ov "__init__" (do return (← importBound o env).getD true))
      callWith p4 f first (backTo p4 (starEach [e] env)) []) := fun o e env ov hs => by
    have hform : methodCallForm 1 (backTo p4 (starEach [e] env)) [] = true := by rw [hs]; rfl
    unfold methodCall methodCallPos calleeOf
    simp only [hform, hln, Bool.not_true, Bool.false_or, if_true, pure_bind]
  refine ks_wpAt_execs_cons (ks_wpAt_Expr_any (ks_wpAt_MethodCall (pl := do return (← importBound (.Call (.Name "super" p0) [] [] p1) (ksEnv q (xS fx) L fI (.ref cda) cc)).getD true) ?_ ?_))
  rotate_left
  · simp only [← he _ _ _ _ (show starEach [Expr.Constant (Const.str lit) kk p3] (ksEnv q (xS fx) L fI (.ref cda) cc) = [(false, eval (Expr.Constant (Const.str lit) kk p3) (ksEnv q (xS fx) L fI (.ref cda) cc))] from rfl)]
    rfl
  -- super()
  refine ks_wpAt_super_base (kSuper rfl) (kClass rfl) (by decide) rfl (X₁ _ _ hf) rfl (ar := { arg := "self", annotation := none, pos := a1 }) rfl rfl (X₁ _ _ hco) rfl hvs hfile T.top ?_
  refine ks_loadName_global rfl (kSuper rfl) (loadGlobal_builtin (env := ksEnv q (xS fx) L fI (.ref cda) cc) (G.keeps k) T.sup (hB.keeps k) ((hB2 "super" (by decide +kernel)).trans (by first | boot_by_name | rfl | kernel_rfl)) ⟨rfl, ?_⟩)
  refine wpAny_loadName_free rfl (kClass rfl) rfl ⟨_, X₁ _ _ hcell, rfl⟩ ?_
  refine wpAny_loadName_local rfl (kSelf rfl) hn hself' ?_
  refine ks_wpAny_isType_cls (X₁ _ _ hC) rfl ⟨rfl, ?_⟩
  have hsub : mroIn K C (.ref C) = some true := by
    unfold mroIn
    rw [hcl, Option.bind_some]
    simp
  refine ks_wpAny_call_super (X₁ _ _ hC) rfl hx₁ rfl (fun c e => by cases e) (looks_mroIn X₁ hsub) (fun h₂ hso k₂ => ?_)
  have X₂ : K.In h₂ := X₁.keeps k₂
  have hC₂ := X₂ _ _ hC
  have hx₂ := k₂ _ _ hx₁
  have I₂ : InstAt h₂ x (excO C t0) C none := ⟨hx₂, rfl, rfl, trivial⟩
  have hxC : x ≠ C := ks_ne X₂ I₂ hcl
  have hmro : Looks (model prog w) h₂ (mroOf (.ref C)) (.ref C :: bm) := fun A Q E s k q => wpAny_bind ((looks_clsIn X₂ hcl) A _ E s k (wpAny_pure q))
  have hI : Looks (model prog w) h₂ (isInstance (.ref x) (.type "ValueError")) true := I₂.type.andThen (looks_subIn X₂ T.veC)
  have hdrop : ((Value.ref C :: bm).dropWhile (· != .ref C)).drop 1 = bm := by simp [List.dropWhile_cons]
  refine kxs_getMethod kxs_ValueError hso (looks_opaque X₂ T.op) hmro hdrop X₂ hal hI hxC (by decide) ?_
  -- the call
  have kp : ∀ b o, h₂.get? b = some o → (h₂.push (kxs_mw "ValueError.__init__" x)).get? b = some o := fun b o e => Heap.get?_push_of_some _ e
  have hmw : (h₂.push (kxs_mw "ValueError.__init__" x)).get? h₂.objs.size = some (kxs_mw "ValueError.__init__" x) := Heap.get?_push_at rfl rfl
  refine kxs_callWith (i := "ValueError.__init__") (x := x) rfl ?_
  refine evalArgs_plain (spliced_cons (Constant_str (k := kk) (pos := p3) (spliced_nil ⟨hmw, ?_⟩)))
  refine x_call (kp _ _ hC₂) (kp _ _ hx₂) hmw (x_size _) fun h₄ t1 k₄ hx₄ => ?_
  -- self.f = f
  have ne2 : ∀ {b : Addr} {o : Obj}, hp.get? b = some o → b ≠ x → h₄.get? b = some o := fun {b o} e hb => k₄ b o hb (kp _ _ (k₂ _ _ (k _ _ e)))
  have hK₄ : K.In h₄ := fun a o e => k₄ a o (fun z => by rw [z, hnx] at e; cases e) (kp _ _ (X₂ _ _ e))
  have hn₄ : h₄.Ns L m := by
    obtain ⟨oL, es, ep, e1, r⟩ := hn
    refine ⟨oL, es, ep, k₄ _ _ (fun z => ?_) (kp _ _ (k₂ _ _ e1)), r⟩
    have hlt := Heap.lt_size (show hp.get? x = some _ from hx)
    rw [hL, z] at hlt
    exact Nat.lt_irrefl _ hlt
  refine wpAt_of_wpAny (wpAny_execs_cons (plainObj_wpAny_Assign_Attribute ?_))
  refine wpAny_Name (wpAny_loadName_local rfl (kF rfl) hn₄ hfv' ?_) TT.nD
  refine wpAny_Name (wpAny_loadName_local rfl (kSelf rfl) hn₄ hself' ?_) (by decide)
  refine set_plain hK₄ (ox := excO C t1) (od := none) ⟨hx₄, rfl, rfl, trivial⟩ T.sa ?_
  refine exc_osa hK₄ hx₄ hcl (show refsVE (.ref C :: bm) = true from hbm) rfl T.noN (fun h₅ tk₅ dx k₅ dn dne hx₅ hn₅ => ?_)
  show wpAny _ _ (execs _ _) _ _ _
  refine wpAny_execs_nil (hq h₅ tk₅ dx ⟨fun b o hb e => k₅ b o hb (ne2 e hb), ⟨_, hx₅⟩, ?_, dne, hn₅⟩)
  have z := hn₄.lt
  rw [← hL] at z
  exact Nat.le_of_lt (Nat.lt_of_lt_of_le z dn)
theorem own_made (T : OwnX prog K mg C fI fx) {v : Value} (X : K.In s.heap) (G : s.heap.Ns mainGlobals mg) (B : ∃ mb, s.heap.Ns builtinsNs mb ∧ ∀ y : Str, y ≠ "__name__" → mb y = bootBuiltins y) (hlim : s.heap.NoLimit) (hroom : A.depth + 1 < recursionLimit)
    (hq : ∀ h' tk e d, XMade fx s.heap h' e C d v → R (.ok (.ret (.ref e))) { s with heap := h', toks := tk }) :
    codeAny (model prog w) A (.call (.ref C) ⟨[v], []⟩) R s := by
  obtain ⟨nm, q, N, bs, bm, sn, sub, ab, col, dd, k0, k1, k2, k3, k5, hC, hbm, _⟩ := T.cls
  obtain ⟨hp, g, dr, tk, os⟩ := s
  have k : ∀ b o, hp.get? b = some o → ((hp.push (kdv_tup [v])).push (excO C hp.objs.size)).get? b = some o := fun b o e => Heap.get?_push_of_some _ (Heap.get?_push_of_some _ e)
  have hget : ((hp.push (kdv_tup [v])).push (excO C hp.objs.size)).get? (hp.objs.size + 1) = some (excO C hp.objs.size) := by heap_get
  have hnx : K.lookup (hp.objs.size + 1) = none := by
    cases e : K.lookup (hp.objs.size + 1) with
    | none => rfl
    | some o =>
      have z : hp.get? (hp.objs.size + 1) = some o := X _ _ e
      exact absurd (Nat.lt_of_succ_lt (Heap.lt_size z)) (Nat.lt_irrefl _)
  obtain ⟨mb, hB, hB2⟩ := B
  refine call_own PySem.F.excBase_ValueError (fun X => refsVE_contains X bm hbm) (X _ _ hC) (looks_findIn X T.iC) (fun self => bind_fn X self T.tC) (x_size v) ?_
  refine own_init (s := ⟨(hp.push (kdv_tup [v])).push (excO C hp.objs.size), g, dr, tk, os⟩) T (X.keeps k) (G.keeps k) ⟨mb, hB.keeps k, hB2⟩ (hlim.keeps k) hget hnx ?_ fun h' tk' dx ⟨k', ⟨t1, hx⟩, dn, dne, hns⟩ => ?_
  · show A.depth + 1 < recursionLimit
    exact hroom
  · have old : ∀ b o, hp.get? b = some o → h'.get? b = some o := fun b o e => k' b o (Nat.ne_of_lt (Nat.lt_succ_of_lt (Heap.lt_size e))) (k b o e)
    have z : hp.objs.size + 1 + 1 ≤ dx := by
      first
        | (simpa only [Heap.size_push] using dn)
        | exact dn
        | (have q := dn; rw [Heap.size_push, Heap.size_push] at q; exact q)
    exact ⟨rfl, hq h' tk' (hp.objs.size + 1) dx ⟨old, Nat.le_succ _, ⟨_, _, hx, rfl, rfl, rfl, rfl⟩, Nat.le_trans (Nat.le_trans (Nat.le_succ _) (Nat.le_succ _)) z, dne, hns⟩⟩
end
end T2
namespace T2
open PySem PySem.Spec PyProof.Rows L2 RZ
theorem relO_one {v : V} {v' : Value} {fx : Str} (r : RelV v v') (f : Str) : RelO (List.lookup f [(fx, v)]) (if f = fx then some v' else none) := by
  by_cases hw : f = fx
  · subst hw
    rw [if_pos rfl]
    have q : List.lookup f [(f, v)] = some v := by simp [List.lookup]
    rw [q]
    exact r
  · rw [if_neg hw]
    have qw : (f == fx) = false := by simpa using hw
    have q2 : List.lookup f [(fx, v)] = none := by simp [List.lookup, qw]
    rw [q2]
    trivial
section
variable {X : Cx} {C fI : Addr} {fx : Str}
/-- C(e) -/
def tMkx (fx : Str) (C : Addr) (ta : TA) : L2.St → Hp → XK → Prop := fun σ H Q => ta σ H fun vs H1 => ∃ v, vs = [v] ∧ ∀ d, H1 d = none → Q (.ref C) (some d) (upd H1 d (.xd [(fx, v)]))
theorem pmk_own {a : Expr} {ta : TA} {x : Str} {p pos : Pos} {k : Nat} (T : OwnX X.prog X.K X.mg C fI fx) (hr : Room k X.A) (hm : X.mg x = some (.ref C)) (ha : PA X [a] ta) (hg : Gl X x := by rfl) (hdb : (x == ("__debug__" : Str)) = false := by decide)
    (he : starEach (a :: []) X.env = (false, eval a X.env) :: starEach [] X.env := by rfl) (hpl : (backTo pos (starEach [] X.env)).any (·.1) = false := by rfl) :
    PMk X (.Call (.Name x p) [a] [] pos) (tMkx fx C ta) := by
  intro pins s σ H Q I h
  refine wpAny_Call_Name_kw (ld_glob I hg hm ?_ hdb)
  refine PySem.W.callWith_K (h₀ := X.base) I.ok.mod.kin T.kC (thn (ha.run pos pins s σ H _ I h) fun us s1 hh => ?_) he hpl
  obtain ⟨vs, H1, I1, r1, v, ev, q1⟩ := hh
  subst ev
  refine ⟨I1.kIn, ?_⟩
  cases r1 with
  | cons rv rn =>
    rename_i v' us'
    cases rn
    show wpAny _ _ (call (.ref C) [v']) _ _ _
    have hlim := I1.nolimit
    have hG := I1.mod.glob.keeps I1.bk
    obtain ⟨mb, hB0, hB2⟩ := I1.mod.blt
    have hB := hB0.keeps I1.bk
    obtain ⟨hp, g, dr, tk, os⟩ := s1
    refine wpAny_call (own_made T I1.kIn hG ⟨mb, hB, hB2⟩ hlim (by have := hr.dp; omega) fun h' tk' e d M => ?_)
    show MkP X pins σ Q (.ref e) ⟨h', g, dr, tk', os⟩
    obtain ⟨oe, fv, hoe, hc, hd, hdat, h1⟩ := M.obj
    have hns := M.ns
    obtain ⟨G', g1, g2⟩ := restrict h' fun b => decide (b ≠ e)
    have gk : ∀ b, b ≠ e → G'.get? b = h'.get? b := fun b hb => g1 b (decide_eq_true hb)
    have ge : G'.get? e = none := g2 e (by simp)
    have old : ∀ b o, hp.get? b = some o → G'.get? b = some o := fun b o q => (gk b (Nat.ne_of_lt (Nat.lt_of_lt_of_le (Heap.lt_size q) M.new))).trans (M.keep b o q)
    have ob : ObjOk X.prog X.w (upd H1 d (.xd [(fx, v)])) G' d (.xd [(fx, v)]) :=
      ⟨_, hns.at (fun o q => (gk d M.dne).trans q), fun f => relO_one rv f⟩
    have J : Inv X pins σ (upd H1 d (.xd [(fx, v)])) ⟨G', g, dr, tk', os⟩ := I1.laid (t' := tk') old M.dbig ob
    refine ⟨e, oe, fv, ⟨G', g, dr, tk', os⟩, _, .ref C, some d, rfl, J, fun b o q => ?_, ge, hoe, ⟨hc, hd⟩, hdat, h1, ?_, rfl, I1.bare, raises_own T.exC T.tyC, q1 d (I1.hok.fresh M.dbig)⟩
    · by_cases hb : b = e
      · have q' : G'.get? b = some o := q
        rw [hb, ge] at q'; cases q'
      · exact (gk b hb).symm.trans q
    · rw [upd_ne (Ne.symm M.dne)]
      exact I1.hok.fresh M.new
/-- raise C(e) -/
def tRaiseX (fx : Str) (C : Addr) (W : WX) (ta : TA) : TS := fun _ σ H => tMkx fx C ta σ H fun cls d H' => W cls d σ H'
theorem ps_raiseX {a : Expr} {ta : TA} {W : WX} {x : Str} {p pos pos2 : Pos} {k : Nat} (hc : X.calm = true) (T : OwnX X.prog X.K X.mg C fI fx) (hr : Room k X.A) (hm : X.mg x = some (.ref C)) (tk : Takes X W) (ha : PA X [a] ta) (hg : Gl X x := by rfl) (hdb : (x == ("__debug__" : Str)) = false := by decide)
    (he : starEach (a :: []) X.env = (false, eval a X.env) :: starEach [] X.env := by rfl) (hpl : (backTo pos (starEach [] X.env)).any (·.1) = false := by rfl) :
    PS X (.Raise (some (.Call (.Name x p) [a] [] pos)) none pos2) (tRaiseX fx C W ta) := ps_raise hc tk (pmk_own T hr hm ha hg hdb he hpl)
end
/-- raise over trees -/
theorem as_raiseX {K : PySem.W.Frag} {W : WX} {M : Mem} {P : Post} {Δ : Sls} {ta : TA} {fx : Str} {C : Addr} (h : AA K W (fun c f M' => P.xr c f Δ M') Δ ta M fun xs M1 => ∃ v, xs = [v] ∧ P.xr (.ref C) [(fx, v)] Δ M1) :
    AS K W (tRaiseX fx C W ta) P Δ M := fun σ H ok sl D gp =>
  h σ H ok sl (gp.x sl) _ fun M1 H1 xs vs s1 ok1 r1 ⟨v, e, k⟩ => by
    subst e
    cases r1 with
    | cons r1 r2 =>
      cases r2
      rename_i u
      refine ⟨u, rfl, fun d hd => ?_⟩
      have s2 : Stp M1 H1 M1 (upd H1 d (.xd [(fx, u)])) := stp_new hd
      exact gp.xr Δ M1 σ _ (.ref C) d [(fx, v)] _ (s1.trans s2) (ok_new ok1 hd) (sl.mono (s1.trans s2).same) upd_same (ok1.fresh hd) (.cons (Rep.mono s2.same _ _ r1) .nil) k
end T2
/-! own exceptions that are caught: except X as e, e.f, isinstance(e, C) -/
namespace T2
open PySem PySem.W PySem.Spec PySem.Calls PyProof.Rows
section
variable {prog : Program} {w : World} {A : Around} {E : Value → Shared → Prop} {s : Shared} {K : Frag} {x D : Addr} {ox : Obj}
theorem findObj_dat {C : Addr} {od : Option Obj} {name : Str} {a g : Value} (hc : (clsIn K C).isSome = true) (ha : findIn K (.ref C) name = some (some a)) (hg : specialIn K a "__get__" = some (some g)) (ht : takesIn K a = some true) : findObj K C od name = some (.bind g a) := by
  obtain ⟨cd, hc⟩ := Option.isSome_iff_exists.mp hc
  unfold findObj
  rw [hc, Option.bind_some, ha, Option.bind_some]
  simp [hg, ht]
theorem clsX {od : Option Obj} {Q : Option Value → Shared → Prop} (hga : findIn K (.ref D) "__getattribute__" = some (some (.builtin "BaseException.__getattribute__"))) (hgt : findIn K (.ref D) "__getattr__" = some none) (hsub : subIn K (.ref D) (.type "BaseException") = some true)
    (hdct : hasDictIn K D = true) (ha : findIn K (.ref D) "__class__" = some (some (.builtin "object.__class__")))
    (hn : specialIn K (.builtin "object.__class__") "__get__" = some (some (.builtin "getset_descriptor.__get__"))) (htk : takesIn K (.builtin "object.__class__") = some true) (hm : mroIn K D (.type "object") = some true)
    (X : K.In s.heap) (I : InstAt s.heap x ox D od) (h : Q (some (.ref D)) { s with toks := s.toks + 1 }) : wpAny (model prog w) A (getAttr? (.ref x) "__class__") Q E s := by
  have hf : findObj K D od "__class__" = some (.bind (.builtin "getset_descriptor.__get__") (.builtin "object.__class__")) := findObj_dat (by obtain ⟨cd, hc, _⟩ := any_some hdct; rw [hc]; rfl) ha hn htk
  obtain ⟨hp, g, d, t, os⟩ := s
  have L0 := I.type (M := model prog w)
  have L1 := looks_findIn (M := model prog w) X hga
  have L2 := looks_findIn (M := model prog w) X hgt
  have L3 := looks_find (M := model prog w) X I hf
  have sub : Looks (model prog w) hp (isInstance (.ref x) (.type "BaseException")) true := L0.andThen (looks_subIn X hsub)
  have hx0 : (false && onTheHeap (Value.builtin "BaseException.__getattribute__")) = false := rfl
  have hx2 : (Value.builtin "BaseException.__getattribute__" == Value.builtin "object.__getattribute__") = false := by decide +kernel
  have hx1 : (onTheHeap (Value.ref D) && Value.builtin "BaseException.__getattribute__" == Value.builtin "object.__getattribute__") = false := by rw [hx2]; rfl
  unfold getAttr? getAttrBy? getAttrBy
  refine wpAny_bind (wpAny_mkText (wpAny_bind (wpAny_attempt (wpAny_holding (wpAny_bind (L0.at (wpAny_bind (L1.at ?_))))))))
  show wpAny _ _ (if (onTheHeap (Value.ref D) && Value.builtin "BaseException.__getattribute__" == Value.builtin "object.__getattribute__") = true then _ else _) _ _ _
  rw [hx1, if_neg Bool.false_ne_true]
  unfold getAttrByItsOwn hookBefore
  refine wpAny_bind ?_
  rw [if_pos (show onTheHeap (Value.ref D) = true from rfl)]
  refine L2.at ?_
  refine wpAny_bind (wpAny_attempt (wpAny_holding ?_))
  unfold callGetattribute
  rw [hx0, if_neg Bool.false_ne_true]
  unfold boundAndCalled
  rw [PySem.F.excAttr_ValueError.ga.bind (.ref x)]
  refine wpAny_bind (wpAny_pure ?_)
  show wpAny _ _ (call (.builtin "BaseException.__getattribute__") [.ref x, .str "__class__" t]) _ _ _
  refine wpAny_call (codeAny_call_builtin PySem.F.excAttr_ValueError.ga.plain PySem.F.entry_bexc_ga ?_)
  refine @check_slot (model prog w) _ _ ⟨hp, g, d, t + 1, os⟩ "BaseException.__getattribute__" "BaseException" "__getattribute__" (.ref x) [.str "__class__" t] [] _ (by decide +kernel) (by decide +kernel) sub (PySem.F.args_bexc_ga (.ref x) (.str "__class__" t)) ?_
  unfold Builtin.«object.__getattribute__»
  refine wpAny_bind (wpAny_of_eq (a := ((Value.ref x : Value), [Value.str "__class__" t])) (by first | rfl | (simp only [slotArgs]; rfl)) ?_)
  refine wpAny_bind (wpAny_pure (wpAny_bind (L0.at (wpAny_bind (L3.at ?_)))))
  show wpAny _ _ (holding [Value.builtin "object.__class__"] (call (.builtin "getset_descriptor.__get__") [.builtin "object.__class__", .ref x, .ref D]) >>= ret) _ _ _
  refine wpAny_bind (wpAny_holding (wpAny_call (class_get (s := ⟨hp, g, d, t + 1, os⟩) (ox := ox) (od := od) X I hm ?_)))
  refine wpAny_pure ?_
  show wpAny _ _ (handedOut (.ref D)) _ _ _
  rw [handedOut_of (v := .ref D) rfl]
  first
    | exact wpAny_pure (wpAny_pure h)
    | exact wpAny_pure h
    | exact wpAny_pure (wpAny_bind (wpAny_pure (wpAny_pure h)))
theorem kitX_own {od : Option Obj} (hga : findIn K (.ref D) "__getattribute__" = some (some (.builtin "BaseException.__getattribute__"))) (hgt : findIn K (.ref D) "__getattr__" = some none) (hsub : subIn K (.ref D) (.type "BaseException") = some true) (hdct : hasDictIn K D = true) (ha : findIn K (.ref D) "__class__" = some (some (.builtin "object.__class__")))
    (hn : specialIn K (.builtin "object.__class__") "__get__" = some (some (.builtin "getset_descriptor.__get__"))) (htk : takesIn K (.builtin "object.__class__") = some true) (hm : mroIn K D (.type "object") = some true) :
    KitX K (.ref x) (.ref D) (fun h => InstAt h x ox D od) where
  ty := fun _ _ _ I => I.type
  it := fun _ _ X _ => by
    obtain ⟨cdD, hcD, _⟩ := any_some hdct
    unfold clsIn at hcD
    split at hcD
    · rename_i c' d' cd' sl' ho
      intro A' Q' E' s' k q
      unfold isType loadHead
      exact wpAny_bind (wpAny_loadPart (k _ _ (X _ _ ho)) (wpAny_pure q))
    · cases hcD
  ne := fun h tp dd its n sl X htp => by
    obtain ⟨cdD, hcD, _⟩ := any_some hdct
    refine Bool.eq_false_iff.mpr fun q => ?_
    have e : D = tp := Value.ref.inj (beq_iff_eq.mp q)
    subst e
    unfold clsIn at hcD
    split at hcD
    · rename_i c' d' cd' sl' ho
      have z := (X _ _ ho).symm.trans htp
      cases z
    · cases hcD
  ca := fun X I k => clsX hga hgt hsub hdct ha hn htk hm X I k
end
end T2
namespace T2
open PySem PySem.Spec PyProof.Rows L2 RZ
def rIsX (K : PySem.W.Frag) (a : Addr) (cls : Value) (d : Option Addr) : List V → Hp → VK → Prop := fun xs H Q => ∃ (C dd C2 : Addr) (fv : List (Str × V)) (b : Bool), xs = [.ref a, .ref C2] ∧ cls = .ref C ∧ d = some dd ∧ H dd = some (.xd fv) ∧ ExcC K C ∧ PySem.W.kitOne K (.ref C) (.ref C2) = some b ∧ Q (.bl b) H
theorem call_isX {X : Cx} {a : Addr} {cls : Value} {d : Option Addr} {oe : Obj} {pn : List (Addr × Obj)} (hz : Zc cls d oe) (hf : ∃ vs, oe.data = .fields vs) : CallR (X.suite a ((a, oe) :: pn)) (.builtin "isinstance") (rIsX X.K a cls d) := by
  intro pins s σ H xs us Q I r h
  obtain ⟨C, dd, C2, fv, b, rfl, ec, ed, hH, T, e, q⟩ := h
  subst ec ed
  cases r with
  | cons rx rr =>
    cases rr with
    | cons rt rr =>
      cases rr
      cases rx
      obtain ⟨hget, _⟩ := I.pin (a, oe) (List.mem_append.mpr (.inl List.mem_cons_self))
      obtain ⟨vs, hv⟩ := hf
      have hx : ObjOk X.prog X.w H s.heap dd (.xd fv) := I.hok dd _ hH
      obtain ⟨mA, hns, hr⟩ := hx
      obtain ⟨od, ho, hl⟩ := lookIn_ns hns
      have J : PySem.W.InstAt s.heap a oe C (some od) := ⟨hget, hz.1, by unfold PySem.W.notCls; rw [hv] <;> rfl, by rw [hz.2]; exact ho⟩
      obtain rfl := (show _ = Value.ref C2 from rt)
      exact PySem.W.kia_one (kitX_own T.hg T.hk T.hs T.hd T.ha T.hn T.ht T.hm) I.kIn J e (fun z => nomatch z) fun tk => ⟨.bl b, H, I.kept (t' := tk) fun _ _ z => z, rfl, q⟩
/-- e.f, whatever own class e is of -/
def tXfA (K : PySem.W.Frag) (a : Addr) (cls : Value) (d : Option Addr) (f : Str) (te : TE) : TE := fun σ H Q => ∃ C, XfC K C ∧ PySem.W.findIn K (.ref C) f = some none ∧ tXf a cls d C f te σ H Q
theorem pe_xfA {X : Cx} {a : Addr} {oe : Obj} {cls : Value} {d : Option Addr} {pn : List (Addr × Obj)} {e : Expr} {te : TE} {pos : Pos} {n : Str} (hz : Zc cls d oe) (hf : ∃ vs, oe.data = .fields vs) (he : PE (X.suite a ((a, oe) :: pn)) e te)
    (hb : attributeBase e n X.env (eval e X.env) = eval e X.env := by rfl) : PE (X.suite a ((a, oe) :: pn)) (.Attribute e n pos) (tXfA X.K a cls d n te) :=
  ⟨fun pins s σ H Q I ⟨C, T, hno, h⟩ => (pe_xf (X := X) (C := C) T hno hz hf he hb).run pins s σ H Q I h⟩
def tTryAs (K : PySem.W.Frag) (c : Value) (i : Nat) (tb : WX → TS) (ts : Addr → Value → Option Addr → TS) (Wout : WX) : TS := fun D σ H => tb (wAs K c i ts Wout D) D σ H
section
variable {K : PySem.W.Frag} {W : WX} {M : Mem} {P : Post} {Δ : Sls} {Χ : Exc} {Ψ : PsiE}
/-- try: .. except C as e: .. -/
theorem as_tryAs {c : Value} {i : Nat} {tb : WX → TS} {ts : Addr → Value → Option Addr → TS}
    (h : ∀ W', AS K W' (tb W') { P with xr := fun cls fs Δ' M' => ∃ b, PySem.W.exmOne K cls c = some b ∧
      (b = true → ∀ a dd, M' a = none → AS K W0 (ts a cls (some dd)) { nx := fun Δ2 M2 => P.nx (Δ2.set i none) M2, rt := P.rt, bk := fun Δ2 M2 => P.bk (Δ2.set i none) M2, ct := fun Δ2 M2 => P.ct (Δ2.set i none) M2 } (Δ'.set i (some (.exc a dd fs))) M') ∧
      (b = false → P.xr cls fs Δ' M') } Δ M) : AS K W (tTryAs K c i tb ts W) P Δ M := fun σ H ok sl D gp =>
  h (wAs K c i ts W D) σ H ok sl D ⟨gp.nx, gp.rt, gp.bk, gp.ct, fun Δ' M' σ' H' cls d fs vs s' ok' sl' hx hm rf ⟨b, e1, e2, e3⟩ => ⟨b, e1, fun hb a ha => by
    refine e2 hb a d (ok'.fresh ha) (σ'.set i (some (.ref a))) H' ok' (sl'.set (.exc (fz_of hm hx) rf)) _ ⟨?_, gp.rt.step s', ?_, ?_, ?_⟩
    · exact fun Δ2 M2 σ2 H2 s2 o2 l2 p => gp.nx _ M2 _ H2 (s'.trans s2) o2 (slots_gone l2) p
    · exact fun Δ2 M2 σ2 H2 s2 o2 l2 p => gp.bk _ M2 _ H2 (s'.trans s2) o2 (slots_gone l2) p
    · exact fun Δ2 M2 σ2 H2 s2 o2 l2 p => gp.ct _ M2 _ H2 (s'.trans s2) o2 (slots_gone l2) p
    · exact fun _ _ _ _ _ _ _ _ _ _ _ _ _ _ p => p, fun hb => gp.xr Δ' M' σ' H' cls d fs vs s' ok' sl' hx hm rf (e3 hb)⟩⟩
/-- e.f -/
theorem ae_xf {a dd : Addr} {C : Addr} {f : Str} {te : TE} (T : XfC K C) (hno : PySem.W.findIn K (.ref C) f = some none) (h : AE K W Χ Δ te M fun x M1 => ∃ fs v, x = .exc a dd fs ∧ fs.lookup f = some v ∧ Ψ v M1) : AE K W Χ Δ (tXfA K a (.ref C) (some dd) f te) M Ψ := fun σ H ok sl gx Q g => ⟨C, T, hno,
  h σ H ok sl gx _ fun M1 H1 x u s1 ok1 r1 ⟨fs, v, e, hl, k⟩ => by
    subst e
    cases r1 with
    | exc hF rf =>
      obtain ⟨v', hv, rv⟩ := rf.lookup hl
      exact ⟨rfl, rfl, dd, _, v', rfl, fz_sub _ _ hF, hv, g M1 H1 v v' s1 ok1 rv k⟩⟩
theorem arl_isX {a dd C C2 : Addr} {fs : List (Str × D)} {b : Bool} (T : ExcC K C) (e : PySem.W.kitOne K (.ref C) (.ref C2) = some b) (k : Ψ (.bl b) M) : ARL K (rIsX K a (.ref C) (some dd)) [.exc a dd fs, .ref C2] M Ψ := fun H vs ok r Q q => by
  cases r with
  | cons r1 r2 =>
    cases r2 with
    | cons r2 r3 =>
      cases r3
      cases r2
      cases r1 with
      | exc hF rf => exact ⟨C, dd, C2, _, b, rfl, rfl, rfl, fz_sub _ _ hF, T, e, q.here ok (.bl b) k⟩
end
end T2
/-! the end, for promises over trees; how arguments bind -/
namespace T2
open PySem PySem.Spec PyProof.Rows L2 RZ
theorem cx_no {P : Program} {w : World} {R : List Env} {H : Hp} {s s' : Shared} {e : Value} (h : L2.CX P w R H s (fun _ _ _ => False) e s') : False := by
  obtain ⟨_, _, _, _, _, _, _, _, _, _, _, _, z⟩ := h
  exact z
/-- THE HEAD: the law's promise, at the heap behind the top. F, the promise of the law's def, may use that base is part of the heap (so K.In base, base.Ns mainGlobals mg stand in Mod) -/
theorem law_callG {P : Program} {w : World} {K : PySem.W.Frag} {mg mb : Str → Option Value} {k : Nat} {fa a : Addr} {fd : FuncData} {x : Str} {sp : Sp} {s₁ : Shared} {vs : List Value} {ns : List Int}
    (KX : K.In s₁.heap) (hns : s₁.heap.Ns mainGlobals mg) (hb : s₁.heap.Ns builtinsNs mb) (hbb : ∀ x : Str, x ≠ "__name__" → mb x = bootBuiltins x) (hlim : s₁.heap.NoLimit) (hg : s₁.gens = #[])
    (ha : s₁.heap.get? a = some { cls := .type "list", data := .seq vs.toArray }) (hi : IntsAre vs ns) (hl : ns.length ≤ sizeLine) (hr : Room k callerA)
    (F : ∀ base : Heap, K.In base → base.Ns mainGlobals mg → FnG P w K mg base k fa fd [x] sp) (hbind : ∀ (s : Shared) (u : Value), BindsTo s fd ⟨[u], []⟩ [(x, u)])
    (hsp : ∀ H : Hp, Only H → SqL K H a (ns.map V.int) → sp [.ref a] H (fun v _ => v = .bl true) fun _ _ _ => False)
    :
    codeAny (model P w) callerA (.call (.ref fa) ⟨[.ref a], []⟩) (fun r s' => r = .ok (.ret (.bool true)) ∧ OldK s₁.heap s'.heap ∧ s'.os = s₁.os ∧ AllBare s'.gens) s₁ := by
  have rv := vals_ints hi
  have lenV := hi.length
  -- from an abstract heap in which nothing but the script may be tracked
  have core : ∀ H : Hp, Only H → SqL K H a (ns.map V.int) → HOk P w H s₁.heap → (∀ b, H b ≠ none → b = a) → (H a ≠ none → K.lookup a = none) →
      codeAny (model P w) callerA (.call (.ref fa) ⟨[.ref a], []⟩) (fun r s' => r = .ok (.ret (.bool true)) ∧ OldK s₁.heap s'.heap ∧ s'.os = s₁.os ∧ AllBare s'.gens) s₁ := by
    intro H hO hS hok hA hK
    have base_of : ∀ {b : Addr} {o : Obj}, s₁.heap.get? b = some o → H b = none → (hidT s₁.heap H).get? b = some o := fun e n => hidT_get e n
    have noA : ∀ {b : Addr} {o : Obj} {es : Array DictEntry} {ep : Nat}, s₁.heap.get? b = some o → o.data = .dict es ep → H b = none := fun {b o es ep} e d => by
      cases q : H b with
      | none => rfl
      | some u =>
        have e' : b = a := hA b (by rw [q]; simp)
        subst e'
        rw [ha] at e; cases e
        have d' : Data.seq vs.toArray _ = Data.dict es ep := d
        cases d'
    have nsK : ∀ {b : Addr} {m : Str → Option Value}, s₁.heap.Ns b m → (hidT s₁.heap H).Ns b m := fun {b m} ⟨o, es, ep, e, d, r⟩ => ⟨o, es, ep, base_of e (noA e d), d, r⟩
    have hKb : K.In (hidT s₁.heap H) := fun b o e => base_of (KX b o e) (by
      cases q : H b with
      | none => rfl
      | some u =>
        have e' : b = a := hA b (by rw [q]; simp)
        subst e'
        rw [hK (by rw [q]; simp)] at e; cases e)
    have hM : Mod K mg (hidT s₁.heap H) := ⟨hKb, nsK hns, ⟨mb, nsK hb, hbb⟩, let ⟨mc, h1, h2⟩ := hlim; ⟨mc, nsK h1, h2⟩⟩
    have e0 : Env0 P w K mg (hidT s₁.heap H) callerA [] s₁ H := ⟨rfl, hM, fun b o e => of_hidT e, Nat.le_of_eq (hidT_size _ _), trivial, fun b hb => absurd (show b ∈ ([] : List Addr) from hb) (by simp), hok, .of_eq hg⟩
    refine codeAny_mono ((F _ hKb (nsK hns)).run callerA [] s₁ H ⟨[.ref a], []⟩ [.ref a] [.ref a] _ _ hr rfl e0 (hbind s₁ (.ref a)) (.cons rfl .nil) (hsp H hO hS)) fun r s' h => ?_
    cases r with
    | error e => exact (cx_no h).elim
    | ok fl =>
      cases fl with
      | next => exact False.elim h
      | brk => exact False.elim h
      | cont => exact False.elim h
      | ret u =>
        obtain ⟨v, H', os, bare, un, hok', r', q⟩ := h
        have q' : v = .bl true := q
        subst q'
        obtain rfl : u = Value.bool true := r'
        refine ⟨rfl, OldK.of_keep fun b o e => ?_, os, bare⟩
        cases q : H b with
        | none => exact un.keep b o e q (by intro z; exact absurd (show b ∈ ([] : List Addr) from z) (by simp)) (by simp)
        | some u =>
          rcases hO b with z | ⟨ob, xs, z⟩
          · rw [q] at z; cases z
          · have z2 := un.frzs b ob _ z
            obtain ⟨e1, _⟩ := hok b _ z
            obtain ⟨e2, _⟩ := hok' b _ z2
            rw [e] at e1; cases e1
            exact e2
  cases hk : K.lookup a with
  | some o =>
    -- the script is one of the module's own objects
    have e := KX a o hk
    rw [ha] at e
    cases e
    refine core (fun _ => none) (fun _ => .inl rfl) (.inr ⟨_, vs.toArray, _, hk, rfl, rfl, rfl, by rw [List.size_toArray, lenV]; exact hl, by simpa using rv⟩) (fun b u z => by have z' : (none : Option HO) = some u := z; cases z') (fun b z => absurd rfl z) fun z => absurd rfl z
  | none =>
    refine core (fun b => if b = a then some (.frz { cls := .type "list", data := .seq vs.toArray } (.lst (ns.map V.int))) else none) (fun b => ?_) (.inl (.inr ⟨{ cls := .type "list", data := .seq vs.toArray }, if_pos rfl⟩)) (fun b u z => ?_) (fun b z => ?_) fun _ => hk
    · by_cases hb : b = a
      · exact .inr ⟨_, _, if_pos hb⟩
      · exact .inl (if_neg hb)
    · by_cases hb : b = a
      · have z' := (if_pos hb).symm.trans z
        cases z'
        subst hb
        exact ⟨ha, by rw [List.length_map]; exact hl, vs, _, rv, ha⟩
      · have z' := (if_neg hb).symm.trans z
        cases z'
    · by_cases hb : b = a
      · exact hb
      · exact absurd (if_neg hb) z

theorem ite3 {b : Bool} {A B : Prop} (h1 : b = true → A) (h2 : b = false → B) : if b = true then A else B := by
  cases b with
  | true => exact h1 rfl
  | false => exact h2 rfl
theorem only_ok {K : PySem.W.Frag} {H : Hp} : Ok K (fun _ => none) H := fun a m h => by cases h
/-- THE END: the law's def keeps a promise over trees -/
theorem walk_G {l : PySem.W.OpenLaw} {n k : Nat} {q : Program} {loose : List Str} {XP : (Str → Option Value) → Heap → Prop} {YP : World → Heap → Prop} {d : DefRec} {K : Params → PySem.W.Frag} {a : PySem.W.Frag → ASp} {x : Str}
    (hn : l.most = some n) (hn2 : n ≤ sizeLine) (hdf : d.params.defaults = []) (hr : Room k callerA)
    (hY : ∀ (w : World) (h : Heap), YP w h → (K w.params).In h)
    (F : ∀ (w : World) (mg : Str → Option Value) (fa : Addr) (h : Heap), (K w.params).In h → h.Ns mainGlobals mg → mg d.name = some (.ref fa) →
      ∃ fd : FuncData, (∀ (s : Shared) (u : Value), BindsTo s fd ⟨[u], []⟩ [(x, u)]) ∧
        ∀ base : Heap, (K w.params).In base → base.Ns mainGlobals mg → FnG l.prog w (K w.params) mg base k fa fd [x] (lift (K w.params) (a (K w.params))))
    (ha : ∀ (K : PySem.W.Frag) (ns : List Int), ns.length ≤ n → a K [.lst (ns.map D.int)] (fun _ => none) (fun d _ => d = .bl true) fun _ _ _ => False) :
    PySem.W.WalkO q loose XP YP l.row.toRowW d [] (fun f vs => PySem.call f vs) := by
  refine Att.attach_call hn hdf fun w s₀ s₁ mg mb fa o pm cd doc ad vs ns G Y ho hd hcd hmg hobj hints hlen hg => ?_
  have KX := hY w _ Y
  obtain ⟨fd, hb, hF⟩ := F w mg fa _ KX G.T.g hmg
  refine law_callG KX G.T.g G.T.b G.T.builtins G.T.nolimit hg hobj hints (Nat.le_trans hlen hn2) hr hF hb (fun H hO hS => ⟨fun _ => none, [.lst (ns.map D.int)], _, _, only_ok, .cons (.lst ?_ ints_repL) .nil, ha _ ns hlen, ?_, ?_⟩)
  · exact sqL_mono (fun b o e => fz_of rfl e) hS
  · intro M' H' d v s' ok' r e
    subst e
    cases r
    rfl
  · exact fun _ _ _ _ _ _ _ _ _ _ _ p => p
/-- how arguments bind: by place and by keyword -/
theorem bindG {K : PySem.W.Frag} {x qual : Str} {st : Stmt} {f : Addr} {fd : FuncData} {ps ks : List Str} {n : Nat} {π : List Nat} (F : Fun K x qual st f fd)
    (h : ∀ (kV doc pm : Value) (an : Option Addr) (cdv ct : Value) (us ws : List Value), us.length = n → ws.length = ks.length →
      bindArgs (PySem.W.fnOf x qual (defArgs st) (defBody st) (defScope st) .none kV doc pm an cdv ct) ⟨us, ks.zip ws⟩ = pure (ps.zip (pick π (us ++ ws)))) : BindG K fd ps n ks π := by
  obtain ⟨oc, od, kV, doc, pm, an, cdv, ct, osl, rfl, lk, hcd⟩ := F.ex
  exact fun s us ws h1 h2 => BindsTo.of_eq (h kV doc pm an cdv ct us ws h1 h2)
section
variable {X : Cx} {x nm : Str} {c : Value} {i n : Nat} {body suite : List Stmt} {b₀ : Stmt} {np pos pos' : Pos} {tb : WX → TS} {ts : Addr → Value → Option Addr → TS} {Wout : WX}
/-- a module's int -/
theorem pe_globI {z : Int} (h : ∃ t, X.mg x = some (.int z t)) (hg : Gl X x := by rfl) (hd : (x == ("__debug__" : Str)) = false := by decide) : PE X (.Name x pos) (tC (.int z)) := by
  obtain ⟨t, e⟩ := h
  exact pe_glob (v := .int z) hg e ⟨t, rfl⟩ hd
theorem ps_tryAs (hs : X.stack = X.env :: X.outer) (hf : X.env.frame = some X.env.locals) (hN : X.N.Nodup) (hi : X.N[i]? = some nm) (hln : X.env.kindOf nm = some .local) (hc : Names X x c) (tk : Takes X Wout)
    (hb : ∀ (W : WX) (pn : List (Addr × Obj)) (xe : Value → Shared → Prop), Takes (X.tr pn xe) W → PassesOwn (model X.prog X.w) X.A X.env xe → PSs (X.tr pn xe) body (tb W))
    (hsu : ∀ (a : Addr) (oe : Obj) (cls : Value) (d : Option Addr) (pn : List (Addr × Obj)), Zc cls d oe → (∃ vs, oe.data = .fields vs) → PSs (X.suite a ((a, oe) :: pn)) (b₀ :: suite) (ts a cls d)) :
    PS X (.Try body [.ExceptHandler (some (.Name x np)) (some nm) (b₀ :: suite) pos'] [] [] pos) (tTryAs X.K c i tb ts Wout) := ps_try_as hs hf hN hi hln hc tk hb hsu
end
end T2
namespace T2
open PySem PySem.Spec PyProof.Rows L2 RZ
theorem hun64 {k : Nat} {A : Around} (hr : Room k A) : A.units + 64 < cLine := by have := hr.un; omega
theorem hun150 {k : Nat} {A : Around} (hr : Room k A) : A.units + 150 < cLine := by have := hr.un; omega
section
variable {K : PySem.W.Frag} {W : WX} {M : Mem} {Χ : Exc} {Ψ : PsiE} {Δ : Sls} {ds : List D} {p : Addr} {y : D}
theorem dp_mem {H : Hp} {n : Nat} (ok : Ok K M H) (hm : M p = some (.lst ds)) (g : goods n ds = true) : Dp K H (.ref p) (.list (toPs ds)) := by
  obtain ⟨vs, hp, rl⟩ := ok p _ hm
  exact .lst (SqL.of hp) (dps_of fz_sub ds n vs g rl)
theorem shaped_lst {n : Nat} (g : goods n ds = true) (hn : n + 1 ≤ 64) : SeqAt.shaped (.list (toPs ds)) = true := shaped_of (d := .lst ds) (n := n + 1) (by simpa only [good] using g) hn
/-- a list that may change == plain data -/
theorem ar_eqM {n m : Nat} (hm : M p = some (.lst ds)) (gx : goods n ds = true) (gy : good m y = true) (hn : n + 1 ≤ 64) (hm2 : m ≤ 64) (k : Ψ (.bl (eqD (.lst ds) y)) M) : AR2 K (rEqD K) (.ref p) y M Ψ := fun H v u ok r1 r2 Q q => by
  cases r1
  exact ⟨_, toP y, dp_mem ok hm gx, dp_of fz_sub y m u gy r2, shaped_lst gx hn, shaped_of gy hm2, q.here ok (.bl _) k⟩
theorem ar_neM {n m : Nat} (hm : M p = some (.lst ds)) (gx : goods n ds = true) (gy : good m y = true) (hn : n + 1 ≤ 64) (hm2 : m ≤ 64) (k : Ψ (.bl (!eqD (.lst ds) y)) M) : AR2 K (rNeD K) (.ref p) y M Ψ := fun H v u ok r1 r2 Q q => by
  cases r1
  exact ⟨_, toP y, dp_mem ok hm gx, dp_of fz_sub y m u gy r2, shaped_lst gx hn, shaped_of gy hm2, q.here ok (.bl _) k⟩
theorem goods_ints {n : Nat} : ∀ ns : List Int, goods n (ns.map D.int) = true
  | [] => rfl
  | i :: ns => by
    show (good n (.int i) && goods n (ns.map D.int)) = true
    rw [goods_ints ns, Bool.and_true]
    cases n <;> rfl
theorem eq_nil {ds : List D} : eqD (.lst ds) (.lst []) = ds.isEmpty := by
  cases ds with
  | nil => rfl
  | cons d ds => rfl
theorem as_whileP {P : Post} {t : TS} {c : TT} (I : Nat → Sls → Mem → Prop) (J : Sls → Mem → Prop) (m0 : Nat) (h0 : I m0 Δ M) (hJ : ∀ Δ' M', J Δ' M' → P.nx Δ' M')
    (hs : ∀ m Δ' M', I m Δ' M' → AT K W (fun c f M2 => P.xr c f Δ' M2) Δ' c M' fun b M1 => if b = true then AS K W t { P with nx := fun Δ2 M2 => ∃ m', m' < m ∧ I m' Δ2 M2, ct := fun Δ2 M2 => ∃ m', m' < m ∧ I m' Δ2 M2, bk := J } Δ' M1 else J Δ' M1) :
    AS K W (tWhile c t) P Δ M := (as_while (P := { P with nx := J }) I m0 h0 hs).mono hJ (fun _ _ z => z) (fun _ _ z => z) (fun _ _ z => z) fun _ _ _ _ z => z
theorem as_seqP {P : Post} {t u : TS} (J : Sls → Mem → Prop) (h : AS K W t { P with nx := J } Δ M) (hJ : ∀ Δ' M', J Δ' M' → AS K W u P Δ' M') : AS K W (tSeq t u) P Δ M :=
  as_seq (h.mono hJ (fun _ _ z => z) (fun _ _ z => z) (fun _ _ z => z) fun _ _ _ _ z => z)
theorem ar_neg {i : Int} (k : Ψ (.int (-i)) M) : AR1 K (rU fun i => .int (-i)) (.int i) M Ψ := fun H v ok r1 Q q => by
  cases r1
  exact ⟨i, rfl, q.here ok (.int _) k⟩
theorem atI_last {α : Type} {xs : List α} {x : α} : atI (xs ++ [x]) (-1) = some x := by
  have e : ixN (xs ++ [x]).length (-1) = some xs.length := by
    unfold ixN
    rw [if_neg (by omega), if_pos (by rw [List.length_append]; simp; omega), List.length_append]
    congr 1
    simp
    omega
  unfold atI
  rw [e]
  simp
theorem atI_at {α : Type} {xs : List α} {x : α} {j : Nat} (h : xs[j]? = some x) : atI xs (j : Int) = some x := by
  have hj : j < xs.length := (List.getElem?_eq_some_iff.mp h).1
  have e : ixN xs.length (j : Int) = some j := by
    unfold ixN
    rw [if_pos (by omega), if_pos (by omega)]
    simp
  unfold atI
  rw [e]
  exact h
theorem atI_int {α : Type} {xs : List α} {x : α} {i : Int} (h0 : 0 ≤ i) (h : xs[i.toNat]? = some x) : atI xs i = some x := by
  have e : i = (i.toNat : Int) := (Int.toNat_of_nonneg h0).symm
  rw [e]
  exact atI_at h
theorem at_yes {Φ : Bool → Mem → Prop} (k : Φ true M) : AT K W Χ Δ tYes M Φ := fun σ H ok sl gx Q g => g.here ok k
/-- the int of a tree -/
def iv : D → Int
  | .int i => i
  | _ => 0
theorem map_iv {f : Int → Int} {ns : List Int} : (ns.map D.int).map (fun d => D.int (f (iv d))) = (ns.map f).map D.int := by
  rw [List.map_map, List.map_map]
  rfl
theorem filter_true {α : Type} {xs : List α} : xs.filter (fun _ => true) = xs := List.filter_eq_self.mpr fun _ _ => rfl
theorem cut_to {xs : List D} {i : Int} (h : 0 ≤ i) : T2.cutD xs none (some i) = xs.take i.toNat := by
  unfold T2.cutD
  show (xs.drop 0).take ((if i < 0 then (i + (xs.length : Int)).toNat else min i.toNat xs.length) - 0) = _
  rw [if_neg (by omega), List.drop_zero, Nat.sub_zero]
  by_cases hl : i.toNat ≤ xs.length
  · rw [Nat.min_eq_left hl]
  · rw [Nat.min_eq_right (by omega), List.take_of_length_le (Nat.le_refl _), List.take_of_length_le (by omega)]
/-- what stands in memory may be forgotten behind an expression -/
theorem ae_fgt {te : TE} (h : AE K W Χ Δ te M fun d M' => ∃ M0 : Mem, (∀ a m, M0 a = some m → M' a = some m) ∧ Ψ d M0) : AE K W Χ Δ te M Ψ := fun σ H ok sl gx Q g =>
  h σ H ok sl gx _ fun M1 H1 d v s1 ok1 r1 ⟨M0, hle, k⟩ => g M0 H1 d v (s1.trans (stp_less hle)) (ok_less ok1 hle) (Rep.mono (stp_less hle).same _ _ r1) k
theorem as_forP {P : Post} {wi : TI} {g : TG} {t : TS} (J : Sls → Mem → Prop) (hJ : ∀ Δ' M', J Δ' M' → P.nx Δ' M') (h : AI K W (fun c f M' => P.xr c f Δ M') Δ wi M fun xs M1 => ∃ I : Nat → Sls → Mem → Prop, I 0 Δ M1 ∧
    (∀ i d Δ' M', xs[i]? = some d → I i Δ' M' → AG K W P.xr g d Δ' M' fun Δ2 M2 => AS K W t { P with nx := I (i + 1), ct := I (i + 1), bk := J } Δ2 M2) ∧ (∀ Δ' M', I xs.length Δ' M' → J Δ' M')) :
    AS K W (tFor wi g t) P Δ M := (as_for (P := { P with nx := J }) h).mono hJ (fun _ _ z => z) (fun _ _ z => z) (fun _ _ z => z) fun _ _ _ _ z => z
/-- M stands in M' -/
def Le (M M' : Mem) : Prop := ∀ a m, M a = some m → M' a = some m
theorem Le.refl {M : Mem} : Le M M := fun _ _ h => h
theorem Le.trans {M M1 M2 : Mem} (a : Le M M1) (b : Le M1 M2) : Le M M2 := fun x m h => b x m (a x m h)
theorem Le.set {M M' : Mem} {p : Addr} {m : MO} (a : Le M M') (h : M p = none) : Le M (M'.set p m) := fun x m' e => by
  rw [Mem.set_ne (Mem.ne_of e h)]
  exact a x m' e
theorem Le.none {M M' : Mem} {p : Addr} (a : Le M M') (h : M' p = none) : M p = none := by
  cases e : M p with
  | none => rfl
  | some m => rw [a p m e] at h; cases h
/-- a target of names alone -/
theorem ag_of {xr : Value → List (Str × D) → Sls → Mem → Prop} {g : TG} {d : D} {Φ : Sls → Mem → Prop} (vs : List Nat) (h : AGc K g vs d Δ M Φ) : AG K W xr g d Δ M Φ := fun σ H v ok sl r gx Q q =>
  h σ H v ok sl r Q fun Δ' M' σ' H' s o l _ p => q Δ' M' σ' H' s o l p
end
end T2
namespace T2
open PySem PySem.Spec PyProof.Rows L2 RZ
/-! ### how long a tuple's repr is -/
theorem piled_le {n : Nat} : ∀ {ts : List Str}, (∀ t ∈ ts, t.length ≤ n) → piled ts ≤ ts.length * (n + 2)
  | [], _ => by simp [piled]
  | t :: ts, h => by
    have ih := piled_le (n := n) (ts := ts) fun x hx => h x (List.mem_cons_of_mem _ hx)
    have h1 := h t (List.mem_cons_self ..)
    have e : piled (t :: ts) = t.length + 2 + piled ts := by simp [piled]
    rw [e, List.length_cons, Nat.succ_mul]
    omega
theorem tupleText_le {n : Nat} {ts : List Str} (h : ∀ t ∈ ts, t.length ≤ n) : (tupleText ts).length ≤ ts.length * (n + 2) + 3 := by
  have hp := piled_le h
  unfold tupleText
  rw [strLen_append, strLen_append]
  have e1 : (("(" : String) : Str).length = 1 := rfl
  have e2 : (((if (ts.length == 1) = true then ",)" else ")" : String)) : Str).length ≤ 2 := by
    by_cases hq : (ts.length == 1) = true
    · rw [if_pos hq]; decide
    · rw [if_neg hq]; decide
  by_cases he : ts = []
  · subst he
    have e3 : (Str.join ", " []).length = 0 := rfl
    rw [e1, e3]
    omega
  · have := join_length_add ts he
    rw [e1]
    omega
theorem listText_le {n : Nat} {ts : List Str} (h : ∀ t ∈ ts, t.length ≤ n) : (listText ts).length ≤ ts.length * (n + 2) + 3 := by
  have g : ∀ (ts : List Str) (k : Nat) (acc : Str), (∀ t ∈ ts, t.length ≤ n) → (textFrom k acc ts).length ≤ acc.length + ts.length * (n + 2) := by
    intro ts
    induction ts with
    | nil => intro k acc _; show acc.length ≤ _; omega
    | cons t r ih =>
      intro k acc hk
      show (textFrom (k + 1) (acc ++ (if k > 0 then ", " else "" : String) ++ t) r).length ≤ _
      have h1 := ih (k + 1) (acc ++ (if k > 0 then ", " else "" : String) ++ t) fun x hx => hk x (List.mem_cons_of_mem _ hx)
      have e : (acc ++ (if k > 0 then ", " else "" : String) ++ t).length = acc.length + (if k > 0 then 2 else 0) + t.length := by
        rw [strLen_append, strLen_append]
        by_cases hq : k > 0
        · rw [if_pos hq, if_pos hq]; rfl
        · rw [if_neg hq, if_neg hq]; rfl
      have h2 := hk t (List.mem_cons_self ..)
      have h3 : (if k > 0 then 2 else 0) ≤ 2 := by split <;> omega
      rw [e] at h1
      rw [List.length_cons, Nat.succ_mul]
      omega
  unfold listText
  rw [strLen_append]
  have h1 := g ts 0 "[" h
  have e1 : (("[" : String) : Str).length = 1 := rfl
  have e2 : (("]" : String) : Str).length = 1 := rfl
  omega
theorem shownAll_eq : ∀ ds : List D, PyData.shownAll (toPs ds) = ds.map shownD
  | [] => rfl
  | d :: ds => by
    simp only [toPs, PyData.shownAll, List.map_cons]
    rw [shownAll_eq ds]
    rfl
theorem showableAll_eq : ∀ ds : List D, PyData.showableAll (toPs ds) = ds.all fun d => (toP d).showable
  | [] => rfl
  | d :: ds => by
    simp only [toPs, PyData.showableAll, List.all_cons]
    rw [showableAll_eq ds]
/-- short: a repr of at most 60 signs -/
def Sho (d : D) : Prop := (shownD d).length ≤ 60 ∧ (toP d).showable = true
theorem shown_tup {ds : List D} {n : Nat} (h : ∀ d ∈ ds, (shownD d).length ≤ n) : (shownD (.tup ds)).length ≤ ds.length * (n + 2) + 3 := by
  have e : shownD (.tup ds) = tupleText (ds.map shownD) := by
    unfold shownD
    simp only [toP, PyData.shown]
    rw [shownAll_eq]
    rfl
  rw [e]
  have := tupleText_le (n := n) (ts := ds.map shownD) fun t ht => by
    obtain ⟨d, hd, rfl⟩ := List.mem_map.mp ht
    exact h d hd
  rw [List.length_map] at this
  exact this
theorem showable_tup {ds : List D} (h : ∀ d ∈ ds, (toP d).showable = true) : (toP (.tup ds)).showable = true := by
  simp only [toP, PyData.showable]
  rw [showableAll_eq]
  exact List.all_eq_true.mpr h
theorem small_int : ∀ n : Nat, n < 1000 → ((toString (n : Int) : String) : Str).length ≤ 10 := by decide +kernel
theorem sho_int {i : Int} (h0 : 0 ≤ i) (h1 : i < 1000) : (shownD (.int i)).length ≤ 10 ∧ (toP (.int i)).showable = true := by
  refine ⟨?_, ?_⟩
  · have := small_int i.toNat (by omega)
    rw [Int.toNat_of_nonneg h0] at this
    unfold shownD
    simp only [toP, PyData.shown]
    exact this
  · simp only [toP, PyData.showable]
    refine decide_eq_true ?_
    have : i.natAbs.log2 ≤ i.natAbs := Nat.log2_le_self _
    omega
theorem sho_none : (shownD .non).length ≤ 10 ∧ (toP .non).showable = true := by
  refine ⟨?_, ?_⟩
  · unfold shownD
    simp only [toP, PyData.shown]
    decide
  · simp only [toP, PyData.showable]
section
variable {K : PySem.W.Frag} {M : Mem} {Ψ : PsiE}
theorem arl_reprT {ds : List D} {n : Nat} (g : goods n ds = true) (hn : n < 64) (h : ∀ d ∈ ds, Sho d) (hl : ds.length ≤ 10000) (k : Ψ (.str (shownD (.tup ds))) M) : ARL K (rRepr K) [.tup ds] M Ψ := by
  refine arl_repr (n := n + 1) rfl (by simpa only [good] using g) (by omega) (showable_tup fun d hd => (h d hd).2) ?_ k
  have := shown_tup (ds := ds) (n := 60) fun d hd => (h d hd).1
  omega
theorem sho_ints {ns : List Int} (h : ∀ i ∈ ns, 0 ≤ i ∧ i < 1000) : ∀ d ∈ ns.map D.int, Sho d := by
  intro d hd
  obtain ⟨i, hi, rfl⟩ := List.mem_map.mp hd
  have := sho_int (h i hi).1 (h i hi).2
  exact ⟨by omega, this.2⟩
theorem goods_all {n : Nat} : ∀ {ds : List D}, (∀ d ∈ ds, good n d = true) → goods n ds = true
  | [], _ => rfl
  | d :: ds, h => by
    show (good n d && goods n ds) = true
    rw [h d (List.mem_cons_self ..), goods_all fun x hx => h x (List.mem_cons_of_mem _ hx)]
    rfl
end
mutual
theorem eqv_self : ∀ (d : D) (n : Nat), good n d = true → PyData.eqv (toP d) (toP d) = true
  | .non, _, _ => by simp [toP, PyData.eqv]
  | .bl b, _, _ => by simp [toP, PyData.eqv]
  | .int i, _, _ => by simp [toP, PyData.eqv]
  | .str x, _, _ => by simp [toP, PyData.eqv]
  | .tup ds, 0, g => by simp [good] at g
  | .tup ds, n + 1, g => by
    simp only [toP, PyData.eqv]
    exact eqvs_self ds n (by simpa only [good] using g)
  | .lst ds, 0, g => by simp [good] at g
  | .lst ds, n + 1, g => by
    simp only [toP, PyData.eqv]
    exact eqvs_self ds n (by simpa only [good] using g)
  | .ref _, _, g => by simp [good] at g
  | .ty _, _, g => by simp [good] at g
  | .obj _ _, _, g => by simp [good] at g
  | .raw _, _, g => by simp [good] at g
  | .xtup _, _, g => by simp [good] at g
  | .exc _ _ _, _, g => by simp [good] at g
theorem eqvs_self : ∀ (ds : List D) (n : Nat), goods n ds = true → PyData.eqvAll (toPs ds) (toPs ds) = true
  | [], _, _ => by simp [toPs, PyData.eqvAll]
  | d :: ds, n, g => by
    simp only [goods, Bool.and_eq_true] at g
    simp only [toPs, PyData.eqvAll]
    rw [eqv_self d n g.1, eqvs_self ds n g.2]
    rfl
end
theorem eqD_self {d : D} {n : Nat} (g : good n d = true) : eqD d d = true := eqv_self d n g
end T2
namespace T2
open PySem PySem.Spec PyProof.Rows L2 RZ
section
variable {K : PySem.W.Frag} {W : WX} {M : Mem} {Χ : Exc} {Ψ : PsiE} {Δ : Sls}
/-- a comprehension that reads the memory alone -/
theorem ae_lcR {wi : TI} {g : TG} {te : TE} {vs : List Nat}
    (h : AI K W Χ Δ wi M fun xs M1 => xs.length ≤ 100000 ∧ ∃ e : D → D,
      (∀ (i : Nat) (d : D) (acc : List D) (p : Addr), xs[i]? = some d → M1 p = none → AGc K g vs d (wipeD Δ vs) (M1.set p (.lst acc)) fun Δ2 M2 => M2 = M1.set p (.lst acc) ∧ AE K W0 X0 Δ2 te M2 fun y M4 => y = e d ∧ M4 = M2) ∧
      Ψ (.lst (xs.map e)) M1) : AE K W Χ Δ (tLc wi g tYes te vs) M Ψ :=
  ae_lcF fun σ H ok sl gx R q => h σ H ok sl gx R fun M1 H1 J xs s o w ⟨a, e, b, c⟩ => q M1 H1 J xs s o w ⟨a, fun i acc M' => acc = (xs.take i).map e ∧ M' = M1, ⟨rfl, rfl⟩, by
    rintro i d acc M' p hx ⟨ea, em⟩ hp hl
    subst ea em
    refine fun σ1 H2 v ok2 sl2 r2 Q2 g2 => b i d _ p hx hp σ1 H2 v ok2 sl2 r2 Q2 fun Δ3 M3 σ3 H3 s3 ok3 sl3 w3 ⟨e3, t3⟩ => g2 Δ3 M3 σ3 H3 s3 ok3 sl3 w3 ?_
    subst e3
    refine at_yes (by
      rw [if_pos rfl]
      refine t3.mono fun y M6 ⟨ey, e6⟩ => ⟨_, e6, hp, ?_, rfl⟩
      rw [ey, List.take_add_one, hx, List.map_append]
      rfl), fun acc M' ⟨ea, em⟩ => by
    subst ea em
    rw [List.take_length]
    exact c⟩
end
end T2
namespace T2
open PySem PySem.Spec PyProof.Rows L2 RZ
/-! ### enumerate(tuple) -/
theorem meets_enumT (l : Addr) (items : Array Value) :
    Meets (Builtin.«enumerate.__new__» ⟨[.type "enumerate", .ref l], []⟩) (fun _ R s => s.heap.IsTuple l items ∧
      R (.ok (.ret (.ref (s.heap.push { cls := .type "tuple_iterator", data := .fields #[.ref l, .int 0 0] }).objs.size)))
        { s with heap := (s.heap.push { cls := .type "tuple_iterator", data := .fields #[.ref l, .int 0 0] }).push { cls := .type "enumerate", data := .fields #[.none, .bool false, .ref s.heap.objs.size, rawInt 0, .none, .none] } }) :=
  .of_wp fun prog w A R s h => by
    obtain ⟨hp, g, d, tk, os⟩ := s; obtain ⟨hL, h⟩ := h
    have hsub := sub_enumerate
    have hL2 : Heap.IsTuple (Shared.heap ⟨hp, g, d, tk, os⟩) l items := hL
    obtain ⟨ol, hl, hlc, n, hld⟩ := id hL
    wp_walk using AutoSeq1.wpAny_loadPart' hl
    refine wpAny_stack_any fun st => wpAny_pure ?_
    split
    · rename_i c _ _ _ _ _
      cases (c == Value.type "enumerate")
      · wp_walk using AutoSeq1.wpAny_loadPart' hl, wpAny_pyIter_tuple hL2
        exact ⟨_, rfl, h⟩
      · wp_walk using AutoSeq1.wpAny_loadPart' hl, wpAny_pyIter_tuple hL2
        exact ⟨_, rfl, h⟩
    · wp_walk using AutoSeq1.wpAny_loadPart' hl, wpAny_pyIter_tuple hL2
      exact ⟨_, rfl, h⟩
theorem call_enumT {prog : Program} {w : World} {A : Around} {E : Value → Shared → Prop} {s : Shared} {l : Addr} {items : Array Value} {Q : Value → Shared → Prop} (hL : s.heap.IsTuple l items)
    (h : ∀ h', IsEnum h' (s.heap.objs.size + 1) s.heap.objs.size 0 .none → h'.IsTupleIter s.heap.objs.size l 0 → h'.objs.size = s.heap.objs.size + 2 →
      (∀ b o, s.heap.get? b = some o → h'.get? b = some o) → Q (.ref (s.heap.objs.size + 1)) { s with heap := h' }) :
    wpAny (model prog w) A (call (.type "enumerate") [.ref l]) Q E s := by
  refine callType_new F.called_enumerate (by decide) (F.typeCall_enumerate_1 _) (F.newCall_enumerate_1 _) (fun obj => F.args_object_init_2 obj _) F.entry_enumerate_new
    (meets_enumT l items) ⟨hL, ?_⟩
  have hz : (s.heap.push { cls := .type "tuple_iterator", data := .fields #[.ref l, .int 0 0] }).objs.size = s.heap.objs.size + 1 := Heap.size_push ..
  show _ ∧ _
  rw [hz]
  have he : IsEnum ((s.heap.push { cls := .type "tuple_iterator", data := .fields #[.ref l, .int 0 0] }).push
      { cls := .type "enumerate", data := .fields #[.none, .bool false, .ref s.heap.objs.size, rawInt 0, .none, .none] }) (s.heap.objs.size + 1) s.heap.objs.size 0 .none := by
    have := Heap.get?_push_size (s.heap.push { cls := .type "tuple_iterator", data := .fields #[.ref l, .int 0 0] })
      (o := { cls := .type "enumerate", data := .fields #[.none, .bool false, .ref s.heap.objs.size, rawInt 0, .none, .none] }) rfl
    rw [hz] at this; exact this
  refine ⟨⟨_, he, rfl⟩, h _ he ⟨_, Heap.get?_push_of_some _ (Heap.get?_push_size _ rfl), rfl, rfl⟩ (by rw [Heap.size_push, hz]) fun b o x => Heap.get?_push_of_some _ (Heap.get?_push_of_some _ x)⟩
theorem pyNext_enumT_end {prog : Program} {w : World} {A : Around} {E : Value → Shared → Prop} {s : Shared} {e it t : Addr} {i : Nat} {items : Array Value} {old : Value} {Q : Option Value → Shared → Prop} (hh : A.handled = none)
    (he : IsEnum s.heap e it i old) (hit : s.heap.IsTupleIter it t i) (ht : s.heap.IsTuple t items) (hx : items[i]? = none) (hQ : ∀ h', Heap.ExtBut it s.heap h' → Q none { s with heap := h' }) : wpAny (model prog w) A (pyNext (.ref e)) Q E s := by
  have hT : s.TypeIs (.ref e) "enumerate" := ⟨_, he, rfl⟩
  unfold pyNext
  refine wpAny_bind (wpAny_attempt (wpAny_callSpecial?_slot (name := Str.ofString "__next__") hT F.slot_enumerate_next
    (wpAny_call_entry F.slot_enumerate_next hT F.entry_enumerate_next ?_ (F.args_enumerate_next_1 _))))
  show wpAny _ _ (field (.ref e) 2 >>= _) _ _ _
  refine wpAny_bind (wpAny_field he rfl (x := .ref it) rfl ?_)
  refine wpAny_bind (wpAny_nextOf_tuple_end hh hit ht hx fun h' x he' hx' => ?_)
  obtain ⟨o, ho, hc⟩ := hx'
  refine wpAny_bind (wpAny_isInstance (T := "StopIteration") (b := true) ⟨o, ho, hc⟩ isSubtype_stop ?_)
  exact wpAny_pure (hQ _ he')
/-- the tuple at a as it stands at each turn, each item in a new pair -/
def IteT (K : PySem.W.Frag) (a : Addr) : It :=
  ⟨fun i H => ∃ (xs : List V) (x : V), SqT K H a xs ∧ xs[i]? = some x, fun i H v H' => ∃ T x, v = .ref T ∧ H T = none ∧ H' = upd H T (.tup [.int (i : Nat), x]) ∧ ∀ xs, SqT K H a xs → xs[i]? = some x, fun i H => ∃ xs : List V, SqT K H a xs ∧ xs.length ≤ i⟩
theorem turn_enumT {P : Program} {w : World} {K : PySem.W.Frag} {elts : List Expr} {kk : Nat} {tpos : Pos} (a e it : Addr) :
    Turn P w K (.Tuple elts kk tpos) (IteT K a) [e, it] e (fun i h => (∃ old, IsEnum h e it ((i : Nat) : Int) old) ∧ h.IsTupleIter it a i ∧ e ≠ it) where
  mem := by simp
  obj := fun i h st b hb => by
    obtain ⟨⟨old, he⟩, ⟨o, ho, hc, hd⟩, _⟩ := st
    have e' : b = e ∨ b = it := by simpa using hb
    rcases e' with z | z
    · rw [z]; exact ⟨_, he, fun v q => nomatch q⟩
    · rw [z]; exact ⟨o, ho, fun v q => by rw [hd] at q; cases q⟩
  keep := fun i h h' st k => let ⟨⟨old, he⟩, hi, hne⟩ := st; ⟨⟨old, k e (by simp) _ he⟩, hi.at fun o q => k it (by simp) o q, hne⟩
  item := by
    intro X hP hw hK hc i pins s σ H E I hf st hg
    subst hP hw hK
    obtain ⟨⟨old, he⟩, hit, hne⟩ := st
    obtain ⟨xs, x, hq, hx⟩ := hg
    obtain ⟨its, rv, p, hz⟩ := I.tuple hq
    obtain ⟨u, hu, ru⟩ := rv.get hx
    have hel : e < s.heap.objs.size := Heap.lt_size he
    have hil : it < s.heap.objs.size := by obtain ⟨_, q, _⟩ := hit; exact Heap.lt_size q
    have hai : a ≠ it := fun z => by
      obtain ⟨o1, e1, c1, _⟩ := hit
      obtain ⟨o2, e2, c2, _⟩ := id p
      rw [z, e1] at e2
      cases e2
      rw [c1] at c2
      injection c2 with c2
      exact absurd c2 (by decide)
    have hlt : i < its.toArray.size := by rw [List.size_toArray]; exact (List.getElem?_eq_some_iff.mp hu).1
    refine wpAny_pyNext_enum_itemD (PySem.Draws.tuple (prog := X.prog) (w := X.w) (A := X.A.in1) (I.ok.hd hc) it a hai its.toArray) he ⟨hit, p⟩ hlt hne (fun z => ?_) fun x' h' tk hP ho hst hT hsz hk => ?_
    · have z' : e = it ∨ e = a := by simpa using z
      rcases z' with z' | z'
      · exact hne z'
      · obtain ⟨o2, e2, c2, _⟩ := id p
        rw [← z', show s.heap.get? e = _ from he] at e2
        cases e2
        injection c2 with c2
        exact absurd c2 (by decide)
    obtain rfl : x' = u := by
      have hP' : its[i]? = some x' := by simpa using hP
      rw [hu] at hP'
      exact (Option.some.inj hP').symm
    refine ⟨_, rfl, wpAny_letOwnedTupleGo_enum (s := { s with heap := h', toks := tk + 1 }) ho fun h'' he' sb => ?_⟩
    have hT2 : h''.get? s.heap.objs.size = some { cls := .type "tuple", data := .seq #[.int i tk, x'] } := (sb.2 _ (Nat.ne_of_gt hel)).trans hT
    have new : ObjOk X.prog X.w (upd H s.heap.objs.size (.tup [.int (i : Nat), x])) h'' s.heap.objs.size (.tup [.int (i : Nat), x]) :=
      ⟨by show 2 ≤ sizeLine; decide, [.int i tk, x'], .cons ⟨_, rfl⟩ (.cons ru .nil), ⟨_, hT2, rfl, _, rfl⟩⟩
    have I1 : Inv X pins σ (upd H s.heap.objs.size (.tup [.int (i : Nat), x])) { s with heap := h'', toks := tk + 1 } :=
      I.turnedNew (ch := [e, it]) (fun b ob hb q => (sb.2 b (fun z => hb (by simp [z]))).trans (hk b ob (fun z => hb (by simp [z])) (fun z => hb (by simp [z])) q)) hf (Nat.le_refl _) new
    refine ⟨.ref s.heap.objs.size, _, I1, rfl, ⟨_, x, rfl, I.hok.fresh (Nat.le_refl _), rfl, fun ys hy => by rw [I.tuple_inj hy hq]; exact hx⟩, ⟨⟨x', ?_⟩, hst.1.at fun o q => (sb.2 it (Ne.symm hne)).trans q, hne⟩, fun b hb => ?_⟩
    · have e1 : ((i + 1 : Nat) : Int) = (i : Int) + 1 := by omega
      rw [e1]; exact he'
    · have hb' : b < s.heap.objs.size := by
        have e' : b = e ∨ b = it := by simpa using hb
        rcases e' with z | z
        · rw [z]; exact hel
        · rw [z]; exact hil
      rw [upd_ne (Nat.ne_of_lt hb')]
      exact (hf b hb).1
  done := by
    intro X hP hw hK hc i pins s σ H E I hf st hg
    subst hP hw hK
    obtain ⟨⟨old, he⟩, hit, hne⟩ := st
    obtain ⟨xs, hq, hx⟩ := hg
    obtain ⟨its, rv, p, hz⟩ := I.tuple hq
    obtain ⟨f0, f1, f2, f3, f4, f5⟩ := hf it (by simp)
    have hl := rv.length
    have hai : a ≠ it := fun z => by
      obtain ⟨o1, e1, c1, _⟩ := hit
      obtain ⟨o2, e2, c2, _⟩ := id p
      rw [z, e1] at e2
      cases e2
      rw [c1] at c2
      injection c2 with c2
      exact absurd c2 (by decide)
    exact pyNext_enumT_end (I.ok.hd hc) he hit p (by simp; omega) fun h' eb => ⟨rfl, I.turned (t' := s.toks) (fun b o hb q => eb b o hb q) f0 f1 f3 f4 f5⟩
  self := fun A i s Q E st h => let ⟨⟨_, he⟩, _⟩ := st; wpAny_pyIter_enum he h
def iEnumT (K : PySem.W.Frag) (ta : TA) : TI := fun σ H R => ta σ H fun vs H1 => ∃ a xs, vs = [.ref a] ∧ SqT K H1 a xs ∧ R (IteT K a) H1
theorem pi_enumT {X : Cx} {e : Expr} {ta : TA} {p pos tpos : Pos} {elts : List Expr} {kk : Nat} (hg : Gl X "enumerate") (hm : X.mg "enumerate" = none) (ha : PA X [e] ta) (hs : starEach [e] X.env = [(false, eval e X.env)] := by rfl) :
    PI X (.Tuple elts kk tpos) (.Call (.Name "enumerate" p) [e] [] pos) (iEnumT X.K ta) := by
  refine ⟨fun pins s σ H R I h => ?_⟩
  refine Call_ (ld_blt I hg hm boot_enumerate (PyProof.Rows.callWith_type1 (thn (ha.run pos pins s σ H _ I h) fun us s1 ⟨vs, H1, I1, r1, q1⟩ => ?_) hs rfl))
  obtain ⟨a, xs, ex, hq, q⟩ := q1
  subst ex
  cases r1 with
  | cons r rr =>
    cases rr
    cases r
    obtain ⟨its, rv, p', hz⟩ := I1.tuple hq
    refine call_enumT p' fun h' he hit hsz hk => wpAny_pyIter_enum he ?_
    have I2 : Inv X pins σ H1 { s1 with heap := h' } := I1.kept (t' := s1.toks) hk
    refine ⟨s1.heap.objs.size + 1, [s1.heap.objs.size + 1, s1.heap.objs.size], _, _, H1, rfl, I2, turn_enumT a (s1.heap.objs.size + 1) s1.heap.objs.size, ⟨⟨.none, he⟩, hit, Nat.succ_ne_self _⟩, fun b hb => ?_, q⟩
    have e' : b = s1.heap.objs.size + 1 ∨ b = s1.heap.objs.size := by simpa using hb
    have hle : s1.heap.objs.size ≤ b := by
      rcases e' with z | z
      · rw [z]; exact Nat.le_add_right _ _
      · rw [z]; exact Nat.le_refl _
    exact I1.fpOk hle (I1.hok.fresh hle)
section
variable {K : PySem.W.Frag} {W : WX} {M : Mem} {Χ : Exc} {Ψ : PsiE} {Δ : Sls} {P : Post} {ds : List D} {p : Addr}
/-- (0, x0), (1, x1), .. -/
def enumD : Nat → List D → List D
  | _, [] => []
  | i, x :: xs => .tup [.int (i : Nat), x] :: enumD (i + 1) xs
theorem enumD_length : ∀ (xs : List D) (i : Nat), (enumD i xs).length = xs.length
  | [], _ => rfl
  | x :: xs, i => by simp [enumD, enumD_length xs]
theorem enumD_get : ∀ (xs : List D) (i j : Nat), (enumD i xs)[j]? = xs[j]?.map fun x => .tup [.int ((i + j : Nat) : Int), x]
  | [], _, _ => rfl
  | x :: xs, i, 0 => rfl
  | x :: xs, i, j + 1 => by
    show (enumD (i + 1) xs)[j]? = _
    rw [enumD_get xs (i + 1) j, show i + 1 + j = i + (j + 1) by omega]
    rfl
theorem ai_enumT {ta : TA} {Φ : List D → Mem → Prop} (h : AA K W Χ Δ ta M fun ds M1 => ∃ xs, ds = [.tup xs] ∧ Φ (enumD 0 xs) M1) : AI K W Χ Δ (iEnumT K ta) M Φ := fun σ H ok sl gx R q =>
  h σ H ok sl gx _ fun M1 H1 ds vs s1 ok1 r ⟨xs, e, p⟩ => by
    subst e
    cases r with
    | cons r1 r2 =>
      cases r2
      cases r1 with
      | tup sa ra =>
        rename_i a va
        have sa' : ∀ {M' H'}, Stp M1 H1 M' H' → SqT K H' a va := fun st => sqT_mono fz_sub (sqT_mono st.same sa)
        have la := ra.length
        have lz := enumD_length xs 0
        refine ⟨a, va, rfl, sa' (Stp.refl _ _), q M1 H1 _ _ s1 ok1 ⟨fun M' H' st _ => ⟨va, sa' st, by rw [lz, la]; exact Nat.le_refl _⟩, fun M' H' i st _ hi => ?_, fun M' H' i v H'' st ok' hi y => ?_⟩ p⟩
        · rw [lz] at hi
          exact ⟨va, va[i], sa' st, by simp⟩
        · obtain ⟨T, x, e1, hT, e2, y1⟩ := y
          subst e1 e2
          obtain ⟨d1, hd1, rd1⟩ := ra.getV (y1 va (sa' st))
          have s2 := stp_new (M := M') (H := H') (o := .tup [.int (i : Nat), x]) hT
          refine ⟨.tup [.int (i : Nat), d1], ?_, s2, ok_new ok' hT, .tup (SqT.of (fz_of (ok'.fresh hT) upd_same)) (.cons (.int _) (.cons (Rep.mono (st.trans s2).same _ _ rd1) .nil))⟩
          rw [enumD_get, hd1]
          simp
/-- o.f = v, as a target -/
def gFld (K : PySem.W.Frag) (ta : TE) (f : Str) : TG := fun v σ H Q => ta σ H fun x H1 => ∃ (a C dx : Addr) (fs : List (Str × V)), x = .ref a ∧ H1 a = some (.ins C dx fs) ∧ Cls K C ∧ NoAttr K C f ∧ fs.length < 1000 ∧ Q σ (upd H1 a (.ins C dx (putF f v fs)))
theorem pg_fld {X : Cx} {o : Expr} {ta : TE} {f : Str} {pos : Pos} (ha : PE X o ta) : PG X (.Attribute o f pos) (gFld X.K ta f) := by
  refine ⟨fun pins s σ H v u Q I r h => ?_⟩
  rw [assign_Attribute]
  refine wpAny_bind (wpAny_holding (thn (ha.run pins s σ H _ I h) fun ov s1 ⟨x, H1, I1, r1, a, C, dx, fs, ex, ea, c, n, l, q⟩ => ?_))
  subst ex
  obtain rfl : ov = Value.ref a := r1
  refine wpAny_bind (wpAny_standAt ?_)
  refine wpAny_bind (wpAny_holding (setattr_ok I1 ea c n l r fun s3 I3 => ?_))
  exact wpAny_release ⟨σ, _, I3, q⟩
theorem ag_fld {xr : Value → List (Str × D) → Sls → Mem → Prop} {Φ : Sls → Mem → Prop} {ta : TE} {f : Str} {C : Addr} {d : D} (hc : Cls K C) (hn : NoAttr K C f) (h : AE K W (fun c f M' => xr c f Δ M') Δ ta M fun o M2 =>
    ∃ p fs, o = .ref p ∧ M2 p = some (.ins C fs) ∧ fs.length < 1000 ∧ Φ Δ (M2.set p (.ins C (putD f d fs)))) : AG K W xr (gFld K ta f) d Δ M Φ := fun σ H v ok sl r gx Q g =>
  h σ H ok sl gx _ fun M2 H2 o ov s2 ok2 r2 ⟨p, fs, eo, hp, hl, k⟩ => by
    subst eo
    cases r2
    obtain ⟨dx, vs, hH, rf⟩ := ok2 p _ hp
    have st : Stp M2 H2 (M2.set p (.ins C (putD f d fs))) (upd H2 p (.ins C dx (putF f v vs))) := stp_mut hp
    exact ⟨p, C, dx, vs, rfl, hH, hc, hn, by rw [← rf.length]; exact hl, g Δ _ σ _ (s2.trans st) (ok_set ok2 st ⟨dx, _, upd_same, RepF.mono st.same _ _ (rf.put (Rep.mono s2.same _ _ r))⟩) (sl.mono (s2.trans st).same) k⟩
/-- xs + ys -/
def rCatL (K : PySem.W.Frag) : R2 := fun x y H Q => ∃ a b xs ys, x = .ref a ∧ y = .ref b ∧ SqL K H a xs ∧ SqL K H b ys ∧ xs.length + ys.length ≤ sizeLine ∧ ∀ p, H p = none → Q (.ref p) (upd H p (.lst (xs ++ ys)))
theorem op_catL {X : Cx} : OpR X (binaryOp .Add) (rCatL X.K) := by
  intro pins s σ H x y v u Q I rx ry h
  obtain ⟨l, b, xs, zs, rfl, rfl, hH, hB, hz, q⟩ := h
  cases rx
  cases ry
  obtain ⟨its, r, pl, hl⟩ := I.list hH
  obtain ⟨its2, r2, pl2, hl2⟩ := I.list hB
  obtain ⟨⟨cls, dd, data, sl⟩, ho, hc, n, hd⟩ := id pl.isList
  obtain ⟨⟨cls2, dd2, data2, sl2⟩, ho2, hc2, n2, hd2⟩ := id pl2.isList
  simp only at hc hd hc2 hd2
  subst hc hd hc2 hd2
  have l1 := r.length
  have l2 := r2.length
  have e : its.toArray ++ its2.toArray = (its ++ its2).toArray := by simp
  refine concat_meets ⟨_, ho, rfl⟩ ⟨_, ho2, rfl⟩ noFill_list_add seq_list_add PySem.F.slot_list_add PySem.F.entry_list_add (PySem.F.args_list_add_2 _ _) (list_addW l b its.toArray its2.toArray n n2 dd dd2 sl sl2 (by simp; omega)) ⟨ho, ho2, ?_⟩
  rw [e]
  exact ⟨.ref _, _, I.lnew (t' := s.toks) (r.append r2) (by rw [List.length_append]; omega), rfl, q _ I.fresh⟩
theorem ar_catL {xs ys : List D} (hl : xs.length + ys.length ≤ 100000) (k : Ψ (.lst (xs ++ ys)) M) : AR2 K (rCatL K) (.lst xs) (.lst ys) M Ψ := fun H v u ok r1 r2 Q q => by
  cases r1 with
  | lst s1 l1 =>
    cases r2 with
    | lst s2 l2 =>
      have e1 := l1.length
      have e2 := l2.length
      exact ⟨_, _, _, _, rfl, rfl, sqL_mono fz_sub s1, sqL_mono fz_sub s2, Evl.sz_of (by omega), fun a ha => q M _ _ _ (stp_new ha) (ok_new ok ha) (.lst (SqL.of (fz_of (ok.fresh ha) upd_same)) (RepL.mono (stp_new ha).same _ _ (l1.append l2))) k⟩
/-- max(xs) -/
theorem arl_maxL {ns : List Int} (h0 : 0 < ns.length) (k : ∀ m, m ∈ ns → (∀ y, y ∈ ns → y ≤ m) → Ψ (.int m) M) : ARL K (rMax K) [.lst (ns.map D.int)] M Ψ := fun H vs ok r Q q => by
  cases r with
  | cons r1 r2 =>
    cases r2
    cases r1 with
    | lst s rl =>
      cases repL_ints rl
      exact ⟨_, ns, rfl, sqL_mono fz_sub s, h0, fun m h1 h2 => q.here ok (.int _) (k m h1 h2)⟩
/-- a, b, .. = a list -/
theorem agc_lst {vs : List Nat} {n : Nat} {gs : TGs} {ds : List D} {Φ : Sls → Mem → Prop} (hn : ds.length = n) (h : AGcs K gs vs ds Δ M Φ) : AGc K (gLst K n gs) vs (.lst ds) Δ M Φ := fun σ H v ok sl r Q g => by
  cases r with
  | lst s r => exact ⟨_, _, rfl, sqL_mono fz_sub s, by rw [← r.length]; exact hn, h σ H _ ok sl r Q g⟩
theorem arl_reprW {d : D} {n : Nat} (hs : isSeq d = true) (g : good n d = true) (hn : n ≤ 64) (hsh : (toP d).showable = true) (hz : (shownD d).length ≤ 16000000) (k : Ψ (.str (shownD d)) M) : ARL K (rRepr K) [d] M Ψ := fun H vs ok r Q q => by
  cases r with
  | cons r1 r2 =>
    cases r2
    rename_i v
    have hd := dp_of (H := H) fz_sub d n v g r1
    have hc := can_of d n g
    have hv : ∃ a, v = .ref a := by
      cases r1 <;> first | exact ⟨_, rfl⟩ | (cases hs)
    obtain ⟨a, e⟩ := hv
    subst e
    exact ⟨a, toP d, rfl, hd, hsh, PyData.hasDict_of_canLay _ hc.1, by omega, Nat.le_trans hz (by decide), q.here ok (.str _) k⟩
/-- raise, what stood in memory beyond M0 forgotten -/
theorem as_raiseF {ta : TA} {fx : Str} {C : Addr} (h : AA K W (fun c f M' => P.xr c f Δ M') Δ ta M fun xs M1 => ∃ v M0, xs = [v] ∧ Le M0 M1 ∧ P.xr (.ref C) [(fx, v)] Δ M0) :
    AS K W (tRaiseX fx C W ta) P Δ M := fun σ H ok sl D gp =>
  h σ H ok sl (gp.x sl) _ fun M1 H1 xs vs s1 ok1 r1 ⟨v, M0, e, le, k⟩ => by
    subst e
    cases r1 with
    | cons r1 r2 =>
      cases r2
      rename_i u
      refine ⟨u, rfl, fun d hd => ?_⟩
      have s2 : Stp M1 H1 M1 (upd H1 d (.xd [(fx, u)])) := stp_new hd
      have s3 : Stp M1 (upd H1 d (.xd [(fx, u)])) M0 (upd H1 d (.xd [(fx, u)])) := stp_less le
      exact gp.xr Δ M0 σ _ (.ref C) d [(fx, v)] _ ((s1.trans s2).trans s3) (ok_less (ok_new ok1 hd) le) (sl.mono ((s1.trans s2).trans s3).same) upd_same (le.none (ok1.fresh hd)) (.cons (Rep.mono (s2.trans s3).same _ _ r1) .nil) k
end
end T2
namespace T2
open PySem PySem.Spec PyProof.Rows L2 RZ
section
variable {K : PySem.W.Frag} {W : WX} {M : Mem} {Δ : Sls} {P : Post}
/-- a target, exceptions told of every later state -/
def AGX (K : PySem.W.Frag) (W : WX) (xr : Value → List (Str × D) → Sls → Mem → Prop) (g : TG) (d : D) (Δ : Sls) (M : Mem) (Φ : Sls → Mem → Prop) : Prop :=
  ∀ σ H v, Ok K M H → Slots K (Fz M H) Δ σ → Rep K (Fz M H) d v → (∀ Δ' M' σ' H', Stp M H M' H' → Ok K M' H' → Slots K (Fz M' H') Δ' σ' → GoodX K W M' H' σ' (fun cls fs M' => xr cls fs Δ' M')) → ∀ Q : L2.St → Hp → Prop, GoodS K M H Φ Q → g v σ H Q
theorem agx_tup {xr : Value → List (Str × D) → Sls → Mem → Prop} {Φ : Sls → Mem → Prop} {n : Nat} {gs : TGs} {ds : List D} (hn : ds.length = n) (h : AGs K W xr gs ds Δ M Φ) : AGX K W xr (gTup K n gs) (.tup ds) Δ M Φ := fun σ H v ok sl r gx Q g => by
  cases r with
  | tup s r => exact ⟨_, _, rfl, sqT_mono fz_sub s, by rw [← r.length]; exact hn, h σ H _ ok sl r gx Q g⟩
theorem as_asgX {te : TE} {g : TG} (h : AE K W (fun c f M' => P.xr c f Δ M') Δ te M fun d M1 => AGX K W P.xr g d Δ M1 P.nx) : AS K W (tAsg te g) P Δ M := fun σ H ok sl D gp =>
  h σ H ok sl (gp.x sl) _ fun M1 H1 d v s1 ok1 r1 p => p σ H1 v ok1 (sl.mono s1.same) r1 (fun Δ' M' σ' H' s' _ l' => (gp.step (s1.trans s')).x l') _ (gp.nx.step s1)
end
end T2
namespace T2
open PySem PySem.Spec PyProof.Rows L2 RZ
theorem tuple_mul1 (l : Addr) (items : Array Value) (n : Nat) (dd : Option Addr) (sl : Array (Option Value)) (u : Tok) :
    Meets (Builtin.«tuple.__mul__» ⟨[.ref l, .int 1 u], []⟩) (fun _ R s => s.heap.get? l = some { cls := .type "tuple", dict := dd, data := .seq items n, slots := sl } ∧
      R (.ok (.ret (Value.ref l))) s) :=
  .of_wp fun prog w A R s h => by
    obtain ⟨hp, g, d, tk, os⟩ := s
    obtain ⟨hl, h⟩ := h
    have f1 := AutoSeq1.idx_int
    have c1 : (items.isEmpty || (1 : Int) == 1) = true := by simp
    wp_walk using wpAny_loadPart' hl
    repeat (first
      | (refine wpAny_ite_true c1 ?_; wp_walk using wpAny_loadPart' hl))
    exact ⟨_, rfl, h⟩
/-- (x,) * n, n from 1 on -/
def rRepA (K : PySem.W.Frag) : R2 := fun x y H Q => ∃ l k v, x = .ref l ∧ y = .int k ∧ SqT K H l [v] ∧ 1 ≤ k ∧ k ≤ 1000000 ∧ (k = 1 → Q (.ref l) H) ∧ ∀ p, H p = none → Q (.ref p) (upd H p (.tup (List.replicate k.toNat v)))
theorem op_repA {X : Cx} : OpR X (binaryOp .Mult) (rRepA X.K) := by
  intro pins s σ H x y vv uu Q I rx ry h
  obtain ⟨l, k, v, e1, e2, hT, h1, h2, q1, q⟩ := h
  by_cases hk : k = 1
  · subst e1 e2 hk
    cases rx
    obtain ⟨t, et⟩ := ry
    subst et
    obtain ⟨its, r, ⟨⟨cls, dd, data, sl⟩, ho, hc, n, hd⟩, hs⟩ := I.tuple hT
    simp only at hc hd
    subst hc hd
    refine wpAny_binaryOp_repeat_ref (T := "tuple") (U := "int") (by decide) ⟨_, ho, rfl⟩ (fun s' => typeIs_int s' 1 t) noFill_tuple_mul F.fills_int_mul F.slot_int_rmul repeat_tuple F.slot_int_index.lookup
      (call_meets F.slot_int_rmul (typeIs_int s 1 t) F.entry_int_rmul (F.args_int_rmul_2 _ _) (int_rmul_tuple 1 t l its.toArray n dd sl)
        ⟨ho, rfl, ⟨_, ho, rfl⟩, call_meets F.slot_tuple_mul ⟨_, ho, rfl⟩ F.entry_tuple_mul (F.args_tuple_mul_2 _ _) (tuple_mul1 l its.toArray n dd sl t) ⟨ho, ?_⟩⟩)
    exact ⟨.ref l, H, I, rfl, q1 rfl⟩
  · exact op_rep1 pins s σ H x y vv uu Q I rx ry ⟨l, k, v, e1, e2, hT, by omega, h2, q⟩
theorem ar_repA {K : PySem.W.Frag} {M : Mem} {Ψ : PsiE} {x : D} {k : Int} (h1 : 1 ≤ k) (h2 : k ≤ 100000) (kk : Ψ (.tup (List.replicate k.toNat x)) M) : AR2 K (rRepA K) (.tup [x]) (.int k) M Ψ := fun H v u ok r1 r2 Q q => by
  cases r2
  cases r1 with
  | tup s rl =>
    rename_i l vs
    cases rl with
    | cons rv rn =>
      rename_i v vs
      cases rn
      refine ⟨l, k, v, rfl, rfl, sqT_mono fz_sub s, h1, by omega, fun e => ?_, fun p hp => ?_⟩
      · subst e
        exact q.here ok (.tup s (.cons rv .nil)) kk
      · have st : Stp M H M (upd H p (.tup (List.replicate k.toNat v))) := stp_new hp
        refine q M _ _ _ st (ok_new ok hp) (.tup (SqT.of (fz_of (ok.fresh hp) upd_same)) ?_) kk
        have rr : ∀ n : Nat, RepL K (Fz M (upd H p (.tup (List.replicate k.toNat v)))) (List.replicate n x) (List.replicate n v) := by
          intro n
          induction n with
          | zero => exact .nil
          | succ n ih => rw [List.replicate_succ, List.replicate_succ]; exact .cons (Rep.mono st.same _ _ rv) ih
        exact rr _
/-- a field within a block that captures -/
theorem pe_fldK {K : PySem.W.Frag} {X : Cx} {o : Expr} {n : Str} {pos : Pos} {ta : TE} (hK : X.K = K) (ho : PE X o ta) (hb : attributeBase o n X.env (eval o X.env) = eval o X.env := by rfl) : PE X (.Attribute o n pos) (tFld K ta n) := by
  subst hK
  exact pe_fld ho hb
end T2
namespace K60
open PySem PySem.Spec PyProof.Rows L2 RZ T2
def top (i : Nat) : Stmt := PySem.Challenge.pw_neverregret_k60_whole_journals_cut_anywh.main.body.getD i (.Pass ⟨0, 0, 0, 0⟩)
abbrev s_is_integer : Stmt := top 5
abbrev s_is_number : Stmt := top 6
abbrev s_is_octet : Stmt := top 10
abbrev s_Disk___init__ : Stmt := inClass (top 11) 0
abbrev s_Disk_look : Stmt := inClass (top 11) 1
abbrev s_Disk_put : Stmt := inClass (top 11) 2
abbrev s_Disk_flush : Stmt := inClass (top 11) 3
abbrev s_Disk_events : Stmt := inClass (top 11) 4
abbrev s_half_start : Stmt := top 15
abbrev s_records_from : Stmt := top 16
abbrev s_needed_cells : Stmt := top 17
abbrev s_put_record : Stmt := top 18
abbrev s_put_end : Stmt := top 19
abbrev s_Journal___init__ : Stmt := inClass (top 20) 0
abbrev s_Journal_records : Stmt := inClass (top 20) 1
abbrev s_Journal_write : Stmt := inClass (top 20) 2
abbrev s_Journal_renew : Stmt := inClass (top 20) 3
abbrev s__law_heap : Stmt := top 22
abbrev s__law_draw : Stmt := top 23
abbrev s__law_pick : Stmt := top 24
abbrev s__law_octet : Stmt := top 25
abbrev s__law_record : Stmt := top 26
abbrev s__law_lasting : Stmt := top 27
abbrev s__law_left : Stmt := top 28
abbrev s__law_opened : Stmt := top 29
abbrev s__law_base : Stmt := top 30
abbrev s__law_cuts_right : Stmt := top 31
abbrev s__law_call : Stmt := top 32
abbrev s__law_turn : Stmt := top 33
abbrev s__law_day_right : Stmt := top 34
abbrev s__law_many_right : Stmt := top 35
abbrev s__law_strange_right : Stmt := top 36
abbrev s_law : Stmt := top 37
/-- where the top has put what it made -/
structure Ad where
  DeskError : Addr
  Refused : Addr
  Broken : Addr
  Disk : Addr
  Journal : Addr
  Refused___init__ : Addr
  Broken___init__ : Addr
  is_integer : Addr
  is_number : Addr
  is_octet : Addr
  Disk___init__ : Addr
  Disk_look : Addr
  Disk_put : Addr
  Disk_flush : Addr
  Disk_events : Addr
  half_start : Addr
  records_from : Addr
  needed_cells : Addr
  put_record : Addr
  put_end : Addr
  Journal___init__ : Addr
  Journal_records : Addr
  Journal_write : Addr
  Journal_renew : Addr
  _law_heap : Addr
  _law_draw : Addr
  _law_pick : Addr
  _law_octet : Addr
  _law_record : Addr
  _law_lasting : Addr
  _law_left : Addr
  _law_opened : Addr
  _law_base : Addr
  _law_cuts_right : Addr
  _law_call : Addr
  _law_turn : Addr
  _law_day_right : Addr
  _law_many_right : Addr
  _law_strange_right : Addr
  law : Addr
structure Fds where
  is_integer : FuncData
  is_number : FuncData
  is_octet : FuncData
  Disk___init__ : FuncData
  Disk_look : FuncData
  Disk_put : FuncData
  Disk_flush : FuncData
  Disk_events : FuncData
  half_start : FuncData
  records_from : FuncData
  needed_cells : FuncData
  put_record : FuncData
  put_end : FuncData
  Journal___init__ : FuncData
  Journal_records : FuncData
  Journal_write : FuncData
  Journal_renew : FuncData
  _law_heap : FuncData
  _law_draw : FuncData
  _law_pick : FuncData
  _law_octet : FuncData
  _law_record : FuncData
  _law_lasting : FuncData
  _law_left : FuncData
  _law_opened : FuncData
  _law_base : FuncData
  _law_cuts_right : FuncData
  _law_call : FuncData
  _law_turn : FuncData
  _law_day_right : FuncData
  _law_many_right : FuncData
  _law_strange_right : FuncData
  law : FuncData
structure Txt (P : Program) (K : PySem.W.Frag) (mg : Str → Option Value) (a : Ad) : Prop where
  g_HEAD : ∃ t, mg "HEAD" = some (.int 3 t)
  g_MARK : ∃ t, mg "MARK" = some (.int 1 t)
  g_MOST_CELLS : ∃ t, mg "MOST_CELLS" = some (.int 20000 t)
  g_OCTETS : ∃ t, mg "OCTETS" = some (.int 256 t)
  n_abs : mg "abs" = none
  n_all : mg "all" = none
  n_bool : mg "bool" = none
  n_enumerate : mg "enumerate" = none
  n_int : mg "int" = none
  n_isinstance : mg "isinstance" = none
  n_len : mg "len" = none
  n_list : mg "list" = none
  n_max : mg "max" = none
  n_range : mg "range" = none
  n_repr : mg "repr" = none
  n_sum : mg "sum" = none
  n_tuple : mg "tuple" = none
  g_DeskError : mg "DeskError" = some (.ref a.DeskError)
  g_Refused : mg "Refused" = some (.ref a.Refused)
  g_Broken : mg "Broken" = some (.ref a.Broken)
  g_Disk : mg "Disk" = some (.ref a.Disk)
  g_Journal : mg "Journal" = some (.ref a.Journal)
  g_is_integer : mg "is_integer" = some (.ref a.is_integer)
  k_is_integer : PySem.W.keepIn K (.ref a.is_integer) = true
  g_is_number : mg "is_number" = some (.ref a.is_number)
  k_is_number : PySem.W.keepIn K (.ref a.is_number) = true
  g_is_octet : mg "is_octet" = some (.ref a.is_octet)
  k_is_octet : PySem.W.keepIn K (.ref a.is_octet) = true
  g_half_start : mg "half_start" = some (.ref a.half_start)
  k_half_start : PySem.W.keepIn K (.ref a.half_start) = true
  g_records_from : mg "records_from" = some (.ref a.records_from)
  k_records_from : PySem.W.keepIn K (.ref a.records_from) = true
  g_needed_cells : mg "needed_cells" = some (.ref a.needed_cells)
  k_needed_cells : PySem.W.keepIn K (.ref a.needed_cells) = true
  g_put_record : mg "put_record" = some (.ref a.put_record)
  k_put_record : PySem.W.keepIn K (.ref a.put_record) = true
  g_put_end : mg "put_end" = some (.ref a.put_end)
  k_put_end : PySem.W.keepIn K (.ref a.put_end) = true
  g__law_heap : mg "_law_heap" = some (.ref a._law_heap)
  k__law_heap : PySem.W.keepIn K (.ref a._law_heap) = true
  g__law_draw : mg "_law_draw" = some (.ref a._law_draw)
  k__law_draw : PySem.W.keepIn K (.ref a._law_draw) = true
  g__law_pick : mg "_law_pick" = some (.ref a._law_pick)
  k__law_pick : PySem.W.keepIn K (.ref a._law_pick) = true
  g__law_octet : mg "_law_octet" = some (.ref a._law_octet)
  k__law_octet : PySem.W.keepIn K (.ref a._law_octet) = true
  g__law_record : mg "_law_record" = some (.ref a._law_record)
  k__law_record : PySem.W.keepIn K (.ref a._law_record) = true
  g__law_lasting : mg "_law_lasting" = some (.ref a._law_lasting)
  k__law_lasting : PySem.W.keepIn K (.ref a._law_lasting) = true
  g__law_left : mg "_law_left" = some (.ref a._law_left)
  k__law_left : PySem.W.keepIn K (.ref a._law_left) = true
  g__law_opened : mg "_law_opened" = some (.ref a._law_opened)
  k__law_opened : PySem.W.keepIn K (.ref a._law_opened) = true
  g__law_base : mg "_law_base" = some (.ref a._law_base)
  k__law_base : PySem.W.keepIn K (.ref a._law_base) = true
  g__law_cuts_right : mg "_law_cuts_right" = some (.ref a._law_cuts_right)
  k__law_cuts_right : PySem.W.keepIn K (.ref a._law_cuts_right) = true
  g__law_call : mg "_law_call" = some (.ref a._law_call)
  k__law_call : PySem.W.keepIn K (.ref a._law_call) = true
  g__law_turn : mg "_law_turn" = some (.ref a._law_turn)
  k__law_turn : PySem.W.keepIn K (.ref a._law_turn) = true
  g__law_day_right : mg "_law_day_right" = some (.ref a._law_day_right)
  k__law_day_right : PySem.W.keepIn K (.ref a._law_day_right) = true
  g__law_many_right : mg "_law_many_right" = some (.ref a._law_many_right)
  k__law_many_right : PySem.W.keepIn K (.ref a._law_many_right) = true
  g__law_strange_right : mg "_law_strange_right" = some (.ref a._law_strange_right)
  k__law_strange_right : PySem.W.keepIn K (.ref a._law_strange_right) = true
  g_law : mg "law" = some (.ref a.law)
  k_law : PySem.W.keepIn K (.ref a.law) = true
  cl_Disk : Cls K a.Disk
  mk_Disk : Mk K a.Disk a.Disk___init__
  nf_Disk_cells : NoAttr K a.Disk "cells"
  nf_Disk__octets : NoAttr K a.Disk "_octets"
  nf_Disk__events : NoAttr K a.Disk "_events"
  me_Disk_look : Meth K a.Disk "look" a.Disk_look
  me_Disk_put : Meth K a.Disk "put" a.Disk_put
  me_Disk_flush : Meth K a.Disk "flush" a.Disk_flush
  me_Disk_events : Meth K a.Disk "events" a.Disk_events
  cl_Journal : Cls K a.Journal
  mk_Journal : Mk K a.Journal a.Journal___init__
  nf_Journal_disk : NoAttr K a.Journal "disk"
  nf_Journal__side : NoAttr K a.Journal "_side"
  nf_Journal__records : NoAttr K a.Journal "_records"
  nf_Journal__end : NoAttr K a.Journal "_end"
  me_Journal_records : Meth K a.Journal "records" a.Journal_records
  me_Journal_write : Meth K a.Journal "write" a.Journal_write
  me_Journal_renew : Meth K a.Journal "renew" a.Journal_renew
  x_Refused : OwnX P K mg a.Refused a.Refused___init__ "word"
  xf_Refused : XfC K a.Refused
  xn_Refused : PySem.W.findIn K (.ref a.Refused) "word" = some none
  ec_Refused : ExcC K a.Refused
  exm_Refused_DeskError : PySem.W.exmOne K (.ref a.Refused) (.ref a.DeskError) = some true
  kit_Refused_Broken : PySem.W.kitOne K (.ref a.Refused) (.ref a.Broken) = some false
  kit_Refused_Refused : PySem.W.kitOne K (.ref a.Refused) (.ref a.Refused) = some true
  x_Broken : OwnX P K mg a.Broken a.Broken___init__ "word"
  xf_Broken : XfC K a.Broken
  xn_Broken : PySem.W.findIn K (.ref a.Broken) "word" = some none
  ec_Broken : ExcC K a.Broken
  exm_Broken_DeskError : PySem.W.exmOne K (.ref a.Broken) (.ref a.DeskError) = some true
  kit_Broken_Broken : PySem.W.kitOne K (.ref a.Broken) (.ref a.Broken) = some true
  kit_Broken_Refused : PySem.W.kitOne K (.ref a.Broken) (.ref a.Refused) = some false
structure Defs (K : PySem.W.Frag) (a : Ad) (fd : Fds) : Prop where
  is_integer : Fun K "is_integer" "is_integer" s_is_integer a.is_integer fd.is_integer
  is_number : Fun K "is_number" "is_number" s_is_number a.is_number fd.is_number
  is_octet : Fun K "is_octet" "is_octet" s_is_octet a.is_octet fd.is_octet
  Disk___init__ : Fun K "__init__" "Disk.__init__" s_Disk___init__ a.Disk___init__ fd.Disk___init__
  Disk_look : Fun K "look" "Disk.look" s_Disk_look a.Disk_look fd.Disk_look
  Disk_put : Fun K "put" "Disk.put" s_Disk_put a.Disk_put fd.Disk_put
  Disk_flush : Fun K "flush" "Disk.flush" s_Disk_flush a.Disk_flush fd.Disk_flush
  Disk_events : Fun K "events" "Disk.events" s_Disk_events a.Disk_events fd.Disk_events
  half_start : Fun K "half_start" "half_start" s_half_start a.half_start fd.half_start
  records_from : Fun K "records_from" "records_from" s_records_from a.records_from fd.records_from
  needed_cells : Fun K "needed_cells" "needed_cells" s_needed_cells a.needed_cells fd.needed_cells
  put_record : Fun K "put_record" "put_record" s_put_record a.put_record fd.put_record
  put_end : Fun K "put_end" "put_end" s_put_end a.put_end fd.put_end
  Journal___init__ : Fun K "__init__" "Journal.__init__" s_Journal___init__ a.Journal___init__ fd.Journal___init__
  Journal_records : Fun K "records" "Journal.records" s_Journal_records a.Journal_records fd.Journal_records
  Journal_write : Fun K "write" "Journal.write" s_Journal_write a.Journal_write fd.Journal_write
  Journal_renew : Fun K "renew" "Journal.renew" s_Journal_renew a.Journal_renew fd.Journal_renew
  _law_heap : Fun K "_law_heap" "_law_heap" s__law_heap a._law_heap fd._law_heap
  _law_draw : Fun K "_law_draw" "_law_draw" s__law_draw a._law_draw fd._law_draw
  _law_pick : Fun K "_law_pick" "_law_pick" s__law_pick a._law_pick fd._law_pick
  _law_octet : Fun K "_law_octet" "_law_octet" s__law_octet a._law_octet fd._law_octet
  _law_record : Fun K "_law_record" "_law_record" s__law_record a._law_record fd._law_record
  _law_lasting : Fun K "_law_lasting" "_law_lasting" s__law_lasting a._law_lasting fd._law_lasting
  _law_left : Fun K "_law_left" "_law_left" s__law_left a._law_left fd._law_left
  _law_opened : Fun K "_law_opened" "_law_opened" s__law_opened a._law_opened fd._law_opened
  _law_base : Fun K "_law_base" "_law_base" s__law_base a._law_base fd._law_base
  _law_cuts_right : Fun K "_law_cuts_right" "_law_cuts_right" s__law_cuts_right a._law_cuts_right fd._law_cuts_right
  _law_call : Fun K "_law_call" "_law_call" s__law_call a._law_call fd._law_call
  _law_turn : Fun K "_law_turn" "_law_turn" s__law_turn a._law_turn fd._law_turn
  _law_day_right : Fun K "_law_day_right" "_law_day_right" s__law_day_right a._law_day_right fd._law_day_right
  _law_many_right : Fun K "_law_many_right" "_law_many_right" s__law_many_right a._law_many_right fd._law_many_right
  _law_strange_right : Fun K "_law_strange_right" "_law_strange_right" s__law_strange_right a._law_strange_right fd._law_strange_right
  law : Fun K "law" "law" s_law a.law fd.law
abbrev N_is_integer : List Str := ["value"]
abbrev ps_is_integer : List Str := ["value"]
theorem sc_is_integer : FnScope N_is_integer ps_is_integer (defScope s_is_integer) := ⟨rfl, rfl, rfl, by decide +kernel, rfl, by decide +kernel, by decide +kernel⟩
abbrev N_is_number : List Str := ["value"]
abbrev ps_is_number : List Str := ["value"]
theorem sc_is_number : FnScope N_is_number ps_is_number (defScope s_is_number) := ⟨rfl, rfl, rfl, by decide +kernel, rfl, by decide +kernel, by decide +kernel⟩
abbrev N_is_octet : List Str := ["value"]
abbrev ps_is_octet : List Str := ["value"]
theorem sc_is_octet : FnScope N_is_octet ps_is_octet (defScope s_is_octet) := ⟨rfl, rfl, rfl, by decide +kernel, rfl, by decide +kernel, by decide +kernel⟩
abbrev N_Disk___init__ : List Str := ["self", "cells", "cell"]
abbrev ps_Disk___init__ : List Str := ["self", "cells"]
theorem sc_Disk___init__ : FnScope N_Disk___init__ ps_Disk___init__ (defScope s_Disk___init__) := ⟨rfl, rfl, rfl, by decide +kernel, rfl, by decide +kernel, by decide +kernel⟩
abbrev N_Disk_look : List Str := ["self", "at"]
abbrev ps_Disk_look : List Str := ["self", "at"]
theorem sc_Disk_look : FnScope N_Disk_look ps_Disk_look (defScope s_Disk_look) := ⟨rfl, rfl, rfl, by decide +kernel, rfl, by decide +kernel, by decide +kernel⟩
abbrev N_Disk_put : List Str := ["self", "at", "octet"]
abbrev ps_Disk_put : List Str := ["self", "at", "octet"]
theorem sc_Disk_put : FnScope N_Disk_put ps_Disk_put (defScope s_Disk_put) := ⟨rfl, rfl, rfl, by decide +kernel, rfl, by decide +kernel, by decide +kernel⟩
abbrev N_Disk_flush : List Str := ["self"]
abbrev ps_Disk_flush : List Str := ["self"]
theorem sc_Disk_flush : FnScope N_Disk_flush ps_Disk_flush (defScope s_Disk_flush) := ⟨rfl, rfl, rfl, by decide +kernel, rfl, by decide +kernel, by decide +kernel⟩
abbrev N_Disk_events : List Str := ["self"]
abbrev ps_Disk_events : List Str := ["self"]
theorem sc_Disk_events : FnScope N_Disk_events ps_Disk_events (defScope s_Disk_events) := ⟨rfl, rfl, rfl, by decide +kernel, rfl, by decide +kernel, by decide +kernel⟩
abbrev N_half_start : List Str := ["disk", "side"]
abbrev ps_half_start : List Str := ["disk", "side"]
theorem sc_half_start : FnScope N_half_start ps_half_start (defScope s_half_start) := ⟨rfl, rfl, rfl, by decide +kernel, rfl, by decide +kernel, by decide +kernel⟩
abbrev N_records_from : List Str := ["disk", "start", "stop", "found", "at", "first", "behind", "place"]
abbrev ps_records_from : List Str := ["disk", "start", "stop"]
theorem sc_records_from : FnScope N_records_from ps_records_from (defScope s_records_from) := ⟨rfl, rfl, rfl, by decide +kernel, rfl, by decide +kernel, by decide +kernel⟩
abbrev N_needed_cells : List Str := ["records", "record"]
abbrev ps_needed_cells : List Str := ["records"]
theorem sc_needed_cells : FnScope N_needed_cells ps_needed_cells (defScope s_needed_cells) := ⟨rfl, rfl, rfl, by decide +kernel, rfl, by decide +kernel, by decide +kernel⟩
abbrev N_put_record : List Str := ["disk", "at", "record", "place", "octet"]
abbrev ps_put_record : List Str := ["disk", "at", "record"]
theorem sc_put_record : FnScope N_put_record ps_put_record (defScope s_put_record) := ⟨rfl, rfl, rfl, by decide +kernel, rfl, by decide +kernel, by decide +kernel⟩
abbrev N_put_end : List Str := ["disk", "at", "stop"]
abbrev ps_put_end : List Str := ["disk", "at", "stop"]
theorem sc_put_end : FnScope N_put_end ps_put_end (defScope s_put_end) := ⟨rfl, rfl, rfl, by decide +kernel, rfl, by decide +kernel, by decide +kernel⟩
abbrev N_Journal___init__ : List Str := ["self", "disk"]
abbrev ps_Journal___init__ : List Str := ["self", "disk"]
theorem sc_Journal___init__ : FnScope N_Journal___init__ ps_Journal___init__ (defScope s_Journal___init__) := ⟨rfl, rfl, rfl, by decide +kernel, rfl, by decide +kernel, by decide +kernel⟩
abbrev N_Journal_records : List Str := ["self"]
abbrev ps_Journal_records : List Str := ["self"]
theorem sc_Journal_records : FnScope N_Journal_records ps_Journal_records (defScope s_Journal_records) := ⟨rfl, rfl, rfl, by decide +kernel, rfl, by decide +kernel, by decide +kernel⟩
abbrev N_Journal_write : List Str := ["self", "record", "at", "stop", "behind"]
abbrev ps_Journal_write : List Str := ["self", "record"]
theorem sc_Journal_write : FnScope N_Journal_write ps_Journal_write (defScope s_Journal_write) := ⟨rfl, rfl, rfl, by decide +kernel, rfl, by decide +kernel, by decide +kernel⟩
abbrev N_Journal_renew : List Str := ["self", "records", "side", "at", "stop", "record"]
abbrev ps_Journal_renew : List Str := ["self", "records"]
theorem sc_Journal_renew : FnScope N_Journal_renew ps_Journal_renew (defScope s_Journal_renew) := ⟨rfl, rfl, rfl, by decide +kernel, rfl, by decide +kernel, by decide +kernel⟩
abbrev N__law_heap : List Str := ["_law_script", "_law_cells", "_law_stir", "_law_cell"]
abbrev ps__law_heap : List Str := ["_law_script"]
theorem sc__law_heap : FnScope N__law_heap ps__law_heap (defScope s__law_heap) := ⟨rfl, rfl, rfl, by decide +kernel, rfl, by decide +kernel, by decide +kernel⟩
abbrev N__law_draw : List Str := ["_law_heap_here", "_law_many", "_law_rest"]
abbrev ps__law_draw : List Str := ["_law_heap_here", "_law_many"]
theorem sc__law_draw : FnScope N__law_draw ps__law_draw (defScope s__law_draw) := ⟨rfl, rfl, rfl, by decide +kernel, rfl, by decide +kernel, by decide +kernel⟩
abbrev N__law_pick : List Str := ["_law_heap_here", "_law_some"]
abbrev ps__law_pick : List Str := ["_law_heap_here", "_law_some"]
theorem sc__law_pick : FnScope N__law_pick ps__law_pick (defScope s__law_pick) := ⟨rfl, rfl, rfl, by decide +kernel, rfl, by decide +kernel, by decide +kernel⟩
abbrev N__law_octet : List Str := ["_law_heap_here", "_law_kind"]
abbrev ps__law_octet : List Str := ["_law_heap_here"]
theorem sc__law_octet : FnScope N__law_octet ps__law_octet (defScope s__law_octet) := ⟨rfl, rfl, rfl, by decide +kernel, rfl, by decide +kernel, by decide +kernel⟩
abbrev N__law_record : List Str := ["_law_heap_here", "_law_long", "_law_at"]
abbrev ps__law_record : List Str := ["_law_heap_here", "_law_long"]
theorem sc__law_record : FnScope N__law_record ps__law_record (defScope s__law_record) := ⟨rfl, rfl, rfl, by decide +kernel, rfl, by decide +kernel, by decide +kernel⟩
abbrev N__law_lasting : List Str := ["_law_cells", "_law_events", "_law_now", "_law_lasts", "_law_pending", "_law_event", "_law_at"]
abbrev ps__law_lasting : List Str := ["_law_cells", "_law_events"]
theorem sc__law_lasting : FnScope N__law_lasting ps__law_lasting (defScope s__law_lasting) := ⟨rfl, rfl, rfl, by decide +kernel, rfl, by decide +kernel, by decide +kernel⟩
abbrev N__law_left : List Str := ["_law_heap_here", "_law_cells", "_law_events", "_law_lasts", "_law_pending", "_law_now", "_law_way", "_law_at"]
abbrev ps__law_left : List Str := ["_law_heap_here", "_law_cells", "_law_events"]
theorem sc__law_left : FnScope N__law_left ps__law_left (defScope s__law_left) := ⟨rfl, rfl, rfl, by decide +kernel, rfl, by decide +kernel, by decide +kernel⟩
abbrev N__law_opened : List Str := ["_law_cells", "_law_disk", "_law_records"]
abbrev ps__law_opened : List Str := ["_law_cells"]
theorem sc__law_opened : FnScope N__law_opened ps__law_opened (defScope s__law_opened) := ⟨rfl, rfl, rfl, by decide +kernel, rfl, by decide +kernel, by decide +kernel⟩
abbrev N__law_base : List Str := ["_law_cells", "_law_events", "_law_flushed", "_law_now", "_law_event", "_law_at"]
abbrev ps__law_base : List Str := ["_law_cells", "_law_events"]
theorem sc__law_base : FnScope N__law_base ps__law_base (defScope s__law_base) := ⟨rfl, rfl, rfl, by decide +kernel, rfl, by decide +kernel, by decide +kernel⟩
abbrev N__law_cuts_right : List Str := ["_law_heap_here", "_law_disk", "_law_begun", "_law_old", "_law_new", "_law_cuts", "_law_events", "_law_base_here", "_law_since", "_law_ends", "_law_end", "_law_found", "_law_turn_here"]
abbrev ps__law_cuts_right : List Str := ["_law_heap_here", "_law_disk", "_law_begun", "_law_old", "_law_new", "_law_cuts"]
theorem sc__law_cuts_right : FnScope N__law_cuts_right ps__law_cuts_right (defScope s__law_cuts_right) := ⟨rfl, rfl, rfl, by decide +kernel, rfl, by decide +kernel, by decide +kernel⟩
abbrev N__law_call : List Str := ["_law_heap_here", "_law_journal", "_law_renews", "_law_records", "_law_part", "error"]
abbrev ps__law_call : List Str := ["_law_heap_here", "_law_journal", "_law_renews", "_law_records", "_law_part"]
theorem sc__law_call : FnScope N__law_call ps__law_call (defScope s__law_call) := ⟨rfl, rfl, rfl, by decide +kernel, rfl, by decide +kernel, by decide +kernel⟩
abbrev N__law_turn : List Str := ["_law_heap_here", "_law_journal", "_law_old", "_law_long", "_law_cuts", "_law_disk", "_law_renews", "_law_part", "_law_begun", "_law_new", "_law_told", "_law_at", "_law_record_here"]
abbrev ps__law_turn : List Str := ["_law_heap_here", "_law_journal", "_law_old", "_law_long", "_law_cuts"]
theorem sc__law_turn : FnScope N__law_turn ps__law_turn (defScope s__law_turn) := ⟨rfl, rfl, rfl, by decide +kernel, rfl, by decide +kernel, by decide +kernel⟩
abbrev N__law_day_right : List Str := ["_law_heap_here", "_law_many", "_law_turns", "_law_cuts", "_law_journal", "_law_records", "_law_turn_here", "_law_since", "_law_behind", "_law_disk", "_law_end", "_law_cells", "_law_fresh"]
abbrev ps__law_day_right : List Str := ["_law_heap_here", "_law_many", "_law_turns", "_law_cuts"]
theorem sc__law_day_right : FnScope N__law_day_right ps__law_day_right (defScope s__law_day_right) := ⟨rfl, rfl, rfl, by decide +kernel, rfl, by decide +kernel, by decide +kernel⟩
abbrev N__law_many_right : List Str := ["_law_journal", "_law_other", "_law_turn_here"]
abbrev ps__law_many_right : List Str := []
theorem sc__law_many_right : FnScope N__law_many_right ps__law_many_right (defScope s__law_many_right) := ⟨rfl, rfl, rfl, by decide +kernel, rfl, by decide +kernel, by decide +kernel⟩
abbrev N__law_strange_right : List Str := ["_law_heap_here", "_law_cells", "_law_journal", "error", "_law_records", "_law_at", "_law_record_here"]
abbrev ps__law_strange_right : List Str := ["_law_heap_here"]
theorem sc__law_strange_right : FnScope N__law_strange_right ps__law_strange_right (defScope s__law_strange_right) := ⟨rfl, rfl, rfl, by decide +kernel, rfl, by decide +kernel, by decide +kernel⟩
abbrev N_law : List Str := ["_law_script", "_law_heap_here", "_law_sizes", "_law_journal", "_law_at"]
abbrev ps_law : List Str := ["_law_script"]
theorem sc_law : FnScope N_law ps_law (defScope s_law) := ⟨rfl, rfl, rfl, by decide +kernel, rfl, by decide +kernel, by decide +kernel⟩
theorem bd_Disk___init___1_cells {K : PySem.W.Frag} {a : Ad} {fd : Fds} (Df : Defs K a fd) : BindG K fd.Disk___init__ ps_Disk___init__ 1 ["cells"] [0, 1] := bindG Df.Disk___init__ fun _ _ _ _ _ _ us ws h1 h2 => match us, ws, h1, h2 with | [_], [_], _, _ => rfl
theorem bd_Disk___init___2_ {K : PySem.W.Frag} {a : Ad} {fd : Fds} (Df : Defs K a fd) : BindG K fd.Disk___init__ ps_Disk___init__ 2 [] [0, 1] := bindG Df.Disk___init__ fun _ _ _ _ _ _ us ws h1 h2 => match us, ws, h1, h2 with | [_, _], [], _, _ => rfl
theorem bd_Disk_events_1_ {K : PySem.W.Frag} {a : Ad} {fd : Fds} (Df : Defs K a fd) : BindG K fd.Disk_events ps_Disk_events 1 [] [0] := bindG Df.Disk_events fun _ _ _ _ _ _ us ws h1 h2 => match us, ws, h1, h2 with | [_], [], _, _ => rfl
theorem bd_Disk_flush_1_ {K : PySem.W.Frag} {a : Ad} {fd : Fds} (Df : Defs K a fd) : BindG K fd.Disk_flush ps_Disk_flush 1 [] [0] := bindG Df.Disk_flush fun _ _ _ _ _ _ us ws h1 h2 => match us, ws, h1, h2 with | [_], [], _, _ => rfl
theorem bd_Disk_look_2_ {K : PySem.W.Frag} {a : Ad} {fd : Fds} (Df : Defs K a fd) : BindG K fd.Disk_look ps_Disk_look 2 [] [0, 1] := bindG Df.Disk_look fun _ _ _ _ _ _ us ws h1 h2 => match us, ws, h1, h2 with | [_, _], [], _, _ => rfl
theorem bd_Disk_put_3_ {K : PySem.W.Frag} {a : Ad} {fd : Fds} (Df : Defs K a fd) : BindG K fd.Disk_put ps_Disk_put 3 [] [0, 1, 2] := bindG Df.Disk_put fun _ _ _ _ _ _ us ws h1 h2 => match us, ws, h1, h2 with | [_, _, _], [], _, _ => rfl
theorem bd_Journal___init___1_disk {K : PySem.W.Frag} {a : Ad} {fd : Fds} (Df : Defs K a fd) : BindG K fd.Journal___init__ ps_Journal___init__ 1 ["disk"] [0, 1] := bindG Df.Journal___init__ fun _ _ _ _ _ _ us ws h1 h2 => match us, ws, h1, h2 with | [_], [_], _, _ => rfl
theorem bd_Journal___init___2_ {K : PySem.W.Frag} {a : Ad} {fd : Fds} (Df : Defs K a fd) : BindG K fd.Journal___init__ ps_Journal___init__ 2 [] [0, 1] := bindG Df.Journal___init__ fun _ _ _ _ _ _ us ws h1 h2 => match us, ws, h1, h2 with | [_, _], [], _, _ => rfl
theorem bd_Journal_records_1_ {K : PySem.W.Frag} {a : Ad} {fd : Fds} (Df : Defs K a fd) : BindG K fd.Journal_records ps_Journal_records 1 [] [0] := bindG Df.Journal_records fun _ _ _ _ _ _ us ws h1 h2 => match us, ws, h1, h2 with | [_], [], _, _ => rfl
theorem bd_Journal_renew_1_records {K : PySem.W.Frag} {a : Ad} {fd : Fds} (Df : Defs K a fd) : BindG K fd.Journal_renew ps_Journal_renew 1 ["records"] [0, 1] := bindG Df.Journal_renew fun _ _ _ _ _ _ us ws h1 h2 => match us, ws, h1, h2 with | [_], [_], _, _ => rfl
theorem bd_Journal_renew_2_ {K : PySem.W.Frag} {a : Ad} {fd : Fds} (Df : Defs K a fd) : BindG K fd.Journal_renew ps_Journal_renew 2 [] [0, 1] := bindG Df.Journal_renew fun _ _ _ _ _ _ us ws h1 h2 => match us, ws, h1, h2 with | [_, _], [], _, _ => rfl
theorem bd_Journal_write_1_record {K : PySem.W.Frag} {a : Ad} {fd : Fds} (Df : Defs K a fd) : BindG K fd.Journal_write ps_Journal_write 1 ["record"] [0, 1] := bindG Df.Journal_write fun _ _ _ _ _ _ us ws h1 h2 => match us, ws, h1, h2 with | [_], [_], _, _ => rfl
theorem bd_Journal_write_2_ {K : PySem.W.Frag} {a : Ad} {fd : Fds} (Df : Defs K a fd) : BindG K fd.Journal_write ps_Journal_write 2 [] [0, 1] := bindG Df.Journal_write fun _ _ _ _ _ _ us ws h1 h2 => match us, ws, h1, h2 with | [_, _], [], _, _ => rfl
theorem bd__law_base_2_ {K : PySem.W.Frag} {a : Ad} {fd : Fds} (Df : Defs K a fd) : BindG K fd._law_base ps__law_base 2 [] [0, 1] := bindG Df._law_base fun _ _ _ _ _ _ us ws h1 h2 => match us, ws, h1, h2 with | [_, _], [], _, _ => rfl
theorem bd__law_call_5_ {K : PySem.W.Frag} {a : Ad} {fd : Fds} (Df : Defs K a fd) : BindG K fd._law_call ps__law_call 5 [] [0, 1, 2, 3, 4] := bindG Df._law_call fun _ _ _ _ _ _ us ws h1 h2 => match us, ws, h1, h2 with | [_, _, _, _, _], [], _, _ => rfl
theorem bd__law_cuts_right_6_ {K : PySem.W.Frag} {a : Ad} {fd : Fds} (Df : Defs K a fd) : BindG K fd._law_cuts_right ps__law_cuts_right 6 [] [0, 1, 2, 3, 4, 5] := bindG Df._law_cuts_right fun _ _ _ _ _ _ us ws h1 h2 => match us, ws, h1, h2 with | [_, _, _, _, _, _], [], _, _ => rfl
theorem bd__law_day_right_4_ {K : PySem.W.Frag} {a : Ad} {fd : Fds} (Df : Defs K a fd) : BindG K fd._law_day_right ps__law_day_right 4 [] [0, 1, 2, 3] := bindG Df._law_day_right fun _ _ _ _ _ _ us ws h1 h2 => match us, ws, h1, h2 with | [_, _, _, _], [], _, _ => rfl
theorem bd__law_draw_2_ {K : PySem.W.Frag} {a : Ad} {fd : Fds} (Df : Defs K a fd) : BindG K fd._law_draw ps__law_draw 2 [] [0, 1] := bindG Df._law_draw fun _ _ _ _ _ _ us ws h1 h2 => match us, ws, h1, h2 with | [_, _], [], _, _ => rfl
theorem bd__law_heap_1_ {K : PySem.W.Frag} {a : Ad} {fd : Fds} (Df : Defs K a fd) : BindG K fd._law_heap ps__law_heap 1 [] [0] := bindG Df._law_heap fun _ _ _ _ _ _ us ws h1 h2 => match us, ws, h1, h2 with | [_], [], _, _ => rfl
theorem bd__law_lasting_2_ {K : PySem.W.Frag} {a : Ad} {fd : Fds} (Df : Defs K a fd) : BindG K fd._law_lasting ps__law_lasting 2 [] [0, 1] := bindG Df._law_lasting fun _ _ _ _ _ _ us ws h1 h2 => match us, ws, h1, h2 with | [_, _], [], _, _ => rfl
theorem bd__law_left_3_ {K : PySem.W.Frag} {a : Ad} {fd : Fds} (Df : Defs K a fd) : BindG K fd._law_left ps__law_left 3 [] [0, 1, 2] := bindG Df._law_left fun _ _ _ _ _ _ us ws h1 h2 => match us, ws, h1, h2 with | [_, _, _], [], _, _ => rfl
theorem bd__law_many_right_0_ {K : PySem.W.Frag} {a : Ad} {fd : Fds} (Df : Defs K a fd) : BindG K fd._law_many_right ps__law_many_right 0 [] [] := bindG Df._law_many_right fun _ _ _ _ _ _ us ws h1 h2 => match us, ws, h1, h2 with | [], [], _, _ => rfl
theorem bd__law_octet_1_ {K : PySem.W.Frag} {a : Ad} {fd : Fds} (Df : Defs K a fd) : BindG K fd._law_octet ps__law_octet 1 [] [0] := bindG Df._law_octet fun _ _ _ _ _ _ us ws h1 h2 => match us, ws, h1, h2 with | [_], [], _, _ => rfl
theorem bd__law_opened_1_ {K : PySem.W.Frag} {a : Ad} {fd : Fds} (Df : Defs K a fd) : BindG K fd._law_opened ps__law_opened 1 [] [0] := bindG Df._law_opened fun _ _ _ _ _ _ us ws h1 h2 => match us, ws, h1, h2 with | [_], [], _, _ => rfl
theorem bd__law_pick_2_ {K : PySem.W.Frag} {a : Ad} {fd : Fds} (Df : Defs K a fd) : BindG K fd._law_pick ps__law_pick 2 [] [0, 1] := bindG Df._law_pick fun _ _ _ _ _ _ us ws h1 h2 => match us, ws, h1, h2 with | [_, _], [], _, _ => rfl
theorem bd__law_record_2_ {K : PySem.W.Frag} {a : Ad} {fd : Fds} (Df : Defs K a fd) : BindG K fd._law_record ps__law_record 2 [] [0, 1] := bindG Df._law_record fun _ _ _ _ _ _ us ws h1 h2 => match us, ws, h1, h2 with | [_, _], [], _, _ => rfl
theorem bd__law_strange_right_1_ {K : PySem.W.Frag} {a : Ad} {fd : Fds} (Df : Defs K a fd) : BindG K fd._law_strange_right ps__law_strange_right 1 [] [0] := bindG Df._law_strange_right fun _ _ _ _ _ _ us ws h1 h2 => match us, ws, h1, h2 with | [_], [], _, _ => rfl
theorem bd__law_turn_5_ {K : PySem.W.Frag} {a : Ad} {fd : Fds} (Df : Defs K a fd) : BindG K fd._law_turn ps__law_turn 5 [] [0, 1, 2, 3, 4] := bindG Df._law_turn fun _ _ _ _ _ _ us ws h1 h2 => match us, ws, h1, h2 with | [_, _, _, _, _], [], _, _ => rfl
theorem bd_half_start_2_ {K : PySem.W.Frag} {a : Ad} {fd : Fds} (Df : Defs K a fd) : BindG K fd.half_start ps_half_start 2 [] [0, 1] := bindG Df.half_start fun _ _ _ _ _ _ us ws h1 h2 => match us, ws, h1, h2 with | [_, _], [], _, _ => rfl
theorem bd_is_integer_1_ {K : PySem.W.Frag} {a : Ad} {fd : Fds} (Df : Defs K a fd) : BindG K fd.is_integer ps_is_integer 1 [] [0] := bindG Df.is_integer fun _ _ _ _ _ _ us ws h1 h2 => match us, ws, h1, h2 with | [_], [], _, _ => rfl
theorem bd_is_number_1_ {K : PySem.W.Frag} {a : Ad} {fd : Fds} (Df : Defs K a fd) : BindG K fd.is_number ps_is_number 1 [] [0] := bindG Df.is_number fun _ _ _ _ _ _ us ws h1 h2 => match us, ws, h1, h2 with | [_], [], _, _ => rfl
theorem bd_is_octet_1_ {K : PySem.W.Frag} {a : Ad} {fd : Fds} (Df : Defs K a fd) : BindG K fd.is_octet ps_is_octet 1 [] [0] := bindG Df.is_octet fun _ _ _ _ _ _ us ws h1 h2 => match us, ws, h1, h2 with | [_], [], _, _ => rfl
theorem bd_needed_cells_1_ {K : PySem.W.Frag} {a : Ad} {fd : Fds} (Df : Defs K a fd) : BindG K fd.needed_cells ps_needed_cells 1 [] [0] := bindG Df.needed_cells fun _ _ _ _ _ _ us ws h1 h2 => match us, ws, h1, h2 with | [_], [], _, _ => rfl
theorem bd_put_end_3_ {K : PySem.W.Frag} {a : Ad} {fd : Fds} (Df : Defs K a fd) : BindG K fd.put_end ps_put_end 3 [] [0, 1, 2] := bindG Df.put_end fun _ _ _ _ _ _ us ws h1 h2 => match us, ws, h1, h2 with | [_, _, _], [], _, _ => rfl
theorem bd_put_record_3_ {K : PySem.W.Frag} {a : Ad} {fd : Fds} (Df : Defs K a fd) : BindG K fd.put_record ps_put_record 3 [] [0, 1, 2] := bindG Df.put_record fun _ _ _ _ _ _ us ws h1 h2 => match us, ws, h1, h2 with | [_, _, _], [], _, _ => rfl
theorem bd_records_from_3_ {K : PySem.W.Frag} {a : Ad} {fd : Fds} (Df : Defs K a fd) : BindG K fd.records_from ps_records_from 3 [] [0, 1, 2] := bindG Df.records_from fun _ _ _ _ _ _ us ws h1 h2 => match us, ws, h1, h2 with | [_, _, _], [], _, _ => rfl
end K60
namespace K60
open PySem PySem.Spec PyProof.Rows L2 RZ T2
local macro_rules | `(tactic| walk_at "st") => `(tactic| first
  | with_reducible refine as_seq ?_ | with_reducible refine as_if ?_ | with_reducible refine as_ret ?_ | with_reducible refine as_set ?_ | with_reducible refine as_drop ?_ | with_reducible refine as_next ?_
  | with_reducible refine as_asg ?_ | with_reducible refine as_retN ?_ | with_reducible refine as_brk ?_ | with_reducible refine as_cont ?_
  | with_reducible refine at_test ?_ | with_reducible refine at_B ?_ | with_reducible refine at_and ?_ | with_reducible refine at_or ?_ | with_reducible refine at_not ?_ | with_reducible refine at_yes ?_
  | with_reducible refine ae_op ?_ | with_reducible refine ae_un ?_ | with_reducible refine ae_cb ?_ | with_reducible refine aa_cons ?_ | with_reducible refine aa_nil ?_ | with_reducible refine ae_if ?_
  | with_reducible refine ae_andV ?_ | with_reducible refine ae_orV ?_ | with_reducible refine ae_notV ?_ | with_reducible refine ae_chain ?_
  | with_reducible refine ae_int ?_ | with_reducible refine ae_str ?_ | with_reducible refine ae_bl ?_ | with_reducible refine ae_non ?_ | with_reducible refine ae_ty ?_ | with_reducible refine ae_ref ?_
  | refine ae_var rfl ?_
  | with_reducible refine ar_add ?_ | with_reducible refine ar_sub ?_ | with_reducible refine ar_lt ?_ | with_reducible refine ar_le ?_ | with_reducible refine ar_gt ?_ | with_reducible refine ar_ge ?_
  | with_reducible refine ar_eqI ?_ | with_reducible refine ar_neI ?_
  | with_reducible refine ⟨_, rfl, ?_⟩
  | refine ae_callG ?_)
section
variable {P : Program} {w : World} {K : PySem.W.Frag} {mg : Str → Option Value} {base : Heap} {a : Ad} {fd : Fds}

/-! ### numbers -/
def isInt : D → Bool
  | .int _ => true
  | _ => false
def isNum : D → Bool
  | .int i => decide (0 ≤ i)
  | _ => false
def isOct : D → Bool
  | .int i => decide (0 ≤ i) && decide (i < 256)
  | _ => false
abbrev a_is_integer : ASp := fun ds M Ψ Χ => ∃ d t, ds = [d] ∧ dty d = some t ∧ Ψ (.bl (isInt d)) M
theorem kit_int {d : D} {t : String} (h : dty d = some t) : ∃ b c, kitB t "int" = some b ∧ kitB t "bool" = some c ∧ (b && !c) = isInt d := by
  cases d <;> cases h <;> exact ⟨_, _, rfl, rfl, rfl⟩
theorem ok_is_integer (T : Txt P K mg a) (Df : Defs K a fd) : FnG P w K mg base 1 a.is_integer fd.is_integer ps_is_integer (lift K a_is_integer) := by
  refine okG Df.is_integer sc_is_integer (fun ds M Ψ Χ ⟨_, _, h, _⟩ => by subst h; rfl) fun cdv A outer s H E hr hg => ?_
  refine ⟨_, (pss_one (ps_ret (pe_and (pe_callB call_isi (by rfl) T.n_isinstance (by decide +kernel) (pa_cons (pv 0) (pa_cons (pe_bltn (v := .ty "int") (by rfl) T.n_int (by decide +kernel) rfl) pa_nil))) (pe_one (pe_not (pe_callB call_isi (by rfl) T.n_isinstance (by decide +kernel) (pa_cons (pv 0) (pa_cons (pe_bltn (v := .ty "bool") (by rfl) T.n_bool (by decide +kernel) rfl) pa_nil)))))))), ?_⟩
  rintro ds M Ψ Χ ⟨d, t, rfl, ht, k⟩
  obtain ⟨b, c, kb, kc, e⟩ := kit_int ht
  repeat walk_at "st"
  refine arl_isi ht kb ?_
  refine ⟨_, rfl, ite3 (fun hb => ?_) (fun hb => ?_)⟩
  · repeat walk_at "st"
    refine arl_isi ht kc ?_
    repeat walk_at "st"
    rw [← e, hb] at k
    exact k
  · rw [← e, hb] at k
    exact k
abbrev a_is_number : ASp := fun ds M Ψ Χ => ∃ d t, ds = [d] ∧ dty d = some t ∧ Ψ (.bl (isNum d)) M
theorem ok_is_number (T : Txt P K mg a) (Df : Defs K a fd) : FnG P w K mg base 2 a.is_number fd.is_number ps_is_number (lift K a_is_number) := by
  refine okG Df.is_number sc_is_number (fun ds M Ψ Χ ⟨_, _, h, _⟩ => by subst h; rfl) fun cdv A outer s H E hr hg => ?_
  refine ⟨_, (pss_one (ps_ret (pe_and (pg_call (ok_is_integer T Df) (hr.mono (by decide)) hg (by rfl) T.g_is_integer T.k_is_integer (bd_is_integer_1_ Df) (takes_of rfl rfl rfl rfl) (pa_cons (pv 0) pa_nil) pk_nil) (pe_one (pe_cmpR op_ge (pv 0) pe_int (nomark _)))))), ?_⟩
  rintro ds M Ψ Χ ⟨d, t, rfl, ht, k⟩
  repeat walk_at "st"
  refine ⟨rfl, rfl, d, t, rfl, ht, ?_⟩
  refine ⟨_, rfl, ite3 (fun hb => ?_) (fun hb => ?_)⟩
  · cases d <;> try cases hb
    repeat walk_at "st"
    exact k
  · cases d <;> first | exact k | cases hb
abbrev a_is_octet : ASp := fun ds M Ψ Χ => ∃ d t, ds = [d] ∧ dty d = some t ∧ Ψ (.bl (isOct d)) M
theorem ok_is_octet (T : Txt P K mg a) (Df : Defs K a fd) : FnG P w K mg base 3 a.is_octet fd.is_octet ps_is_octet (lift K a_is_octet) := by
  refine okG Df.is_octet sc_is_octet (fun ds M Ψ Χ ⟨_, _, h, _⟩ => by subst h; rfl) fun cdv A outer s H E hr hg => ?_
  refine ⟨_, (pss_one (ps_ret (pe_and (pg_call (ok_is_number T Df) (hr.mono (by decide)) hg (by rfl) T.g_is_number T.k_is_number (bd_is_number_1_ Df) (takes_of rfl rfl rfl rfl) (pa_cons (pv 0) pa_nil) pk_nil) (pe_one (pe_cmpR op_lt (pv 0) (pe_globI T.g_OCTETS) (nomark _)))))), ?_⟩
  rintro ds M Ψ Χ ⟨d, t, rfl, ht, k⟩
  repeat walk_at "st"
  refine ⟨rfl, rfl, d, t, rfl, ht, ?_⟩
  refine ⟨_, rfl, ite3 (fun hb => ?_) (fun hb => ?_)⟩
  · cases d <;> try cases hb
    rename_i i
    repeat walk_at "st"
    have hb' : decide (0 ≤ i) = true := hb
    have k' : Ψ (.bl (decide (0 ≤ i) && decide (i < 256))) M := k
    rw [hb', Bool.true_and] at k'
    exact k'
  · cases d <;> first | exact k | cases hb | skip
    rename_i i
    have hb' : decide (0 ≤ i) = false := hb
    have k' : Ψ (.bl (decide (0 ≤ i) && decide (i < 256))) M := k
    rw [hb', Bool.false_and] at k'
    exact k'

/-! ### draws -/
/-- a heap of draws at h, its numbers at c -/
def Rng (h c : Addr) (M : Mem) : Prop := h ≠ c ∧ ∃ (dg : List Int) (st : Int), M h = some (.lst [.ref c, .int st]) ∧ M c = some (.lst (dg.map D.int)) ∧ dg.length ≤ 100 ∧ 0 ≤ st ∧ st < 2147483647
def But2 (h c : Addr) (M M' : Mem) : Prop := ∀ b, b ≠ h → b ≠ c → M' b = M b
theorem But2.refl {h c : Addr} {M : Mem} : But2 h c M M := fun _ _ _ => rfl
theorem But2.trans {h c : Addr} {M M1 M2 : Mem} (a : But2 h c M M1) (b : But2 h c M1 M2) : But2 h c M M2 := fun x y z => Eq.trans (b x y z) (a x y z)
theorem But2.none {h c : Addr} {M M' : Mem} (a : But2 h c M M') {p : Addr} (hp : M' p = Option.none) (r' : Rng h c M') : M p = Option.none := by
  obtain ⟨_, _, _, e1, e2, _⟩ := r'
  exact (a p (fun z => by rw [z, e1] at hp; cases hp) (fun z => by rw [z, e2] at hp; cases hp)).symm.trans hp
theorem Rng.of {h c : Addr} {M M' : Mem} (r : Rng h c M) (e1 : M' h = M h) (e2 : M' c = M c) : Rng h c M' := by
  obtain ⟨n, dg, st, a, b, z⟩ := r
  exact ⟨n, dg, st, e1.trans a, e2.trans b, z⟩
theorem Rng.set {h c p : Addr} {M : Mem} {m : MO} (r : Rng h c M) (n1 : p ≠ h) (n2 : p ≠ c) : Rng h c (M.set p m) := r.of (Mem.set_ne (Ne.symm n1)) (Mem.set_ne (Ne.symm n2))
theorem Rng.fresh {h c p : Addr} {M : Mem} (r : Rng h c M) (hp : M p = Option.none) : p ≠ h ∧ p ≠ c := by
  obtain ⟨_, _, _, e1, e2, _⟩ := r
  exact ⟨fun z => (by rw [z, e1] at hp; cases hp), fun z => (by rw [z, e2] at hp; cases hp)⟩
abbrev a_draw : ASp := fun ds M Ψ Χ => ∃ (h c : Addr) (many : Int), ds = [.ref h, .int many] ∧ Rng h c M ∧ 0 < many ∧ many < 1073741824 ∧ ∀ r M', 0 ≤ r → r < many → Rng h c M' → But2 h c M M' → Ψ (.int r) M'
/-- .. its numbers told; M0: as it was -/
structure RngF (h c : Addr) (dg : List Int) (st : Int) (M0 M : Mem) : Prop where
  ne : h ≠ c
  mh : M h = some (.lst [.ref c, .int st])
  mc : M c = some (.lst (dg.map T2.D.int))
  len : dg.length ≤ 100
  s0 : 0 ≤ st
  s1 : st < 2147483647
  bt : But2 h c M0 M
theorem RngF.of {h c : Addr} {M : Mem} (r : Rng h c M) : ∃ dg st, RngF h c dg st M M := by
  obtain ⟨n, dg, st, a, b, l, z1, z2⟩ := r
  exact ⟨dg, st, n, a, b, l, z1, z2, But2.refl⟩
theorem RngF.rng {h c : Addr} {dg : List Int} {st : Int} {M0 M : Mem} (r : RngF h c dg st M0 M) : Rng h c M := ⟨r.ne, dg, st, r.mh, r.mc, r.len, r.s0, r.s1⟩
theorem RngF.setC {h c : Addr} {dg dg' : List Int} {st : Int} {M0 M : Mem} (r : RngF h c dg st M0 M) (hl : dg'.length ≤ 100) : RngF h c dg' st M0 (M.set c (.lst (dg'.map T2.D.int))) :=
  ⟨r.ne, (Mem.set_ne r.ne).trans r.mh, Mem.set_same, hl, r.s0, r.s1, fun b x y => Eq.trans (Mem.set_ne y) (r.bt b x y)⟩
theorem RngF.setH {h c : Addr} {dg : List Int} {st st' : Int} {M0 M : Mem} (r : RngF h c dg st M0 M) (s0 : 0 ≤ st') (s1 : st' < 2147483647) : RngF h c dg st' M0 (M.set h (.lst [.ref c, .int st'])) :=
  ⟨r.ne, Mem.set_same, (Mem.set_ne (Ne.symm r.ne)).trans r.mc, r.len, s0, s1, fun b x y => Eq.trans (Mem.set_ne x) (r.bt b x y)⟩
theorem ne_nil {dg : List Int} (h : (!eqD (.lst (dg.map T2.D.int)) (.lst [])) = true) : ∃ dg' x, dg = dg' ++ [x] := by
  rw [eq_nil] at h
  cases dg with
  | nil => cases h
  | cons a r => exact ⟨(a :: r).dropLast, (a :: r).getLast (by simp), (List.dropLast_concat_getLast (by simp)).symm⟩
theorem ok__law_draw (T : Txt P K mg a) (Df : Defs K a fd) : FnG P w K mg base 1 a._law_draw fd._law_draw ps__law_draw (lift K a_draw) := by
  refine okG Df._law_draw sc__law_draw (fun ds M Ψ Χ ⟨_, _, _, h, _⟩ => by subst h; rfl) fun cdv A outer s H E hr hg => ?_
  refine ⟨_, (pss_cons (ps_while (passes_of rfl) (PW.pt (pw_and (pt_cmpR (op_neD (hun64 hr)) (pe_ix ix_seq (pv 0) pe_int (fun _ _ => rfl)) (pe_lst pa_nil) (nomark _)) (pw_and1 (pt_cmpR op_eq (pe_ix ix_seq (pe_ix ix_seq (pv 0) pe_int (fun _ _ => rfl)) (pe_un un_neg pe_int) (fun _ _ => rfl)) pe_int (nomark _))))) (pss_one (ps_expr (pe_bm0 PySem.F.plainAttrs_list PySem.F.slot_list_pop PySem.F.type_list_pop mt_pop (pe_ix ix_seq (pv 0) pe_int (fun _ _ => rfl))))))
      (pss_cons (ps_if (pt_cmpR (op_neD (hun64 hr)) (pe_ix ix_seq (pv 0) pe_int (fun _ _ => rfl)) (pe_lst pa_nil) (nomark _))
      (pss_cons (ps_set (i := 2) sc__law_draw.nd rfl (Or.inl rfl) (pe_bm0 PySem.F.plainAttrs_list PySem.F.slot_list_pop PySem.F.type_list_pop mt_pop (pe_ix ix_seq (pv 0) pe_int (fun _ _ => rfl))))
      (pss_cons (ps_expr (pe_bm PySem.F.plainAttrs_list PySem.F.slot_list_append PySem.F.type_list_append mt_append (pe_ix ix_seq (pv 0) pe_int (fun _ _ => rfl)) (pa_cons (pe_op op_fdiv (pv 2) (pv 1)) pa_nil)))
      (pss_one (ps_ret (pe_op op_mod (pe_callTy call_int1 (by rfl) T.n_int (by decide +kernel) (pa_cons (pv 2) pa_nil)) (pv 1))))))
      pss_nil)
      (pss_cons (ps_asg (pe_op op_mod (pe_callTy call_int1 (by rfl) T.n_int (by decide +kernel) (pa_cons (pe_op op_add (pe_op op_mul (pe_ix ix_seq (pv 0) pe_int (fun _ _ => rfl)) pe_int) pe_int) pa_nil)) pe_int) (pg_sub (pv 0) pe_int set_list))
      (pss_one (ps_ret (pe_op op_mod (pe_callTy call_int1 (by rfl) T.n_int (by decide +kernel) (pa_cons (pe_op op_fdiv (pe_ix ix_seq (pv 0) pe_int (fun _ _ => rfl)) pe_int) pa_nil)) (pv 1))))))), ?_⟩
  rintro ds M Ψ Χ ⟨h, c, many, rfl, R, m0, m1, k⟩
  obtain ⟨dg, st, R⟩ := RngF.of R
  refine as_seq (as_whileP (fun m Δ' M' => ∃ (dg : List Int) (st : Int), m = dg.length ∧ Δ' = [some (.ref h), some (.int many), none] ∧ RngF h c dg st M M') (fun Δ' M' => ∃ (dg : List Int) (st : Int), Δ' = [some (.ref h), some (.int many), none] ∧ RngF h c dg st M M') dg.length ⟨dg, st, rfl, rfl, R⟩ ?_ ?_)
  · -- behind the loop
    rintro Δ' M' ⟨dg, st, rfl, R⟩
    repeat walk_at "st"
    refine ar_ix_L (ar_ixM R.mh rfl ?_)
    refine ae_lst (aa_nil ⟨by decide, ?_⟩)
    refine ar_neM R.mc (n := 0) (m := 1) (goods_ints _) rfl (by decide) (by decide) ?_
    refine ⟨_, rfl, ite3 (fun hb => ?_) (fun hb => ?_)⟩
    · obtain ⟨dg, x, rfl⟩ := ne_nil hb
      repeat walk_at "st"
      refine ae_pop ?_
      repeat walk_at "st"
      refine ar_ix_L (ar_ixM R.mh rfl ?_)
      refine ⟨c, dg.map T2.D.int, .int x, rfl, by rw [R.mc, List.map_append]; rfl, ?_⟩
      have hl := R.len
      rw [List.length_append] at hl
      have R2 := R.setC (dg' := dg) (by simp at hl; omega)
      repeat walk_at "st"
      refine ae_append ?_
      repeat walk_at "st"
      refine ar_ix_L (ar_ixM R2.mh rfl ?_)
      refine ⟨c, _, rfl, R2.mc, ?_⟩
      repeat walk_at "st"
      refine ar_fdiv ⟨m0, m1⟩ ?_
      refine ⟨_, R2.mc, by rw [List.length_map]; simp at hl; omega, ?_⟩
      have R3 := R2.setC (dg' := dg ++ [x / many]) (by simpa using hl)
      have e : (M'.set c (.lst (dg.map T2.D.int))).set c (.lst (dg.map T2.D.int ++ [.int (x / many)])) = (M'.set c (.lst (dg.map T2.D.int))).set c (.lst ((dg ++ [x / many]).map T2.D.int)) := by rw [List.map_append]; rfl
      rw [e]
      repeat walk_at "st"
      refine arl_intI ?_
      repeat walk_at "st"
      refine ar_mod m0 ?_
      exact k _ _ (Int.emod_nonneg _ (by omega)) (Int.emod_lt_of_pos _ m0) R3.rng R3.bt
    · have hs0 := R.s0
      have hs1 := R.s1
      repeat walk_at "st"
      refine ar_ix_L (ar_ixM R.mh rfl ?_)
      repeat walk_at "st"
      refine ar_mul (.inr ⟨by decide, by decide⟩) ?_
      repeat walk_at "st"
      refine arl_intI ?_
      repeat walk_at "st"
      refine ar_mod (by decide) ?_
      have R2 := R.setH (st' := (st * 69621 + 59) % 2147483647) (Int.emod_nonneg _ (by decide)) (Int.emod_lt_of_pos _ (by decide))
      refine ag_sub ?_
      repeat walk_at "st"
      refine ⟨h, _, 1, 1, rfl, rfl, R.mh, rfl, ?_⟩
      repeat walk_at "st"
      refine ar_ix_L (ar_ixM R2.mh rfl ?_)
      repeat walk_at "st"
      refine ar_fdiv ⟨by decide, by decide⟩ ?_
      repeat walk_at "st"
      refine arl_intI ?_
      repeat walk_at "st"
      refine ar_mod m0 ?_
      exact k _ _ (Int.emod_nonneg _ (by omega)) (Int.emod_lt_of_pos _ m0) R2.rng R2.bt
  · rintro m Δ' M' ⟨dg, st, rfl, rfl, R⟩
    repeat walk_at "st"
    refine ar_ix_L (ar_ixM R.mh rfl ?_)
    refine ae_lst (aa_nil ⟨by decide, ?_⟩)
    refine ar_neM R.mc (n := 0) (m := 1) (goods_ints _) rfl (by decide) (by decide) ?_
    refine ⟨_, rfl, ite3 (fun hb => ?_) (fun hb => ⟨dg, st, rfl, R⟩)⟩
    obtain ⟨dg, x, rfl⟩ := ne_nil hb
    repeat walk_at "st"
    refine ar_ix_L (ar_ixM R.mh rfl ?_)
    repeat walk_at "st"
    refine ar_neg ?_
    refine ar_ix_L (ar_ixM R.mc (by rw [List.map_append]; exact atI_last) ?_)
    repeat walk_at "st"
    refine ite3 (fun hz => ?_) (fun hz => ⟨_, st, rfl, R⟩)
    repeat walk_at "st"
    refine ae_pop ?_
    repeat walk_at "st"
    refine ar_ix_L (ar_ixM R.mh rfl ?_)
    have hl := R.len
    rw [List.length_append] at hl
    have R2 := R.setC (dg' := dg) (by simp at hl; omega)
    refine ⟨c, dg.map T2.D.int, .int x, rfl, by rw [R.mc, List.map_append]; rfl, ?_⟩
    exact ⟨dg.length, by simp, dg, st, rfl, rfl, R2⟩
end
end K60
namespace K60
open PySem PySem.Spec PyProof.Rows L2 RZ T2
local macro_rules | `(tactic| walk_at "st") => `(tactic| first
  | with_reducible refine as_seq ?_ | with_reducible refine as_if ?_ | with_reducible refine as_ret ?_ | with_reducible refine as_set ?_ | with_reducible refine as_drop ?_ | with_reducible refine as_next ?_
  | with_reducible refine as_asg ?_ | with_reducible refine as_retN ?_ | with_reducible refine as_brk ?_ | with_reducible refine as_cont ?_
  | with_reducible refine at_test ?_ | with_reducible refine at_B ?_ | with_reducible refine at_and ?_ | with_reducible refine at_or ?_ | with_reducible refine at_not ?_ | with_reducible refine at_yes ?_
  | with_reducible refine ae_op ?_ | with_reducible refine ae_un ?_ | with_reducible refine ae_cb ?_ | with_reducible refine aa_cons ?_ | with_reducible refine aa_nil ?_ | with_reducible refine ae_if ?_
  | with_reducible refine ae_andV ?_ | with_reducible refine ae_orV ?_ | with_reducible refine ae_notV ?_ | with_reducible refine ae_chain ?_
  | with_reducible refine ae_int ?_ | with_reducible refine ae_str ?_ | with_reducible refine ae_bl ?_ | with_reducible refine ae_non ?_ | with_reducible refine ae_ty ?_ | with_reducible refine ae_ref ?_
  | refine ae_var rfl ?_
  | with_reducible refine ar_add ?_ | with_reducible refine ar_sub ?_ | with_reducible refine ar_lt ?_ | with_reducible refine ar_le ?_ | with_reducible refine ar_gt ?_ | with_reducible refine ar_ge ?_
  | with_reducible refine ar_eqI ?_ | with_reducible refine ar_neI ?_
  | with_reducible refine ⟨_, rfl, ?_⟩
  | refine ae_callG ?_)
section
variable {P : Program} {w : World} {K : PySem.W.Frag} {mg : Str → Option Value} {base : Heap} {a : Ad} {fd : Fds}

abbrev a_pick : ASp := fun ds M Ψ Χ => ∃ (h c : Addr) (xs : List D), ds = [.ref h, .lst xs] ∧ Rng h c M ∧ 0 < xs.length ∧ xs.length ≤ 100000 ∧ ∀ d M', d ∈ xs → Rng h c M' → But2 h c M M' → Ψ d M'
theorem ok__law_pick (T : Txt P K mg a) (Df : Defs K a fd) : FnG P w K mg base 2 a._law_pick fd._law_pick ps__law_pick (lift K a_pick) := by
  refine okG Df._law_pick sc__law_pick (fun ds M Ψ Χ ⟨_, _, _, h, _⟩ => by subst h; rfl) fun cdv A outer s H E hr hg => ?_
  refine ⟨_, (pss_one (ps_ret (pe_ix ix_seq (pv 1) (pg_call (ok__law_draw T Df) (hr.mono (by decide)) hg (by rfl) T.g__law_draw T.k__law_draw (bd__law_draw_2_ Df) (takes_of rfl rfl rfl rfl) (pa_cons (pv 0) (pa_cons (pe_callB call_len (by rfl) T.n_len (by decide +kernel) (pa_cons (pv 1) pa_nil)) pa_nil)) pk_nil) (fun _ _ => rfl)))), ?_⟩
  rintro ds M Ψ Χ ⟨h, c, xs, rfl, R, m0, m1, k⟩
  repeat walk_at "st"
  refine arl_lenL ?_
  repeat walk_at "st"
  refine ⟨rfl, rfl, h, c, _, rfl, R, by omega, by omega, fun r M' r0 r1 R' bt => ?_⟩
  have hr : r.toNat < xs.length := by omega
  refine ar_ix_L (ar_ixL (atI_int r0 (List.getElem?_eq_getElem hr)) (k _ _ (List.getElem_mem hr) R' bt))
abbrev a_octet : ASp := fun ds M Ψ Χ => ∃ (h c : Addr), ds = [.ref h] ∧ Rng h c M ∧ ∀ r M', 0 ≤ r → r < 256 → Rng h c M' → But2 h c M M' → Ψ (.int r) M'
theorem ok__law_octet (T : Txt P K mg a) (Df : Defs K a fd) : FnG P w K mg base 3 a._law_octet fd._law_octet ps__law_octet (lift K a_octet) := by
  refine okG Df._law_octet sc__law_octet (fun ds M Ψ Χ ⟨_, _, h, _⟩ => by subst h; rfl) fun cdv A outer s H E hr hg => ?_
  refine ⟨_, (pss_cons (ps_set (i := 1) sc__law_octet.nd rfl (Or.inl rfl) (pg_call (ok__law_draw T Df) (hr.mono (by decide)) hg (by rfl) T.g__law_draw T.k__law_draw (bd__law_draw_2_ Df) (takes_of rfl rfl rfl rfl) (pa_cons (pv 0) (pa_cons pe_int pa_nil)) pk_nil))
      (pss_cons (ps_if (pt_cmpR op_eq (pv 1) pe_int (nomark _))
      (pss_one (ps_ret (pg_call (ok__law_pick T Df) (hr.mono (by decide)) hg (by rfl) T.g__law_pick T.k__law_pick (bd__law_pick_2_ Df) (takes_of rfl rfl rfl rfl) (pa_cons (pv 0) (pa_cons (pe_lst (pa_cons pe_int (pa_cons pe_int (pa_cons pe_int (pa_cons pe_int (pa_cons pe_int (pa_cons pe_int pa_nil))))))) pa_nil)) pk_nil)))
      pss_nil)
      (pss_one (ps_ret (pg_call (ok__law_draw T Df) (hr.mono (by decide)) hg (by rfl) T.g__law_draw T.k__law_draw (bd__law_draw_2_ Df) (takes_of rfl rfl rfl rfl) (pa_cons (pv 0) (pa_cons (pe_ifExp (pt_cmpR op_lt (pv 1) pe_int (nomark _)) pe_int pe_int) pa_nil)) pk_nil))))), ?_⟩
  rintro ds M Ψ Χ ⟨h, c, rfl, R, k⟩
  repeat walk_at "st"
  refine ⟨rfl, rfl, h, c, _, rfl, R, by omega, by omega, fun kd M' r0 r1 R' bt => ?_⟩
  repeat walk_at "st"
  refine ite3 (fun hz => ?_) (fun hz => ?_)
  · repeat walk_at "st"
    refine ae_lst ?_
    repeat walk_at "st"
    refine ⟨by decide, ?_⟩
    repeat walk_at "st"
    refine ⟨rfl, rfl, h, c, _, rfl, R', by decide, by decide, fun d M2 hd R2 b2 => ?_⟩
    simp only [List.mem_cons, List.mem_nil_iff, or_false] at hd
    rcases hd with rfl | rfl | rfl | rfl | rfl | rfl <;> exact k _ _ (by decide) (by decide) R2 (bt.trans b2)
  · repeat walk_at "st"
    refine ite3 (fun hz => ?_) (fun hz => ?_)
    · repeat walk_at "st"
      exact ⟨rfl, rfl, h, c, _, rfl, R', by decide, by decide, fun d M2 d0 d1 R2 b2 => k _ _ d0 d1 R2 (bt.trans b2)⟩
    · repeat walk_at "st"
      exact ⟨rfl, rfl, h, c, _, rfl, R', by decide, by decide, fun d M2 d0 d1 R2 b2 => k _ _ d0 (by omega) R2 (bt.trans b2)⟩
abbrev a_heap : ASp := fun ds M Ψ Χ => ∃ (ns : List Int), ds = [.lst (ns.map D.int)] ∧ ∀ h c M', M h = none → M c = none → Rng h c M' → But2 h c M M' → Ψ (.ref h) M'
theorem ok__law_heap (T : Txt P K mg a) (Df : Defs K a fd) : FnG P w K mg base 1 a._law_heap fd._law_heap ps__law_heap (lift K a_heap) := by
  refine okG Df._law_heap sc__law_heap (fun ds M Ψ Χ ⟨_, h, _⟩ => by subst h; rfl) fun cdv A outer s H E hr hg => ?_
  refine ⟨_, (pss_cons (ps_par (i := 1) (j := 2) (by rfl) sc__law_heap.nd rfl rfl (by decide) rfl rfl (pa_cons (pe_lc (own := [("_law_cell", 3)]) rfl sc__law_heap.nd (pi_list (pe_slice sl_list (pv 0) po_none (po_some pe_int))) (blkOk_by (own := [("_law_cell", 3)]) (N := N__law_heap) (sc := defScope s__law_heap) (by decide +kernel)) (fun _ _ _ _ _ => (pg_name (i := 3) sc__law_heap.nd rfl (Or.inl rfl))) (fun _ _ _ _ _ => pts_nil) (fun _ _ _ _ _ => (pe_op op_add (pe_op op_mul pe_int (pe_callB call_abs (by rfl) T.n_abs (by decide +kernel) (pa_cons (pv 3) pa_nil))) (pe_callTy call_int1 (by rfl) T.n_int (by decide +kernel) (pa_cons (pe_cmpR op_lt (pv 3) pe_int (nomark _)) pa_nil))))) (pa_cons pe_int pa_nil)) (by rfl))
      (pss_cons (ps_for (passes_of rfl) rfl (pi_list (pv 1)) (pg_name (i := 3) sc__law_heap.nd rfl (Or.inl rfl))
      (pss_one (ps_set (i := 2) sc__law_heap.nd rfl (Or.inl rfl) (pe_op op_mod (pe_callTy call_int1 (by rfl) T.n_int (by decide +kernel) (pa_cons (pe_op op_add (pe_op op_add (pe_op op_mul (pv 2) pe_int) (pe_op op_mod (pe_callTy call_int1 (by rfl) T.n_int (by decide +kernel) (pa_cons (pv 3) pa_nil)) pe_int)) pe_int) pa_nil)) pe_int))))
      (pss_one (ps_ret (pe_lst (pa_cons (pe_revL (pe_lc (own := [("_law_cell", 3)]) rfl sc__law_heap.nd (pi_list (pv 1)) (blkOk_by (own := [("_law_cell", 3)]) (N := N__law_heap) (sc := defScope s__law_heap) (by decide +kernel)) (fun _ _ _ _ _ => (pg_name (i := 3) sc__law_heap.nd rfl (Or.inl rfl))) (fun _ _ _ _ _ => (pts_one (pt_cmpR op_ge (pv 3) (pe_op op_pow pe_int pe_int) (nomark _)))) (fun _ _ _ _ _ => (pv 3)))) (pa_cons (pv 2) pa_nil))))))), ?_⟩
  rintro ds M Ψ Χ ⟨ns, rfl, k⟩
  refine as_seq (as_par ?_)
  repeat walk_at "st"
  refine ae_lcP (ai_lst (ae_slL ?_))
  repeat walk_at "st"
  refine ao_none (ao_some ?_)
  repeat walk_at "st"
  rw [cut_to (by decide), show ((60 : Int).toNat = 60) from rfl, ← List.map_take]
  have hl : (ns.take 60).length ≤ 60 := by rw [List.length_take]; omega
  generalize ns.take 60 = ms at hl
  refine ⟨by rw [List.length_map]; omega, fun _ => true, fun d => .int (2 * (if iv d < 0 then -iv d else iv d) + (if decide (iv d < 0) = true then 1 else 0)), fun d M' hd => ?_, ?_⟩
  · obtain ⟨i, _, rfl⟩ := List.mem_map.mp hd
    refine agc_name (by decide) ⟨rfl, ?_⟩
    repeat walk_at "st"
    refine ⟨rfl, rfl, fun _ => ?_⟩
    repeat walk_at "st"
    refine arl_abs ?_
    repeat walk_at "st"
    refine ar_mul (.inl ⟨by decide, by decide⟩) ?_
    repeat walk_at "st"
    refine arl_intB ?_
    repeat walk_at "st"
    exact ⟨rfl, rfl⟩
  · rw [filter_true, map_iv (f := fun i => 2 * (if i < 0 then -i else i) + (if decide (i < 0) = true then 1 else 0))]
    have hl2 : (ms.map fun i => 2 * (if i < 0 then -i else i) + (if decide (i < 0) = true then 1 else 0)).length ≤ 60 := by rw [List.length_map]; exact hl
    generalize (ms.map fun i => 2 * (if i < 0 then -i else i) + (if decide (i < 0) = true then 1 else 0)) = cs at hl2
    repeat walk_at "st"
    refine ⟨_, _, rfl, ?_⟩
    -- the stir
    refine as_seq (as_for (ai_lst ?_))
    repeat walk_at "st"
    refine ⟨fun i Δ' M' => ∃ (v : Option D) (st : Int), Δ' = [some (.lst (ns.map D.int)), some (.lst (cs.map D.int)), some (.int st), v] ∧ 0 ≤ st ∧ st < 2147483647 ∧ M' = M, ⟨_, _, rfl, by decide, by decide, rfl⟩, ?_, ?_⟩
    · rintro i d Δ' M' hd ⟨v, st, rfl, s0, s1, rfl⟩
      rw [List.getElem?_map] at hd
      obtain ⟨x, _, rfl⟩ := Option.map_eq_some_iff.mp hd
      refine ag_name ?_
      repeat walk_at "st"
      refine ar_mul (.inr ⟨by decide, by decide⟩) ?_
      repeat walk_at "st"
      refine arl_intI ?_
      repeat walk_at "st"
      refine ar_mod (by decide) ?_
      repeat walk_at "st"
      refine arl_intI ?_
      repeat walk_at "st"
      refine ar_mod (by decide) ?_
      exact ⟨_, _, rfl, Int.emod_nonneg _ (by decide), Int.emod_lt_of_pos _ (by decide), rfl⟩
    · rintro Δ' M' ⟨v, st, rfl, s0, s1, rfl⟩
      repeat walk_at "st"
      refine ae_lstM ?_
      repeat walk_at "st"
      refine ae_revLM (ae_lcP (ai_lst ?_))
      repeat walk_at "st"
      refine ⟨by rw [List.length_map]; omega, fun d => decide (1000000000000000000 ≤ iv d), id, fun d M2 hd => ?_, ?_⟩
      · obtain ⟨i, _, rfl⟩ := List.mem_map.mp hd
        refine agc_name (by decide) ⟨rfl, ?_⟩
        repeat walk_at "st"
        refine ar_pow ⟨by decide, by decide, by decide⟩ ?_
        repeat walk_at "st"
        refine ⟨rfl, rfl, fun _ => ?_⟩
        repeat walk_at "st"
        exact ⟨rfl, rfl⟩
      · rw [List.map_id, List.filter_map]
        refine ⟨_, rfl, fun c hc => ?_⟩
        rw [← List.map_reverse]
        repeat walk_at "st"
        refine ⟨by simp, fun h hh => ?_⟩
        have hne : h ≠ c := fun z => by rw [z, Mem.set_same] at hh; cases hh
        rw [Mem.set_ne hne] at hh
        refine k h c _ hh hc ⟨hne, _, st, Mem.set_same, (Mem.set_ne (Ne.symm hne)).trans Mem.set_same, ?_, s0, s1⟩ fun b x y => (Mem.set_ne x).trans (Mem.set_ne y)
        rw [List.length_reverse]
        exact Nat.le_trans (List.length_filter_le _ _) (by omega)
end
end K60
namespace K60
open PySem PySem.Spec PyProof.Rows L2 RZ T2
local macro_rules | `(tactic| walk_at "st") => `(tactic| first
  | with_reducible refine as_seq ?_ | with_reducible refine as_if ?_ | with_reducible refine as_ret ?_ | with_reducible refine as_set ?_ | with_reducible refine as_drop ?_ | with_reducible refine as_next ?_
  | with_reducible refine as_asg ?_ | with_reducible refine as_retN ?_ | with_reducible refine as_brk ?_ | with_reducible refine as_cont ?_
  | with_reducible refine at_test ?_ | with_reducible refine at_B ?_ | with_reducible refine at_and ?_ | with_reducible refine at_or ?_ | with_reducible refine at_not ?_ | with_reducible refine at_yes ?_
  | with_reducible refine ae_op ?_ | with_reducible refine ae_un ?_ | with_reducible refine ae_cb ?_ | with_reducible refine aa_cons ?_ | with_reducible refine aa_nil ?_ | with_reducible refine ae_if ?_
  | with_reducible refine ae_andV ?_ | with_reducible refine ae_orV ?_ | with_reducible refine ae_notV ?_ | with_reducible refine ae_chain ?_
  | with_reducible refine ae_int ?_ | with_reducible refine ae_str ?_ | with_reducible refine ae_bl ?_ | with_reducible refine ae_non ?_ | with_reducible refine ae_ty ?_ | with_reducible refine ae_ref ?_
  | refine ae_varX rfl ?_ | refine ae_var rfl ?_
  | with_reducible refine ar_add ?_ | with_reducible refine ar_sub ?_ | with_reducible refine ar_lt ?_ | with_reducible refine ar_le ?_ | with_reducible refine ar_gt ?_ | with_reducible refine ar_ge ?_
  | with_reducible refine ar_eqI ?_ | with_reducible refine ar_neI ?_
  | with_reducible refine ⟨_, rfl, ?_⟩
  | refine ae_callG ?_ | refine ae_methG ?_)
section
variable {P : Program} {w : World} {K : PySem.W.Frag} {mg : Str → Option Value} {base : Heap} {a : Ad} {fd : Fds}
/-! ### events -/
abbrev Ev := Option (Int × Int)
def evD : Ev → D
  | none => .non
  | some (x, o) => .tup [.int x, .int o]
theorem take_snoc {α : Type} {xs : List α} {j : Nat} {x : α} (h : xs[j]? = some x) : xs.take (j + 1) = xs.take j ++ [x] := by
  rw [List.take_add_one, h]
  rfl
theorem evs_get {es : List Ev} {j : Nat} {e : Ev} (h : es[j]? = some e) : (es.map evD)[j]? = some (evD e) := by rw [List.getElem?_map, h]; rfl
theorem ixN_of {n : Nat} {i : Int} (h0 : 0 ≤ i) (h1 : i < n) : ixN n i = some i.toNat := by
  unfold ixN
  rw [if_pos h0, if_pos h1]
theorem map_set {xs : List Int} {j : Nat} {x : Int} : (xs.map T2.D.int).set j (.int x) = (xs.set j x).map T2.D.int := List.map_set.symm
/-! ### Disk -/
def okB (d : D) : Bool := (dty d).isSome
def Bad (d : D) : Prop := (∃ t, dty d = some t ∧ kitB t "tuple" = some false) ∨ d = (.raw fun _ => .dK []) ∨
  ∃ xs, d = .tup xs ∧ xs.all okB = true ∧ xs.length ≤ 100000 ∧ ((xs.length = 0 ∨ 20000 < xs.length) ∨ xs.all isOct = false)
def Fine (cs : List Int) : Prop := 1 ≤ cs.length ∧ cs.length ≤ 20000 ∧ ∀ c ∈ cs, 0 ≤ c ∧ c < 256
def dskF (xs : List D) (o e : Addr) : List (Str × D) := [("cells", .tup xs), ("_octets", .ref o), ("_events", .ref e)]
structure Made (C p o e : Addr) (xs : List D) (M M' : Mem) : Prop where
  mp : M' p = some (.ins C (dskF xs o e))
  mo : M' o = some (.lst xs)
  me : M' e = some (.lst [])
  no : M o = none
  ne : M e = none
  oe : o ≠ e
  bt : ∀ b, b ≠ p → b ≠ o → b ≠ e → M' b = M b
abbrev a_init (a : Ad) : ASp := fun ds M Ψ Χ => ∃ p d, ds = [.ref p, d] ∧ M p = some (.ins a.Disk []) ∧
  ((Bad d ∧ Χ (.ref a.Refused) [("word", .str "cells")] M) ∨ ∃ cs : List Int, d = .tup (cs.map D.int) ∧ Fine cs ∧ ∀ o e M', Made a.Disk p o e (cs.map D.int) M M' → Ψ .non M')
theorem all_okB {xs : List Int} : (xs.map T2.D.int).all okB = true := by
  rw [List.all_map]
  exact List.all_eq_true.mpr fun _ _ => rfl
theorem all_oct {xs : List Int} (h : ∀ c ∈ xs, 0 ≤ c ∧ c < 256) : (xs.map T2.D.int).all isOct = true := by
  rw [List.all_map]
  refine List.all_eq_true.mpr fun c hc => ?_
  have := h c hc
  show (decide (0 ≤ c) && decide (c < 256)) = true
  simp [this]
theorem map_bl {xs : List D} {f : D → Bool} : (xs.map fun d => T2.D.bl (f d)) = (xs.map f).map T2.D.bl := by
  rw [List.map_map]
  rfl
theorem ok_Disk___init__ (T : Txt P K mg a) (Df : Defs K a fd) : FnG P w K mg base 4 a.Disk___init__ fd.Disk___init__ ps_Disk___init__ (lift K (a_init a)) := by
  refine okG Df.Disk___init__ sc_Disk___init__ (fun ds M Ψ Χ ⟨_, _, h, _⟩ => by subst h; rfl) fun cdv A outer s H E hr hg => ?_
  refine ⟨_, (pss_cons (ps_if (PW.pt (pw_or (pt_not (pt_val (pe_callB call_isi (by rfl) T.n_isinstance (by decide +kernel) (pa_cons (pv 1) (pa_cons (pe_bltn (v := .ty "tuple") (by rfl) T.n_tuple (by decide +kernel) rfl) pa_nil))))) (pw_or1 (pt_not (pt_chain op_le op_le pe_int (pe_callB call_len (by rfl) T.n_len (by decide +kernel) (pa_cons (pv 1) pa_nil)) (pe_globI T.g_MOST_CELLS))))))
      (pss_one (ps_raiseX rfl T.x_Refused hr T.g_Refused (takes_of rfl rfl rfl rfl) (pa_cons pe_str pa_nil)))
      pss_nil)
      (pss_cons (ps_if (pt_not (pt_val (pe_callB (cr_all rfl) (by rfl) T.n_all (by decide +kernel) (pa_cons (pe_lc (own := [("cell", 2)]) rfl sc_Disk___init__.nd (pi_tup (pv 1)) (blkOk_by (own := [("cell", 2)]) (N := N_Disk___init__) (sc := defScope s_Disk___init__) (by decide +kernel)) (fun _ _ _ _ _ => (pg_name (i := 2) sc_Disk___init__.nd rfl (Or.inl rfl))) (fun _ _ _ _ _ => pts_nil) (fun _ _ _ _ _ => (pg_call (ok_is_octet T Df) (hr.mono (by decide)) hg (by rfl) T.g_is_octet T.k_is_octet (bd_is_octet_1_ Df) takes0 (pa_cons (pv 2) pa_nil) pk_nil))) pa_nil))))
      (pss_one (ps_raiseX rfl T.x_Refused hr T.g_Refused (takes_of rfl rfl rfl rfl) (pa_cons pe_str pa_nil)))
      pss_nil)
      (pss_cons (ps_fld (pv 0) (pv 1) rfl)
      (pss_cons (ps_fld (pv 0) (pe_callTy call_list_of (by rfl) T.n_list (by decide +kernel) (pa_cons (pv 1) pa_nil)) rfl)
      (pss_one (ps_fld (pv 0) (pe_lst pa_nil) rfl)))))), ?_⟩
  rintro ds M Ψ Χ ⟨p, d, rfl, mp, h⟩
  have h' : ((((∃ t, dty d = some t ∧ kitB t "tuple" = some false) ∨ d = (.raw fun _ => .dK [])) ∧ Χ (.ref a.Refused) [("word", .str "cells")] M) ∨
      ∃ xs : List D, d = .tup xs ∧ xs.all okB = true ∧ xs.length ≤ 100000 ∧ (¬ (1 ≤ xs.length ∧ xs.length ≤ 20000 ∧ xs.all isOct = true) → Χ (.ref a.Refused) [("word", .str "cells")] M) ∧
        ((1 ≤ xs.length ∧ xs.length ≤ 20000 ∧ xs.all isOct = true) → ∀ o e M', Made a.Disk p o e xs M M' → Ψ .non M')) := by
    rcases h with ⟨hb, k⟩ | ⟨cs, rfl, ⟨hc1, hc2, hc3⟩, k⟩
    · rcases hb with hb | hb | ⟨xs, rfl, hxo, hxl, hx⟩
      · exact .inl ⟨.inl hb, k⟩
      · exact .inl ⟨.inr hb, k⟩
      · refine .inr ⟨xs, rfl, hxo, hxl, fun _ => k, fun ⟨h1, h2, h3⟩ => ?_⟩
        rcases hx with hx | hx
        · omega
        · rw [h3] at hx; cases hx
    · exact .inr ⟨_, rfl, all_okB, by rw [List.length_map]; omega, fun z => absurd ⟨by rw [List.length_map]; exact hc1, by rw [List.length_map]; exact hc2, all_oct hc3⟩ z, fun _ => k⟩
  clear h
  repeat walk_at "st"
  rcases h' with ⟨hb, k⟩ | ⟨xs, rfl, hxo, hxl, kx, kf⟩
  · rcases hb with ⟨t, ht, hk⟩ | rfl
    · refine arl_isi ht hk ?_
      repeat walk_at "st"
      refine ite3 (fun _ => as_raiseX ?_) fun z => by cases z
      repeat walk_at "st"
      exact k
    · refine arl_isiD (b := false) rfl ?_
      repeat walk_at "st"
      refine ite3 (fun _ => as_raiseX ?_) fun z => by cases z
      repeat walk_at "st"
      exact k
  · refine arl_isi (t := "tuple") (b := true) rfl rfl ?_
    repeat walk_at "st"
    refine ite3 (fun z => by cases z) fun _ => ?_
    repeat walk_at "st"
    refine arl_lenT ?_
    repeat walk_at "st"
    refine ite3 (fun h1 => ?_) (fun h1 => ?_)
    · have h1 : (1 : Int) ≤ xs.length := of_decide_eq_true h1
      repeat walk_at "st"
      refine ite3 (fun h2 => as_raiseX ?_) (fun h2 => ?_)
      · repeat walk_at "st"
        refine kx fun ⟨_, z, _⟩ => ?_
        have h3 : decide ((xs.length : Int) ≤ 20000) = false := by simpa using h2
        have h4 := of_decide_eq_false h3
        omega
      · have h3 : decide ((xs.length : Int) ≤ 20000) = true := by simpa using h2
        have h3 := of_decide_eq_true h3
        repeat walk_at "st"
        refine ae_lcP (ai_tup ?_)
        repeat walk_at "st"
        refine ⟨hxl, fun _ => true, fun d => .bl (isOct d), fun d M' hd => ?_, ?_⟩
        · have hd2 := List.all_eq_true.mp hxo d hd
          obtain ⟨t, ht⟩ := Option.isSome_iff_exists.mp (show (dty d).isSome = true from hd2)
          refine agc_name (by decide) ⟨rfl, ?_⟩
          repeat walk_at "st"
          refine ⟨rfl, rfl, fun _ => ?_⟩
          repeat walk_at "st"
          exact ⟨rfl, rfl, d, t, rfl, ht, rfl, rfl⟩
        · rw [filter_true, map_bl]
          repeat walk_at "st"
          refine arl_all ?_
          rw [show (xs.map isOct).all id = xs.all isOct by rw [List.all_map]; rfl]
          refine ⟨_, rfl, ite3 (fun h4 => as_raiseX ?_) (fun h4 => ?_)⟩
          · repeat walk_at "st"
            refine kx fun ⟨_, _, z⟩ => ?_
            rw [z] at h4
            cases h4
          · have h4 : xs.all isOct = true := by simpa using h4
            have kf := kf ⟨by omega, by omega, h4⟩
            repeat walk_at "st"
            refine as_fld T.cl_Disk T.nf_Disk_cells ?_
            repeat walk_at "st"
            refine ⟨p, _, rfl, mp, by decide, ?_⟩
            repeat walk_at "st"
            refine as_fld T.cl_Disk T.nf_Disk__octets ?_
            repeat walk_at "st"
            refine arl_listT fun o ho => ?_
            repeat walk_at "st"
            have hpo : p ≠ o := fun z => by rw [← z, Mem.set_same] at ho; cases ho
            rw [Mem.set_ne (Ne.symm hpo)] at ho
            refine ⟨p, _, rfl, (Mem.set_ne hpo).trans Mem.set_same, by show 1 < 1000; decide, ?_⟩
            repeat walk_at "st"
            refine as_fld T.cl_Disk T.nf_Disk__events ?_
            refine ae_lstM (aa_nil ⟨by simp, fun e he => ?_⟩)
            have hpe : p ≠ e := fun z => by rw [← z, Mem.set_same] at he; cases he
            have hoe : o ≠ e := fun z => by rw [← z, Mem.set_ne (Ne.symm hpo), Mem.set_same] at he; cases he
            rw [Mem.set_ne (Ne.symm hpe), Mem.set_ne (Ne.symm hoe), Mem.set_ne (Ne.symm hpe)] at he
            repeat walk_at "st"
            refine ⟨p, _, rfl, (Mem.set_ne hpe).trans Mem.set_same, by show 2 < 1000; decide, ?_⟩
            refine kf o e _ ⟨Mem.set_same, ?_, ?_, ho, he, hoe, fun b x y z => ?_⟩
            · rw [Mem.set_ne (Ne.symm hpo), Mem.set_ne hoe, Mem.set_ne (Ne.symm hpo), Mem.set_same]
            · rw [Mem.set_ne (Ne.symm hpe), Mem.set_same]
            · rw [Mem.set_ne x, Mem.set_ne z, Mem.set_ne x, Mem.set_ne y, Mem.set_ne x]
    · have h1 : ¬ (1 : Int) ≤ xs.length := of_decide_eq_false h1
      repeat walk_at "st"
      refine ite3 (fun _ => as_raiseX ?_) fun z => by cases z
      repeat walk_at "st"
      exact kx fun ⟨z, _⟩ => by omega
abbrev a_look (a : Ad) : ASp := fun ds M Ψ Χ => ∃ (xs : List D) (o e : Addr) (octs : List Int) (x v : Int), ds = [.obj a.Disk (dskF xs o e), .int x] ∧ M o = some (.lst (octs.map D.int)) ∧ 0 ≤ x ∧ octs[x.toNat]? = some v ∧ Ψ (.int v) M
theorem ok_Disk_look (T : Txt P K mg a) (Df : Defs K a fd) : FnG P w K mg base 1 a.Disk_look fd.Disk_look ps_Disk_look (lift K (a_look a)) := by
  refine okG Df.Disk_look sc_Disk_look (fun ds M Ψ Χ ⟨_, _, _, _, _, _, h, _⟩ => by subst h; rfl) fun cdv A outer s H E hr hg => ?_
  refine ⟨_, (pss_one (ps_ret (pe_ix ix_seq (pe_fld (pv 0) rfl) (pv 1) (fun _ _ => rfl)))), ?_⟩
  rintro ds M Ψ Χ ⟨xs, o, e, octs, x, v, rfl, mo, x0, hx, k⟩
  repeat walk_at "st"
  refine ae_fldO T.cl_Disk T.nf_Disk__octets ?_
  repeat walk_at "st"
  refine ⟨_, .ref o, rfl, rfl, ?_⟩
  repeat walk_at "st"
  exact ar_ix_L (ar_ixM mo (atI_int x0 (by rw [List.getElem?_map, hx]; rfl)) k)
abbrev a_put (a : Ad) : ASp := fun ds M Ψ Χ => ∃ (xs : List D) (o e : Addr) (octs : List Int) (evs : List Ev) (x v : Int), ds = [.obj a.Disk (dskF xs o e), .int x, .int v] ∧ M o = some (.lst (octs.map D.int)) ∧ M e = some (.lst (evs.map evD)) ∧ o ≠ e ∧ 0 ≤ x ∧ x < octs.length ∧ evs.length < 90000 ∧
  Ψ .non ((M.set o (.lst ((octs.set x.toNat v).map D.int))).set e (.lst ((evs ++ [some (x, v)]).map evD)))
theorem ok_Disk_put (T : Txt P K mg a) (Df : Defs K a fd) : FnG P w K mg base 1 a.Disk_put fd.Disk_put ps_Disk_put (lift K (a_put a)) := by
  refine okG Df.Disk_put sc_Disk_put (fun ds M Ψ Χ ⟨_, _, _, _, _, _, _, h, _⟩ => by subst h; rfl) fun cdv A outer s H E hr hg => ?_
  refine ⟨_, (pss_cons (ps_asg (pv 2) (pg_sub (pe_fld (pv 0) rfl) (pv 1) set_list))
      (pss_one (ps_expr (pe_bm PySem.F.plainAttrs_list PySem.F.slot_list_append PySem.F.type_list_append mt_append (pe_fld (pv 0) rfl) (pa_cons (pe_tup (pa_cons (pv 1) (pa_cons (pv 2) pa_nil))) pa_nil))))), ?_⟩
  rintro ds M Ψ Χ ⟨xs, o, e, octs, evs, x, v, rfl, mo, me, oe, x0, x1, hl, k⟩
  repeat walk_at "st"
  refine ag_sub ?_
  refine ae_fldO T.cl_Disk T.nf_Disk__octets ?_
  repeat walk_at "st"
  refine ⟨_, .ref o, rfl, rfl, ?_⟩
  repeat walk_at "st"
  refine ⟨o, _, x, x.toNat, rfl, rfl, mo, ixN_of x0 (by rw [List.length_map]; exact x1), ?_⟩
  repeat walk_at "st"
  refine ae_append ?_
  refine ae_fldO T.cl_Disk T.nf_Disk__events ?_
  repeat walk_at "st"
  refine ⟨_, .ref e, rfl, rfl, e, _, rfl, (Mem.set_ne (Ne.symm oe)).trans me, ?_⟩
  refine ae_tup ?_
  repeat walk_at "st"
  refine ⟨by simp, _, (Mem.set_ne (Ne.symm oe)).trans me, by rw [List.length_map]; omega, ?_⟩
  rw [List.map_append, ← map_set] at k
  exact k
abbrev a_flush (a : Ad) : ASp := fun ds M Ψ Χ => ∃ (xs : List D) (o e : Addr) (evs : List Ev), ds = [.obj a.Disk (dskF xs o e)] ∧ M e = some (.lst (evs.map evD)) ∧ evs.length < 90000 ∧
  Ψ .non (M.set e (.lst ((evs ++ [none]).map evD)))
theorem ok_Disk_flush (T : Txt P K mg a) (Df : Defs K a fd) : FnG P w K mg base 1 a.Disk_flush fd.Disk_flush ps_Disk_flush (lift K (a_flush a)) := by
  refine okG Df.Disk_flush sc_Disk_flush (fun ds M Ψ Χ ⟨_, _, _, _, h, _⟩ => by subst h; rfl) fun cdv A outer s H E hr hg => ?_
  refine ⟨_, (pss_one (ps_expr (pe_bm PySem.F.plainAttrs_list PySem.F.slot_list_append PySem.F.type_list_append mt_append (pe_fld (pv 0) rfl) (pa_cons pe_non pa_nil)))), ?_⟩
  rintro ds M Ψ Χ ⟨xs, o, e, evs, rfl, me, hl, k⟩
  repeat walk_at "st"
  refine ae_append ?_
  refine ae_fldO T.cl_Disk T.nf_Disk__events ?_
  repeat walk_at "st"
  refine ⟨_, .ref e, rfl, rfl, e, _, rfl, me, ?_⟩
  repeat walk_at "st"
  refine ⟨_, me, by rw [List.length_map]; omega, ?_⟩
  rw [List.map_append] at k
  exact k
abbrev a_events (a : Ad) : ASp := fun ds M Ψ Χ => ∃ (xs : List D) (o e : Addr) (evs : List Ev), ds = [.obj a.Disk (dskF xs o e)] ∧ M e = some (.lst (evs.map evD)) ∧ Ψ (.tup (evs.map evD)) M
theorem ok_Disk_events (T : Txt P K mg a) (Df : Defs K a fd) : FnG P w K mg base 1 a.Disk_events fd.Disk_events ps_Disk_events (lift K (a_events a)) := by
  refine okG Df.Disk_events sc_Disk_events (fun ds M Ψ Χ ⟨_, _, _, _, h, _⟩ => by subst h; rfl) fun cdv A outer s H E hr hg => ?_
  refine ⟨_, (pss_one (ps_ret (pe_callTy call_tuple_of (by rfl) T.n_tuple (by decide +kernel) (pa_cons (pe_fld (pv 0) rfl) pa_nil)))), ?_⟩
  rintro ds M Ψ Χ ⟨xs, o, e, evs, rfl, me, k⟩
  repeat walk_at "st"
  refine ae_fldO T.cl_Disk T.nf_Disk__events ?_
  repeat walk_at "st"
  refine ⟨_, .ref e, rfl, rfl, ?_⟩
  repeat walk_at "st"
  exact arl_tupM me k
/-- a turn of a comprehension that draws -/
theorem turn {h c p : Addr} {M M' M4 : Mem} {acc : List D} (bt : But2 h c M M') (R : Rng h c M') (hp : M' p = none) (R4 : Rng h c M4) (b4 : But2 h c (M'.set p (.lst acc)) M4) :
    ∃ M5 : Mem, M4 = M5.set p (.lst acc) ∧ M5 p = none ∧ Rng h c M5 ∧ But2 h c M M5 := by
  obtain ⟨n1, n2⟩ := R.fresh hp
  have e4 : M4 p = some (.lst acc) := (b4 p n1 n2).trans Mem.set_same
  refine ⟨M4.del p, ?_, Mem.del_same, R4.of (Mem.del_ne (Ne.symm n1)) (Mem.del_ne (Ne.symm n2)), fun b x y => ?_⟩
  · funext b
    by_cases hb : b = p
    · rw [hb, e4, Mem.set_same]
    · rw [Mem.set_ne hb, Mem.del_ne hb]
  · by_cases hb : b = p
    · rw [hb, Mem.del_same, But2.none bt hp R]
    · rw [Mem.del_ne hb, b4 b x y, Mem.set_ne hb]
      exact bt b x y
theorem goodT {ns : List Int} : good 1 (.tup (ns.map T2.D.int)) = true := by
  show goods 0 _ = true
  exact goods_ints _
def Oct (cs : List Int) : Prop := ∀ c ∈ cs, 0 ≤ c ∧ c < 256
theorem Oct.sho {cs : List Int} (h : Oct cs) : ∀ d ∈ cs.map T2.D.int, Sho d := sho_ints fun i hi => ⟨(h i hi).1, by have := (h i hi).2; omega⟩
theorem Oct.set {cs : List Int} (h : Oct cs) {j : Nat} {v : Int} (hv : 0 ≤ v ∧ v < 256) : Oct (cs.set j v) := fun c hc => by
  rcases List.mem_or_eq_of_mem_set hc with z | z
  · exact h c z
  · rw [z]; exact hv
end
end K60
namespace K60
open PySem PySem.Spec PyProof.Rows L2 RZ T2
local macro_rules | `(tactic| walk_at "st") => `(tactic| first
  | with_reducible refine as_seq ?_ | with_reducible refine as_if ?_ | with_reducible refine as_ret ?_ | with_reducible refine as_set ?_ | with_reducible refine as_drop ?_ | with_reducible refine as_next ?_
  | with_reducible refine as_asg ?_ | with_reducible refine as_retN ?_ | with_reducible refine as_brk ?_ | with_reducible refine as_cont ?_
  | with_reducible refine at_test ?_ | with_reducible refine at_B ?_ | with_reducible refine at_and ?_ | with_reducible refine at_or ?_ | with_reducible refine at_not ?_ | with_reducible refine at_yes ?_
  | with_reducible refine ae_op ?_ | with_reducible refine ae_un ?_ | with_reducible refine ae_cb ?_ | with_reducible refine aa_cons ?_ | with_reducible refine aa_nil ?_ | with_reducible refine ae_if ?_
  | with_reducible refine ae_andV ?_ | with_reducible refine ae_orV ?_ | with_reducible refine ae_notV ?_ | with_reducible refine ae_chain ?_
  | with_reducible refine ae_int ?_ | with_reducible refine ae_str ?_ | with_reducible refine ae_bl ?_ | with_reducible refine ae_non ?_ | with_reducible refine ae_ty ?_ | with_reducible refine ae_ref ?_
  | refine ae_varX rfl ?_ | refine ae_var rfl ?_
  | with_reducible refine ar_add ?_ | with_reducible refine ar_sub ?_ | with_reducible refine ar_lt ?_ | with_reducible refine ar_le ?_ | with_reducible refine ar_gt ?_ | with_reducible refine ar_ge ?_
  | with_reducible refine ar_eqI ?_ | with_reducible refine ar_neI ?_
  | with_reducible refine ⟨_, rfl, ?_⟩
  | refine ae_callG ?_ | refine ae_methG ?_)
section
variable {P : Program} {w : World} {K : PySem.W.Frag} {mg : Str → Option Value} {base : Heap} {a : Ad} {fd : Fds}
/-! ### the journal's cells -/
def half (n : Nat) : Nat := (n - 1) / 2
def hstart (n s : Nat) : Nat := 1 + s * half n
theorem half_int {n : Nat} (h : 1 ≤ n) : ((n : Int) - 1) / 2 = (half n : Int) := by
  unfold half
  omega
/-- the records from a place on, and where they end -/
inductive Par (cs : List Int) (stop : Nat) : Nat → List (List Int) → Nat → Prop
  | done {p : Nat} : (p < stop → ∀ v, cs[p]? = some v → v ≤ 0) → Par cs stop p [] p
  | step {p b e : Nat} {rs : List (List Int)} {m hi lo : Int} : p < stop → cs[p]? = some m → 0 < m → p + 3 ≤ stop → cs[p + 1]? = some hi → cs[p + 2]? = some lo → (b : Int) = p + 3 + hi * 256 + lo → b ≤ stop → Par cs stop b rs e →
      Par cs stop p ((cs.drop (p + 3)).take (b - (p + 3)) :: rs) e
/-- .. or they break off -/
inductive Brk (cs : List Int) (stop : Nat) : Nat → Prop
  | head {p : Nat} {m : Int} : p < stop → cs[p]? = some m → 0 < m → stop < p + 3 → Brk cs stop p
  | over {p : Nat} {m hi lo : Int} : p < stop → cs[p]? = some m → 0 < m → p + 3 ≤ stop → cs[p + 1]? = some hi → cs[p + 2]? = some lo → (stop : Int) < p + 3 + hi * 256 + lo → Brk cs stop p
  | step {p b : Nat} {m hi lo : Int} : p < stop → cs[p]? = some m → 0 < m → p + 3 ≤ stop → cs[p + 1]? = some hi → cs[p + 2]? = some lo → (b : Int) = p + 3 + hi * 256 + lo → b ≤ stop → Brk cs stop b → Brk cs stop p
theorem slice_map {cs : List Int} {q n : Nat} (h : q + n ≤ cs.length) : (rngD (q : Int) n).map (fun y => T2.D.int ((cs[(iv y).toNat]?).getD 0)) = ((cs.drop q).take n).map T2.D.int := by
  refine List.ext_getElem? fun i => ?_
  rw [List.getElem?_map, List.getElem?_map, List.getElem?_take]
  by_cases hi : i < n
  · rw [if_pos hi, List.getElem?_drop]
    unfold rngD
    rw [List.getElem?_map, List.getElem?_range hi]
    have e : (iv (T2.D.int ((q : Int) + (i : Int)))).toNat = q + i := by show ((q : Int) + (i : Int)).toNat = q + i; omega
    show some (T2.D.int ((cs[(iv (T2.D.int ((q : Int) + (i : Int)))).toNat]?).getD 0)) = _
    rw [e, List.getElem?_eq_getElem (by omega : q + i < cs.length)]
    rfl
  · rw [if_neg hi, List.getElem?_eq_none (by rw [rngD_length]; omega)]
    rfl
def recD (r : List Int) : D := .tup (r.map D.int)
abbrev a_half (a : Ad) : ASp := fun ds M Ψ Χ => ∃ (xs : List D) (o e : Addr) (s : Int), ds = [.obj a.Disk (dskF xs o e), .int s] ∧ 1 ≤ xs.length ∧ xs.length ≤ 20000 ∧ 0 ≤ s ∧ s ≤ 2 ∧ Ψ (.int (hstart xs.length s.toNat)) M
theorem ok_half_start (T : Txt P K mg a) (Df : Defs K a fd) : FnG P w K mg base 1 a.half_start fd.half_start ps_half_start (lift K (a_half a)) := by
  refine okG Df.half_start sc_half_start (fun ds M Ψ Χ ⟨_, _, _, _, h, _⟩ => by subst h; rfl) fun cdv A outer s H E hr hg => ?_
  refine ⟨_, (pss_one (ps_ret (pe_op op_add pe_int (pe_op op_mul (pv 1) (pe_op op_fdiv (pe_op op_sub (pe_callB call_len (by rfl) T.n_len (by decide +kernel) (pa_cons (pe_fld (pv 0) rfl) pa_nil)) pe_int) pe_int))))), ?_⟩
  rintro ds M Ψ Χ ⟨xs, o, e, s, rfl, h1, h2, s0, s1, k⟩
  repeat walk_at "st"
  refine ae_fldO T.cl_Disk T.nf_Disk_cells ?_
  repeat walk_at "st"
  refine ⟨_, _, rfl, rfl, ?_⟩
  repeat walk_at "st"
  refine arl_lenT ?_
  repeat walk_at "st"
  refine ar_fdiv ⟨by decide, by decide⟩ ?_
  rw [half_int h1]
  refine ar_mul (.inl ⟨by omega, by omega⟩) ?_
  repeat walk_at "st"
  have e : (1 + s * (half xs.length : Int)) = ((hstart xs.length s.toNat : Nat) : Int) := by
    unfold hstart
    rw [Int.natCast_add, Int.natCast_mul, Int.toNat_of_nonneg s0]
    rfl
  rw [e]
  exact k
abbrev a_records (a : Ad) : ASp := fun ds M Ψ Χ => ∃ (xs : List D) (o e : Addr) (cs : List Int) (start stop : Nat), ds = [.obj a.Disk (dskF xs o e), .int start, .int stop] ∧ M o = some (.lst (cs.map D.int)) ∧ stop ≤ cs.length ∧ cs.length ≤ 20000 ∧ Oct cs ∧ start ≤ 20000 ∧
  ((∃ rs en, Par cs stop start rs en ∧ ∀ f, M f = none → Ψ (.tup [.ref f, .int (en : Nat)]) (M.set f (.lst (rs.map recD)))) ∨ (Brk cs stop start ∧ Χ (.ref a.Broken) [("word", .str "journal")] M))
theorem ok_records_from (T : Txt P K mg a) (Df : Defs K a fd) : FnG P w K mg base 2 a.records_from fd.records_from ps_records_from (lift K (a_records a)) := by
  refine okG Df.records_from sc_records_from (fun ds M Ψ Χ ⟨_, _, _, _, _, _, h, _⟩ => by subst h; rfl) fun cdv A outer s H E hr hg => ?_
  refine ⟨_, (pss_cons (ps_par (i := 3) (j := 4) (by rfl) sc_records_from.nd rfl rfl (by decide) rfl rfl (pa_cons (pe_lst pa_nil) (pa_cons (pv 1) pa_nil)) (by rfl))
      (pss_cons (ps_while (passes_of rfl) (PW.pt (pw_and (pt_cmpR op_lt (pv 4) (pv 2) (nomark _)) (pw_and1 (pt_cmpR op_gt (pg_meth (pv 0) T.cl_Disk T.me_Disk_look (ok_Disk_look T Df) (hr.mono (by decide)) hg (bd_Disk_look_2_ Df) (takes_of rfl rfl rfl rfl) (pa_cons (pv 4) pa_nil) pk_nil) pe_int (nomark _))))) (pss_cons (ps_set (i := 5) sc_records_from.nd rfl (Or.inl rfl) (pe_op op_add (pv 4) (pe_globI T.g_HEAD)))
      (pss_cons (ps_if (pt_cmpR op_gt (pv 5) (pv 2) (nomark _))
      (pss_one (ps_raiseX rfl T.x_Broken hr T.g_Broken (takes_of rfl rfl rfl rfl) (pa_cons pe_str pa_nil)))
      pss_nil)
      (pss_cons (ps_set (i := 6) sc_records_from.nd rfl (Or.inl rfl) (pe_op op_add (pe_op op_add (pv 5) (pe_op op_mul (pg_meth (pv 0) T.cl_Disk T.me_Disk_look (ok_Disk_look T Df) (hr.mono (by decide)) hg (bd_Disk_look_2_ Df) (takes_of rfl rfl rfl rfl) (pa_cons (pe_op op_add (pv 4) pe_int) pa_nil) pk_nil) (pe_globI T.g_OCTETS))) (pg_meth (pv 0) T.cl_Disk T.me_Disk_look (ok_Disk_look T Df) (hr.mono (by decide)) hg (bd_Disk_look_2_ Df) (takes_of rfl rfl rfl rfl) (pa_cons (pe_op op_add (pv 4) pe_int) pa_nil) pk_nil)))
      (pss_cons (ps_if (pt_cmpR op_gt (pv 6) (pv 2) (nomark _))
      (pss_one (ps_raiseX rfl T.x_Broken hr T.g_Broken (takes_of rfl rfl rfl rfl) (pa_cons pe_str pa_nil)))
      pss_nil)
      (pss_cons (ps_expr (pe_bm PySem.F.plainAttrs_list PySem.F.slot_list_append PySem.F.type_list_append mt_append (pv 3) (pa_cons (pe_callTy call_tuple_of (by rfl) T.n_tuple (by decide +kernel) (pa_cons (pe_lc (own := [("place", 7)]) rfl sc_records_from.nd (pi_range2 (by rfl) T.n_range (pa_cons (pv 5) (pa_cons (pv 6) pa_nil))) (blkOk_by (own := [("place", 7)]) (N := N_records_from) (sc := defScope s_records_from) (by decide +kernel)) (fun _ _ _ _ _ => (pg_name (i := 7) sc_records_from.nd rfl (Or.inl rfl))) (fun _ _ _ _ _ => pts_nil) (fun _ _ _ _ _ => (pg_meth (pv 0) T.cl_Disk T.me_Disk_look (ok_Disk_look T Df) (hr.mono (by decide)) hg (bd_Disk_look_2_ Df) takes0 (pa_cons (pv 7) pa_nil) pk_nil))) pa_nil)) pa_nil)))
      (pss_one (ps_set (i := 4) sc_records_from.nd rfl (Or.inl rfl) (pv 6)))))))))
      (pss_one (ps_ret (pe_tup (pa_cons (pv 3) (pa_cons (pv 4) pa_nil))))))), ?_⟩
  rintro ds M Ψ Χ ⟨xs, o, e, cs, start, stop, rfl, mo, hst, hcl, hco, hsl, hk⟩
  refine as_seq (as_par (aa_cons (ae_lstM (aa_nil ⟨by simp, fun f hf => ?_⟩))))
  repeat walk_at "st"
  refine ⟨_, _, rfl, ?_⟩
  have fo : o ≠ f := fun z => by rw [← z, mo] at hf; cases hf
  -- what is still to come at a place
  let G : List (List Int) → Nat → Prop := fun dn p => (∃ rs rs' en, rs = dn ++ rs' ∧ Par cs stop p rs' en ∧ ∀ f, M f = none → Ψ (.tup [.ref f, .int (en : Nat)]) (M.set f (.lst (rs.map recD)))) ∨ (Brk cs stop p ∧ Χ (.ref a.Broken) [("word", .str "journal")] M)
  have hG : G [] start := by
    rcases hk with ⟨rs, en, h1, h2⟩ | h
    · exact .inl ⟨rs, rs, en, rfl, h1, h2⟩
    · exact .inr h
  have leS : ∀ M' : Mem, (∀ b, b ≠ f → M' b = M b) → Le M M' := fun M' bt b m hb => by
    rw [bt b (Mem.ne_of hb hf)]
    exact hb
  refine as_seq (as_whileP (fun m Δ' M' => ∃ (p : Nat) (dn : List (List Int)) (u v w : Option D), m = 20000 - p ∧ p ≤ 20000 ∧ dn.length ≤ p ∧ Δ' = [some (.obj a.Disk (dskF xs o e)), some (.int start), some (.int stop), some (.ref f), some (.int (p : Nat)), u, v, w] ∧ M' f = some (.lst (dn.map recD)) ∧ (∀ b, b ≠ f → M' b = M b) ∧ G dn p)
    (fun Δ' M' => ∃ (p : Nat) (rs : List (List Int)) (u v w : Option D), Δ' = [some (.obj a.Disk (dskF xs o e)), some (.int start), some (.int stop), some (.ref f), some (.int (p : Nat)), u, v, w] ∧ M' f = some (.lst (rs.map recD)) ∧ (∀ b, b ≠ f → M' b = M b) ∧ Ψ (.tup [.ref f, .int (p : Nat)]) (M.set f (.lst (rs.map recD))))
    (20000 - start) ⟨start, [], none, none, none, rfl, hsl, Nat.zero_le _, rfl, Mem.set_same, fun b hb => Mem.set_ne hb, hG⟩ ?_ ?_)
  · rintro Δ' M' ⟨p, rs, u, v, w, rfl, mf, bt, k⟩
    have em : M' = M.set f (.lst (rs.map recD)) := by
      funext b
      by_cases hb : b = f
      · rw [hb, mf, Mem.set_same]
      · rw [Mem.set_ne hb, bt b hb]
    rw [← em] at k
    repeat walk_at "st"
    refine ae_tup ?_
    repeat walk_at "st"
    exact ⟨by simp, k⟩
  · rintro m Δ' M' ⟨p, dn, u, v, w, rfl, hp, hdl, rfl, mf, bt, hg⟩
    have mo' : M' o = some (.lst (cs.map D.int)) := (bt o fo).trans mo
    repeat walk_at "st"
    refine ite3 (fun h1 => ?_) (fun h1 => ?_)
    · have h1 : (p : Int) < (stop : Int) := of_decide_eq_true h1
      have hps : p < stop := by omega
      obtain ⟨m, hm⟩ : ∃ m, cs[p]? = some m := ⟨_, List.getElem?_eq_getElem (by omega)⟩
      repeat walk_at "st"
      refine ⟨rfl, ?_⟩
      repeat walk_at "st"
      refine ⟨rfl, rfl, _, o, e, cs, (p : Int), m, rfl, mo', by omega, by rw [Int.toNat_natCast]; exact hm, ?_⟩
      repeat walk_at "st"
      refine ite3 (fun h2 => ?_) (fun h2 => ?_)
      · have h2 : 0 < m := of_decide_eq_true h2
        repeat walk_at "st"
        refine ite3 (fun h3 => ?_) (fun h3 => ?_)
        · have h3 : (stop : Int) < (p : Int) + 3 := of_decide_eq_true h3
          refine as_raiseF ?_
          repeat walk_at "st"
          refine ⟨_, M, rfl, leS M' bt, ?_⟩
          rcases hg with ⟨rs, rs', en, _, hpar, _⟩ | ⟨_, hx⟩
          · cases hpar with
            | done h => exact absurd (h hps m hm) (by omega)
            | step a1 a2 a3 a4 => omega
          · exact hx
        · have h3 : ¬ (stop : Int) < (p : Int) + 3 := of_decide_eq_false h3
          obtain ⟨hi, hhi⟩ : ∃ v, cs[p + 1]? = some v := ⟨_, List.getElem?_eq_getElem (by omega)⟩
          obtain ⟨lo, hlo⟩ : ∃ v, cs[p + 2]? = some v := ⟨_, List.getElem?_eq_getElem (by omega)⟩
          have bhi := hco hi (List.mem_of_getElem? hhi)
          have blo := hco lo (List.mem_of_getElem? hlo)
          repeat walk_at "st"
          refine ⟨rfl, ?_⟩
          repeat walk_at "st"
          refine ⟨rfl, rfl, _, o, e, cs, (p : Int) + 1, hi, rfl, mo', by omega, by rw [show ((p : Int) + 1).toNat = p + 1 by omega]; exact hhi, ?_⟩
          repeat walk_at "st"
          refine ar_mul (.inr ⟨by decide, by decide⟩) ?_
          repeat walk_at "st"
          refine ⟨rfl, ?_⟩
          repeat walk_at "st"
          refine ⟨rfl, rfl, _, o, e, cs, (p : Int) + 2, lo, rfl, mo', by omega, by rw [show ((p : Int) + 2).toNat = p + 2 by omega]; exact hlo, ?_⟩
          repeat walk_at "st"
          refine ite3 (fun h4 => ?_) (fun h4 => ?_)
          · have h4 : (stop : Int) < (p : Int) + 3 + hi * 256 + lo := of_decide_eq_true h4
            refine as_raiseF ?_
            repeat walk_at "st"
            refine ⟨_, M, rfl, leS M' bt, ?_⟩
            rcases hg with ⟨rs, rs', en, _, hpar, _⟩ | ⟨_, hx⟩
            · cases hpar with
              | done h => exact absurd (h hps m hm) (by omega)
              | step a1 a2 a3 a4 a5 a6 a7 a8 a9 =>
                rw [hhi] at a5
                rw [hlo] at a6
                cases a5
                cases a6
                omega
            · exact hx
          · have h4 : ¬ (stop : Int) < (p : Int) + 3 + hi * 256 + lo := of_decide_eq_false h4
            obtain ⟨b, hb⟩ : ∃ b : Nat, (b : Int) = (p : Int) + 3 + hi * 256 + lo := ⟨((p : Int) + 3 + hi * 256 + lo).toNat, by omega⟩
            rw [← hb] at h4 ⊢
            have hbs : b ≤ stop := by omega
            have hpb : p + 3 ≤ b := by
              have : 0 ≤ hi * 256 := Int.mul_nonneg bhi.1 (by decide)
              omega
            repeat walk_at "st"
            refine ae_append ?_
            repeat walk_at "st"
            refine ⟨f, _, rfl, mf, ae_cb (aa_cons (ae_lcR (ai_rng2 ?_)))⟩
            repeat walk_at "st"
            refine ⟨_, _, rfl, by omega, by rw [rngD_length]; omega, fun y => .int ((cs[(iv y).toNat]?).getD 0), fun j y acc q hy hq => ?_, ?_⟩
            · obtain ⟨hj, rfl⟩ := rngD_get hy
              have hj2 : p + 3 + j < cs.length := by omega
              have oq : o ≠ q := fun z => by rw [← z, mo'] at hq; cases hq
              refine agc_name (by decide) ⟨rfl, ?_⟩
              repeat walk_at "st"
              refine ⟨rfl, ?_⟩
              repeat walk_at "st"
              have ej : ((p : Int) + 3 + (j : Int)).toNat = p + 3 + j := by omega
              refine ⟨rfl, rfl, _, o, e, cs, _, cs[p + 3 + j], rfl, (Mem.set_ne oq).trans mo', by omega, by rw [ej]; exact List.getElem?_eq_getElem hj2, ?_, rfl⟩
              show D.int _ = D.int ((cs[((p : Int) + 3 + (j : Int)).toNat]?).getD 0)
              rw [ej, List.getElem?_eq_getElem hj2]
              rfl
            · have e1 : ((b : Int) - ((p : Int) + 3)).toNat = b - (p + 3) := by omega
              have e2 : ((p : Int) + 3) = ((p + 3 : Nat) : Int) := by omega
              rw [e1, e2, slice_map (by omega)]
              repeat walk_at "st"
              refine arl_tupL ⟨_, mf, by rw [List.length_map]; omega, ?_⟩
              repeat walk_at "st"
              refine ⟨20000 - b, by omega, b, dn ++ [(cs.drop (p + 3)).take (b - (p + 3))], _, _, _, rfl, by omega, by rw [List.length_append]; simp; omega, rfl, by rw [Mem.set_same, List.map_append]; rfl, fun x hx => (Mem.set_ne hx).trans (bt x hx), ?_⟩
              rcases hg with ⟨rs, rs', en, hrs, hpar, hk⟩ | ⟨hbr, hx⟩
              · cases hpar with
                | done h => exact absurd (h hps m hm) (by omega)
                | @step _ b' _ rs2 m2 hi2 lo2 a1 a2 a3 a4 a5 a6 a7 a8 a9 =>
                  rw [hhi] at a5
                  rw [hlo] at a6
                  cases a5
                  cases a6
                  have eb : b' = b := by omega
                  subst eb
                  exact .inl ⟨rs, rs2, en, by rw [hrs, List.append_assoc]; rfl, a9, hk⟩
              · refine .inr ⟨?_, hx⟩
                cases hbr with
                | head a1 a2 a3 a4 => omega
                | over a1 a2 a3 a4 a5 a6 a7 =>
                  rw [hhi] at a5
                  rw [hlo] at a6
                  cases a5
                  cases a6
                  omega
                | @step _ b' m2 hi2 lo2 a1 a2 a3 a4 a5 a6 a7 a8 a9 =>
                  rw [hhi] at a5
                  rw [hlo] at a6
                  cases a5
                  cases a6
                  have eb : b' = b := by omega
                  subst eb
                  exact a9
      · have h2 : ¬ 0 < m := of_decide_eq_false h2
        rcases hg with ⟨rs, rs', en, hrs, hpar, hk⟩ | ⟨hbr, hx⟩
        · cases hpar with
          | done h =>
            rw [List.append_nil] at hrs
            subst hrs
            exact ⟨p, rs, u, v, w, rfl, mf, bt, hk f hf⟩
          | step a1 a2 a3 => rw [hm] at a2; cases a2; omega
        · cases hbr with
          | head a1 a2 a3 => rw [hm] at a2; cases a2; omega
          | over a1 a2 a3 => rw [hm] at a2; cases a2; omega
          | step a1 a2 a3 => rw [hm] at a2; cases a2; omega
    · have h1 : ¬ (p : Int) < (stop : Int) := of_decide_eq_false h1
      rcases hg with ⟨rs, rs', en, hrs, hpar, hk⟩ | ⟨hbr, hx⟩
      · cases hpar with
        | done h =>
          rw [List.append_nil] at hrs
          subst hrs
          exact ⟨p, rs, u, v, w, rfl, mf, bt, hk f hf⟩
        | step a1 a2 a3 => omega
      · cases hbr with
        | head a1 => omega
        | over a1 => omega
        | step a1 => omega
end
end K60
namespace K60
open PySem PySem.Spec PyProof.Rows L2 RZ T2
local macro_rules | `(tactic| walk_at "st") => `(tactic| first
  | with_reducible refine as_seq ?_ | with_reducible refine as_if ?_ | with_reducible refine as_ret ?_ | with_reducible refine as_set ?_ | with_reducible refine as_drop ?_ | with_reducible refine as_next ?_
  | with_reducible refine as_asg ?_ | with_reducible refine as_retN ?_ | with_reducible refine as_brk ?_ | with_reducible refine as_cont ?_
  | with_reducible refine at_test ?_ | with_reducible refine at_B ?_ | with_reducible refine at_and ?_ | with_reducible refine at_or ?_ | with_reducible refine at_not ?_ | with_reducible refine at_yes ?_
  | with_reducible refine ae_op ?_ | with_reducible refine ae_un ?_ | with_reducible refine ae_cb ?_ | with_reducible refine aa_cons ?_ | with_reducible refine aa_nil ?_ | with_reducible refine ae_if ?_
  | with_reducible refine ae_andV ?_ | with_reducible refine ae_orV ?_ | with_reducible refine ae_notV ?_ | with_reducible refine ae_chain ?_
  | with_reducible refine ae_int ?_ | with_reducible refine ae_str ?_ | with_reducible refine ae_bl ?_ | with_reducible refine ae_non ?_ | with_reducible refine ae_ty ?_ | with_reducible refine ae_ref ?_
  | refine ae_varX rfl ?_ | refine ae_var rfl ?_
  | with_reducible refine ar_add ?_ | with_reducible refine ar_sub ?_ | with_reducible refine ar_lt ?_ | with_reducible refine ar_le ?_ | with_reducible refine ar_gt ?_ | with_reducible refine ar_ge ?_
  | with_reducible refine ar_eqI ?_ | with_reducible refine ar_neI ?_
  | with_reducible refine ⟨_, rfl, ?_⟩
  | refine ae_callG ?_ | refine ae_methG ?_)
section
variable {P : Program} {w : World} {K : PySem.W.Frag} {mg : Str → Option Value} {base : Heap} {a : Ad} {fd : Fds}
def updE (cs : List Int) (es : List Ev) : List Int := es.foldl (fun acc e => match e with
  | none => acc
  | some (x, o) => acc.set x.toNat o) cs
theorem updE_snoc (cs : List Int) (es : List Ev) (e : Ev) : updE cs (es ++ [e]) = match e with
  | none => updE cs es
  | some (x, o) => (updE cs es).set x.toNat o := by
  unfold updE
  rw [List.foldl_append]
  rfl
theorem updE_len (cs : List Int) (es : List Ev) : (updE cs es).length = cs.length := by
  unfold updE
  induction es generalizing cs with
  | nil => rfl
  | cons e es ih =>
    rw [List.foldl_cons, ih]
    cases e with
    | none => rfl
    | some e => obtain ⟨x, o⟩ := e; exact List.length_set
theorem updE_app (cs : List Int) (a b : List Ev) : updE cs (a ++ b) = updE (updE cs a) b := by
  unfold updE
  rw [List.foldl_append]
/-! ### what is put -/
structure DS (o e : Addr) (cs : List Int) (evs : List Ev) (M : Mem) : Prop where
  mo : M o = some (.lst (cs.map T2.D.int))
  me : M e = some (.lst (evs.map evD))
  oe : o ≠ e
def ButOE (o e : Addr) (M M' : Mem) : Prop := ∀ b, b ≠ o → b ≠ e → M' b = M b
theorem ButOE.trans {o e : Addr} {M M1 M2 : Mem} (a : ButOE o e M M1) (b : ButOE o e M1 M2) : ButOE o e M M2 := fun x y z => Eq.trans (b x y z) (a x y z)
theorem DS.put {o e : Addr} {cs : List Int} {evs : List Ev} {M : Mem} (S : DS o e cs evs M) (x v : Int) :
    DS o e (cs.set x.toNat v) (evs ++ [some (x, v)]) ((M.set o (.lst ((cs.set x.toNat v).map T2.D.int))).set e (.lst ((evs ++ [some (x, v)]).map evD))) :=
  ⟨(Mem.set_ne S.oe).trans Mem.set_same, Mem.set_same, S.oe⟩
theorem ButOE.put {o e : Addr} {M : Mem} {a b : MO} : ButOE o e M ((M.set o a).set e b) := fun x y z => (Mem.set_ne z).trans (Mem.set_ne y)
/-- a record's octets from q on -/
def datEv : Nat → List Int → List Ev
  | _, [] => []
  | q, x :: xs => some ((q : Int), x) :: datEv (q + 1) xs
theorem datEv_len : ∀ (q : Nat) (r : List Int), (datEv q r).length = r.length
  | _, [] => rfl
  | q, x :: xs => by simp [datEv, datEv_len (q + 1) xs]
theorem datEv_snoc : ∀ (q : Nat) (r : List Int) (x : Int), datEv q (r ++ [x]) = datEv q r ++ [some (((q + r.length : Nat) : Int), x)]
  | q, [], x => rfl
  | q, y :: r, x => by
    show some ((q : Int), y) :: datEv (q + 1) (r ++ [x]) = some ((q : Int), y) :: (datEv (q + 1) r ++ [some (((q + (r.length + 1) : Nat) : Int), x)])
    rw [datEv_snoc (q + 1) r x, show q + 1 + r.length = q + (r.length + 1) by omega]
def recEv (q : Nat) (r : List Int) : List Ev := [some (((q + 1 : Nat) : Int), (r.length : Int) / 256), some (((q + 2 : Nat) : Int), (r.length : Int) % 256)] ++ datEv (q + 3) r
def endEv (q stop : Nat) : List Ev := if q < stop then [some ((q : Int), 0)] else []
def needs (rs : List (List Int)) : Nat := (rs.map fun r => 3 + r.length).sum
def dlen : D → Nat
  | .tup xs => xs.length
  | _ => 0
theorem needs_int (rs : List (List Int)) : ((rs.map fun r => (3 : Int) + (r.length : Int))).sum = (needs rs : Int) := by
  unfold needs
  induction rs with
  | nil => rfl
  | cons r rs ih => simp only [List.map_cons, List.sum_cons, ih]; omega
abbrev a_needed : ASp := fun ds M Ψ Χ => ∃ (rs : List (List Int)), ds = [.tup (rs.map recD)] ∧ rs.length ≤ 100000 ∧ Ψ (.int (needs rs)) M
theorem ok_needed_cells (T : Txt P K mg a) (Df : Defs K a fd) : FnG P w K mg base 1 a.needed_cells fd.needed_cells ps_needed_cells (lift K a_needed) := by
  refine okG Df.needed_cells sc_needed_cells (fun ds M Ψ Χ ⟨_, h, _⟩ => by subst h; rfl) fun cdv A outer s H E hr hg => ?_
  refine ⟨_, (pss_one (ps_ret (pe_callB (cr_sum rfl) (by rfl) T.n_sum (by decide +kernel) (pa_cons (pe_lc (own := [("record", 1)]) rfl sc_needed_cells.nd (pi_tup (pv 0)) (blkOk_by (own := [("record", 1)]) (N := N_needed_cells) (sc := defScope s_needed_cells) (by decide +kernel)) (fun _ _ _ _ _ => (pg_name (i := 1) sc_needed_cells.nd rfl (Or.inl rfl))) (fun _ _ _ _ _ => pts_nil) (fun _ _ _ _ _ => (pe_op op_add (pe_globI T.g_HEAD) (pe_callB (r := cLen K) call_len (by rfl) T.n_len (by decide +kernel) (pa_cons (pv 1) pa_nil))))) pa_nil)))), ?_⟩
  rintro ds M Ψ Χ ⟨rs, rfl, hl, k⟩
  repeat walk_at "st"
  refine ae_lcP (ai_tup ?_)
  repeat walk_at "st"
  refine ⟨by rw [List.length_map]; exact hl, fun _ => true, fun d => .int (3 + (dlen d : Int)), fun d M' hd => ?_, ?_⟩
  · obtain ⟨r, _, rfl⟩ := List.mem_map.mp hd
    refine agc_name (by decide) ⟨rfl, ?_⟩
    repeat walk_at "st"
    refine ⟨rfl, rfl, fun _ => ?_⟩
    repeat walk_at "st"
    refine arl_lenT ?_
    repeat walk_at "st"
    exact ⟨rfl, rfl⟩
  · rw [filter_true, List.map_map]
    have e : (rs.map ((fun d => T2.D.int (3 + (dlen d : Int))) ∘ recD)) = (rs.map fun r => (3 : Int) + (r.length : Int)).map T2.D.int := by
      rw [List.map_map]
      refine List.map_congr_left fun r _ => ?_
      show T2.D.int (3 + ((r.map T2.D.int).length : Int)) = _
      rw [List.length_map]
      rfl
    rw [e]
    repeat walk_at "st"
    refine arl_sum ?_
    rw [needs_int]
    exact k
abbrev a_putrec (a : Ad) : ASp := fun ds M Ψ Χ => ∃ (xs : List D) (o e : Addr) (cs r : List Int) (evs : List Ev) (q : Nat), ds = [.obj a.Disk (dskF xs o e), .int (q : Nat), recD r] ∧ DS o e cs evs M ∧ q + 3 + r.length ≤ cs.length ∧ cs.length ≤ 20000 ∧ evs.length + r.length + 2 < 90000 ∧
  ∀ M', DS o e (updE cs (recEv q r)) (evs ++ recEv q r) M' → ButOE o e M M' → Ψ (.int ((q + 3 + r.length : Nat) : Int)) M'
theorem ok_put_record (T : Txt P K mg a) (Df : Defs K a fd) : FnG P w K mg base 2 a.put_record fd.put_record ps_put_record (lift K (a_putrec a)) := by
  refine okG Df.put_record sc_put_record (fun ds M Ψ Χ ⟨_, _, _, _, _, _, _, h, _⟩ => by subst h; rfl) fun cdv A outer s H E hr hg => ?_
  refine ⟨_, (pss_cons (ps_expr (pg_meth (pv 0) T.cl_Disk T.me_Disk_put (ok_Disk_put T Df) (hr.mono (by decide)) hg (bd_Disk_put_3_ Df) (takes_of rfl rfl rfl rfl) (pa_cons (pe_op op_add (pv 1) pe_int) (pa_cons (pe_op op_fdiv (pe_callB call_len (by rfl) T.n_len (by decide +kernel) (pa_cons (pv 2) pa_nil)) (pe_globI T.g_OCTETS)) pa_nil)) pk_nil))
      (pss_cons (ps_expr (pg_meth (pv 0) T.cl_Disk T.me_Disk_put (ok_Disk_put T Df) (hr.mono (by decide)) hg (bd_Disk_put_3_ Df) (takes_of rfl rfl rfl rfl) (pa_cons (pe_op op_add (pv 1) pe_int) (pa_cons (pe_op op_mod (pe_callB call_len (by rfl) T.n_len (by decide +kernel) (pa_cons (pv 2) pa_nil)) (pe_globI T.g_OCTETS)) pa_nil)) pk_nil))
      (pss_cons (ps_for (passes_of rfl) rfl (pi_enumT (by rfl) T.n_enumerate (pa_cons (pv 2) pa_nil)) (pg_tup rfl (pgs_cons (pg_name (i := 3) sc_put_record.nd rfl (Or.inl rfl)) (pgs_cons (pg_name (i := 4) sc_put_record.nd rfl (Or.inl rfl)) pgs_nil)))
      (pss_one (ps_expr (pg_meth (pv 0) T.cl_Disk T.me_Disk_put (ok_Disk_put T Df) (hr.mono (by decide)) hg (bd_Disk_put_3_ Df) (takes_of rfl rfl rfl rfl) (pa_cons (pe_op op_add (pe_op op_add (pv 1) (pe_globI T.g_HEAD)) (pv 3)) (pa_cons (pv 4) pa_nil)) pk_nil))))
      (pss_one (ps_ret (pe_op op_add (pe_op op_add (pv 1) (pe_globI T.g_HEAD)) (pe_callB call_len (by rfl) T.n_len (by decide +kernel) (pa_cons (pv 2) pa_nil)))))))), ?_⟩
  rintro ds M Ψ Χ ⟨xs, o, e, cs, r, evs, q, rfl, S, hq, hcl, hev, k⟩
  repeat walk_at "st"
  refine ⟨rfl, ?_⟩
  repeat walk_at "st"
  refine arl_lenT ?_
  rw [List.length_map]
  repeat walk_at "st"
  refine ar_fdiv ⟨by decide, by decide⟩ ?_
  repeat walk_at "st"
  refine ⟨rfl, rfl, _, o, e, cs, evs, (q : Int) + 1, (r.length : Int) / 256, rfl, S.mo, S.me, S.oe, by omega, by omega, by omega, ?_⟩
  have S1 := S.put ((q : Int) + 1) ((r.length : Int) / 256)
  have b1 : ButOE o e M ((M.set o (.lst ((cs.set ((q : Int) + 1).toNat ((r.length : Int) / 256)).map T2.D.int))).set e (.lst ((evs ++ [some ((q : Int) + 1, (r.length : Int) / 256)]).map evD))) := ButOE.put
  generalize (M.set o (.lst ((cs.set ((q : Int) + 1).toNat ((r.length : Int) / 256)).map T2.D.int))).set e (.lst ((evs ++ [some ((q : Int) + 1, (r.length : Int) / 256)]).map evD)) = M1 at S1 b1
  repeat walk_at "st"
  refine ⟨rfl, ?_⟩
  repeat walk_at "st"
  refine arl_lenT ?_
  rw [List.length_map]
  repeat walk_at "st"
  refine ar_mod (by decide) ?_
  repeat walk_at "st"
  refine ⟨rfl, rfl, _, o, e, _, _, (q : Int) + 2, (r.length : Int) % 256, rfl, S1.mo, S1.me, S.oe, by omega, by rw [List.length_set]; omega, by simp; omega, ?_⟩
  have S2 := S1.put ((q : Int) + 2) ((r.length : Int) % 256)
  generalize hM2 : (M1.set o (.lst ((List.set (cs.set ((q : Int) + 1).toNat ((r.length : Int) / 256)) ((q : Int) + 2).toNat ((r.length : Int) % 256)).map T2.D.int))).set e (.lst ((evs ++ [some ((q : Int) + 1, (r.length : Int) / 256)] ++ [some ((q : Int) + 2, (r.length : Int) % 256)]).map evD)) = M2 at S2
  have b2 : ButOE o e M M2 := b1.trans (by rw [← hM2]; exact ButOE.put)
  clear hM2
  have e1 : ((q : Int) + 1) = ((q + 1 : Nat) : Int) := by omega
  have e2 : ((q : Int) + 2) = ((q + 2 : Nat) : Int) := by omega
  rw [e1, e2] at S2
  obtain ⟨hd, hhd⟩ : ∃ hd : List Ev, hd = [some (((q + 1 : Nat) : Int), (r.length : Int) / 256), some (((q + 2 : Nat) : Int), (r.length : Int) % 256)] := ⟨_, rfl⟩
  have S3 : DS o e (updE cs (hd ++ datEv (q + 3) (r.take 0))) (evs ++ (hd ++ datEv (q + 3) (r.take 0))) M2 := by
    rw [List.append_assoc] at S2
    rw [hhd]
    exact S2
  have hrec : recEv q r = hd ++ datEv (q + 3) r := by rw [hhd]; rfl
  have hhl : hd.length = 2 := by rw [hhd]; rfl
  clear S1 S2 b1 M1 hhd
  refine as_seq (as_for (ai_enumT ?_))
  repeat walk_at "st"
  refine ⟨fun i Δ' M' => i ≤ r.length ∧ (∃ (u v : Option D), Δ' = [some (.obj a.Disk (dskF xs o e)), some (.int (q : Nat)), some (recD r), u, v]) ∧ DS o e (updE cs (hd ++ datEv (q + 3) (r.take i))) (evs ++ (hd ++ datEv (q + 3) (r.take i))) M' ∧ ButOE o e M M', ⟨Nat.zero_le _, ⟨_, _, rfl⟩, S3, b2⟩, ?_, ?_⟩
  · rintro i d Δ' M' hx ⟨hi, ⟨u, v, rfl⟩, S', b'⟩
    rw [enumD_get, List.getElem?_map] at hx
    obtain ⟨y, hy, hd2⟩ := Option.map_eq_some_iff.mp hx
    obtain ⟨x, hxr, rfl⟩ := Option.map_eq_some_iff.mp hy
    subst hd2
    have hi2 : i < r.length := (List.getElem?_eq_some_iff.mp hxr).1
    refine ag_of [3, 4] (agc_tup rfl (agcs_cons (agc_name (by decide) (agcs_cons (agc_name (by decide) (agcs_nil ?_))))))
    repeat walk_at "st"
    refine ⟨rfl, ?_⟩
    repeat walk_at "st"
    have ei : (q : Int) + 3 + ((0 + i : Nat) : Int) = ((q + 3 + i : Nat) : Int) := by omega
    rw [ei]
    have htl : (r.take i).length = i := by rw [List.length_take]; omega
    refine ⟨rfl, rfl, _, o, e, _, _, _, x, rfl, S'.mo, S'.me, S.oe, by omega, by rw [updE_len]; omega, by rw [List.length_append, List.length_append, hhl, datEv_len, htl]; omega, ?_⟩
    have S4 := S'.put ((q + 3 + i : Nat) : Int) x
    refine ⟨hi2, ⟨_, _, rfl⟩, ?_, b'.trans ButOE.put⟩
    have ed : datEv (q + 3) (r.take (i + 1)) = datEv (q + 3) (r.take i) ++ [some (((q + 3 + i : Nat) : Int), x)] := by
      rw [take_snoc hxr, datEv_snoc, htl]
    rw [ed, ← List.append_assoc hd, updE_snoc, ← List.append_assoc evs]
    exact S4
  · rintro Δ' M' ⟨hi, ⟨u, v, rfl⟩, S', b'⟩
    rw [enumD_length, List.length_map, List.take_length, ← hrec] at S'
    repeat walk_at "st"
    refine arl_lenT ?_
    rw [List.length_map]
    repeat walk_at "st"
    have e3 : (q : Int) + 3 + (r.length : Int) = ((q + 3 + r.length : Nat) : Int) := by omega
    rw [e3]
    exact k M' S' b'
abbrev a_putend (a : Ad) : ASp := fun ds M Ψ Χ => ∃ (xs : List D) (o e : Addr) (cs : List Int) (evs : List Ev) (q stop : Nat), ds = [.obj a.Disk (dskF xs o e), .int (q : Nat), .int (stop : Nat)] ∧ DS o e cs evs M ∧ stop ≤ cs.length ∧ evs.length < 80000 ∧
  ∀ M', DS o e (updE cs (endEv q stop)) (evs ++ endEv q stop) M' → ButOE o e M M' → Ψ .non M'
theorem ok_put_end (T : Txt P K mg a) (Df : Defs K a fd) : FnG P w K mg base 2 a.put_end fd.put_end ps_put_end (lift K (a_putend a)) := by
  refine okG Df.put_end sc_put_end (fun ds M Ψ Χ ⟨_, _, _, _, _, _, _, h, _⟩ => by subst h; rfl) fun cdv A outer s H E hr hg => ?_
  refine ⟨_, (pss_one (ps_if (pt_cmpR op_lt (pv 1) (pv 2) (nomark _))
      (pss_one (ps_expr (pg_meth (pv 0) T.cl_Disk T.me_Disk_put (ok_Disk_put T Df) (hr.mono (by decide)) hg (bd_Disk_put_3_ Df) (takes_of rfl rfl rfl rfl) (pa_cons (pv 1) (pa_cons pe_int pa_nil)) pk_nil)))
      pss_nil)), ?_⟩
  rintro ds M Ψ Χ ⟨xs, o, e, cs, evs, q, stop, rfl, S, hst, hev, k⟩
  repeat walk_at "st"
  refine ite3 (fun h1 => ?_) (fun h1 => as_next ?_)
  · have h1 : (q : Int) < (stop : Int) := of_decide_eq_true h1
    have he : endEv q stop = [some ((q : Int), 0)] := by unfold endEv; rw [if_pos (by omega)]
    rw [he] at k
    repeat walk_at "st"
    refine ⟨rfl, ?_⟩
    repeat walk_at "st"
    exact ⟨rfl, rfl, _, o, e, cs, evs, (q : Int), 0, rfl, S.mo, S.me, S.oe, by omega, by omega, by omega, k _ (S.put (q : Int) 0) ButOE.put⟩
  · have h1 : ¬ (q : Int) < (stop : Int) := of_decide_eq_false h1
    have he : endEv q stop = [] := by unfold endEv; rw [if_neg (by omega)]
    rw [he, List.append_nil] at k
    exact k M S fun _ _ _ => rfl
end
end K60
namespace K60
open PySem PySem.Spec PyProof.Rows L2 RZ T2
local macro_rules | `(tactic| walk_at "st") => `(tactic| first
  | with_reducible refine as_seq ?_ | with_reducible refine as_if ?_ | with_reducible refine as_ret ?_ | with_reducible refine as_set ?_ | with_reducible refine as_drop ?_ | with_reducible refine as_next ?_
  | with_reducible refine as_asg ?_ | with_reducible refine as_retN ?_ | with_reducible refine as_brk ?_ | with_reducible refine as_cont ?_
  | with_reducible refine at_test ?_ | with_reducible refine at_B ?_ | with_reducible refine at_and ?_ | with_reducible refine at_or ?_ | with_reducible refine at_not ?_ | with_reducible refine at_yes ?_
  | with_reducible refine ae_op ?_ | with_reducible refine ae_un ?_ | with_reducible refine ae_cb ?_ | with_reducible refine aa_cons ?_ | with_reducible refine aa_nil ?_ | with_reducible refine ae_if ?_
  | with_reducible refine ae_andV ?_ | with_reducible refine ae_orV ?_ | with_reducible refine ae_notV ?_ | with_reducible refine ae_chain ?_
  | with_reducible refine ae_int ?_ | with_reducible refine ae_str ?_ | with_reducible refine ae_bl ?_ | with_reducible refine ae_non ?_ | with_reducible refine ae_ty ?_ | with_reducible refine ae_ref ?_
  | refine ae_varX rfl ?_ | refine ae_var rfl ?_
  | with_reducible refine ar_add ?_ | with_reducible refine ar_sub ?_ | with_reducible refine ar_lt ?_ | with_reducible refine ar_le ?_ | with_reducible refine ar_gt ?_ | with_reducible refine ar_ge ?_
  | with_reducible refine ar_eqI ?_ | with_reducible refine ar_neI ?_
  | with_reducible refine ⟨_, rfl, ?_⟩
  | refine ae_callG ?_ | refine ae_methG ?_)
section
variable {P : Program} {w : World} {K : PySem.W.Frag} {mg : Str → Option Value} {base : Heap} {a : Ad} {fd : Fds}
/-! ### Journal -/
theorem hstart_le {n s : Nat} (h : 1 ≤ n) (hs : s ≤ 2) : hstart n s ≤ n := by
  unfold hstart half
  have : s * ((n - 1) / 2) ≤ 2 * ((n - 1) / 2) := Nat.mul_le_mul_right _ hs
  omega
theorem hstart_pos {n s : Nat} : 1 ≤ hstart n s := by unfold hstart; omega
def jF (k : D) (s : Nat) (rl : Addr) (en : Nat) : List (Str × D) := [("disk", k), ("_side", .int (s : Nat)), ("_records", .ref rl), ("_end", .int (en : Nat))]
def dskO (a : Ad) (xs : List D) (o e : Addr) : D := .obj a.Disk (dskF xs o e)
def sideOf (cs : List Int) : Nat := (((cs[0]?).getD 0) % 2).toNat
abbrev a_jinit (a : Ad) : ASp := fun ds M Ψ Χ => ∃ (p o e : Addr) (xs : List D) (cs : List Int), ds = [.ref p, dskO a xs o e] ∧ M p = some (.ins a.Journal []) ∧ M o = some (.lst (cs.map D.int)) ∧ xs.length = cs.length ∧ 1 ≤ cs.length ∧ cs.length ≤ 20000 ∧ Oct cs ∧
  ((∃ rs en, Par cs (hstart cs.length (sideOf cs + 1)) (hstart cs.length (sideOf cs)) rs en ∧
      ∀ rl M', M rl = none → M' p = some (.ins a.Journal (jF (dskO a xs o e) (sideOf cs) rl en)) → M' rl = some (.lst (rs.map recD)) → (∀ b, b ≠ p → b ≠ rl → M' b = M b) → Ψ .non M') ∨
    (Brk cs (hstart cs.length (sideOf cs + 1)) (hstart cs.length (sideOf cs)) ∧ ∀ M', (∀ b, b ≠ p → M' b = M b) → Χ (.ref a.Broken) [("word", .str "journal")] M'))
theorem ok_Journal___init__ (T : Txt P K mg a) (Df : Defs K a fd) : FnG P w K mg base 3 a.Journal___init__ fd.Journal___init__ ps_Journal___init__ (lift K (a_jinit a)) := by
  refine okG Df.Journal___init__ sc_Journal___init__ (fun ds M Ψ Χ ⟨_, _, _, _, _, h, _⟩ => by subst h; rfl) fun cdv A outer s H E hr hg => ?_
  refine ⟨_, (pss_cons (ps_fld (pv 0) (pv 1) rfl)
      (pss_cons (ps_fld (pv 0) (pe_op op_mod (pg_meth (pv 1) T.cl_Disk T.me_Disk_look (ok_Disk_look T Df) (hr.mono (by decide)) hg (bd_Disk_look_2_ Df) (takes_of rfl rfl rfl rfl) (pa_cons pe_int pa_nil) pk_nil) pe_int) rfl)
      (pss_one (ps_asg (pg_call (ok_records_from T Df) (hr.mono (by decide)) hg (by rfl) T.g_records_from T.k_records_from (bd_records_from_3_ Df) (takes_of rfl rfl rfl rfl) (pa_cons (pv 1) (pa_cons (pg_call (ok_half_start T Df) (hr.mono (by decide)) hg (by rfl) T.g_half_start T.k_half_start (bd_half_start_2_ Df) (takes_of rfl rfl rfl rfl) (pa_cons (pv 1) (pa_cons (pe_fld (pv 0) rfl) pa_nil)) pk_nil) (pa_cons (pg_call (ok_half_start T Df) (hr.mono (by decide)) hg (by rfl) T.g_half_start T.k_half_start (bd_half_start_2_ Df) (takes_of rfl rfl rfl rfl) (pa_cons (pv 1) (pa_cons (pe_op op_add (pe_fld (pv 0) rfl) pe_int) pa_nil)) pk_nil) pa_nil))) pk_nil) (pg_tup rfl (pgs_cons (pg_fld (pv 0)) (pgs_cons (pg_fld (pv 0)) pgs_nil))))))), ?_⟩
  rintro ds M Ψ Χ ⟨p, o, e, xs, cs, rfl, mp, mo, hxl, h1, h2, hco, hk⟩
  have po : o ≠ p := fun z => by rw [z, mp] at mo; cases mo
  obtain ⟨c0, hc0⟩ : ∃ c0, cs[0]? = some c0 := ⟨_, List.getElem?_eq_getElem (by omega)⟩
  have hside : sideOf cs = (c0 % 2).toNat := by unfold sideOf; rw [hc0]; rfl
  have hsi : (c0 % 2 : Int) = ((sideOf cs : Nat) : Int) := by rw [hside]; omega
  have hs1 : sideOf cs ≤ 1 := by rw [hside]; omega
  refine as_seq (as_fld T.cl_Journal T.nf_Journal_disk ?_)
  repeat walk_at "st"
  refine ⟨p, _, rfl, mp, by decide, ?_⟩
  refine as_seq (as_fld T.cl_Journal T.nf_Journal__side ?_)
  repeat walk_at "st"
  refine ⟨rfl, ?_⟩
  repeat walk_at "st"
  refine ⟨rfl, rfl, xs, o, e, cs, 0, c0, rfl, (Mem.set_ne po).trans mo, by decide, hc0, ?_⟩
  repeat walk_at "st"
  refine ar_mod (by decide) ?_
  rw [hsi]
  repeat walk_at "st"
  refine ⟨p, _, rfl, Mem.set_same, by show 1 < 1000; decide, ?_⟩
  generalize hM2 : (M.set p (.ins a.Journal (putD "disk" (dskO a xs o e) []))).set p (.ins a.Journal (putD "_side" (.int ((sideOf cs : Nat) : Int)) (putD "disk" (dskO a xs o e) []))) = M2
  have mp2 : M2 p = some (.ins a.Journal [("disk", dskO a xs o e), ("_side", .int ((sideOf cs : Nat) : Int))]) := by rw [← hM2, Mem.set_same]; rfl
  have b2 : ∀ b, b ≠ p → M2 b = M b := fun b hb => by rw [← hM2, Mem.set_ne hb, Mem.set_ne hb]
  clear hM2
  refine as_asgX ?_
  repeat walk_at "st"
  refine ae_fldM T.cl_Journal T.nf_Journal__side ?_
  repeat walk_at "st"
  refine ⟨p, _, _, rfl, mp2, rfl, ?_⟩
  repeat walk_at "st"
  refine ⟨rfl, rfl, xs, o, e, _, rfl, by omega, by omega, by omega, by omega, ?_⟩
  repeat walk_at "st"
  refine ae_fldM T.cl_Journal T.nf_Journal__side ?_
  repeat walk_at "st"
  refine ⟨p, _, _, rfl, mp2, rfl, ?_⟩
  repeat walk_at "st"
  refine ⟨rfl, rfl, xs, o, e, _, rfl, by omega, by omega, by omega, by omega, ?_⟩
  have es : ((((sideOf cs : Nat) : Int) + 1).toNat) = sideOf cs + 1 := by omega
  rw [es, Int.toNat_natCast, hxl]
  repeat walk_at "st"
  refine ⟨rfl, rfl, xs, o, e, cs, hstart cs.length (sideOf cs), hstart cs.length (sideOf cs + 1), rfl, (b2 o po).trans mo, hstart_le h1 (by omega), h2, hco, Nat.le_trans (hstart_le h1 (by omega)) h2, ?_⟩
  rcases hk with ⟨rs, en, hpar, hk⟩ | ⟨hbr, hk⟩
  · refine .inl ⟨rs, en, hpar, fun f hf => ?_⟩
    have pf : p ≠ f := fun z => by rw [← z, mp2] at hf; cases hf
    have hf0 : M f = none := by rw [← b2 f (Ne.symm pf)]; exact hf
    refine agx_tup rfl (ags_cons (ag_fld T.cl_Journal T.nf_Journal__records ?_))
    repeat walk_at "st"
    refine ⟨p, _, rfl, (Mem.set_ne pf).trans mp2, by show 2 < 1000; decide, ?_⟩
    refine ags_cons (ag_fld T.cl_Journal T.nf_Journal__end ?_)
    repeat walk_at "st"
    refine ⟨p, _, rfl, Mem.set_same, by show 3 < 1000; decide, ags_nil ?_⟩
    refine hk f _ hf0 (by rw [Mem.set_same]; rfl) ?_ fun b hb hb2 => ?_
    · rw [Mem.set_ne (Ne.symm pf), Mem.set_ne (Ne.symm pf), Mem.set_same]
    · rw [Mem.set_ne hb, Mem.set_ne hb, Mem.set_ne hb2, b2 b hb]
  · exact .inr ⟨hbr, hk M2 b2⟩
abbrev a_jrecords (a : Ad) : ASp := fun ds M Ψ Χ => ∃ (p rl : Addr) (k : D) (s en : Nat) (rs : List (List Int)), ds = [.ref p] ∧ M p = some (.ins a.Journal (jF k s rl en)) ∧ M rl = some (.lst (rs.map recD)) ∧ Ψ (.tup (rs.map recD)) M
theorem ok_Journal_records (T : Txt P K mg a) (Df : Defs K a fd) : FnG P w K mg base 1 a.Journal_records fd.Journal_records ps_Journal_records (lift K (a_jrecords a)) := by
  refine okG Df.Journal_records sc_Journal_records (fun ds M Ψ Χ ⟨_, _, _, _, _, _, h, _⟩ => by subst h; rfl) fun cdv A outer s H E hr hg => ?_
  refine ⟨_, (pss_one (ps_ret (pe_callTy call_tuple_of (by rfl) T.n_tuple (by decide +kernel) (pa_cons (pe_fld (pv 0) rfl) pa_nil)))), ?_⟩
  rintro ds M Ψ Χ ⟨p, rl, k, s, en, rs, rfl, mp, mr, hk⟩
  repeat walk_at "st"
  refine ae_fldM T.cl_Journal T.nf_Journal__records ?_
  repeat walk_at "st"
  refine ⟨p, _, _, rfl, mp, rfl, ?_⟩
  repeat walk_at "st"
  exact arl_tupM mr hk
end
end K60
namespace K60
open PySem PySem.Spec PyProof.Rows L2 RZ T2
local macro_rules | `(tactic| walk_at "st") => `(tactic| first
  | with_reducible refine as_seq ?_ | with_reducible refine as_if ?_ | with_reducible refine as_ret ?_ | with_reducible refine as_set ?_ | with_reducible refine as_drop ?_ | with_reducible refine as_next ?_
  | with_reducible refine as_asg ?_ | with_reducible refine as_retN ?_ | with_reducible refine as_brk ?_ | with_reducible refine as_cont ?_
  | with_reducible refine at_test ?_ | with_reducible refine at_B ?_ | with_reducible refine at_and ?_ | with_reducible refine at_or ?_ | with_reducible refine at_not ?_ | with_reducible refine at_yes ?_
  | with_reducible refine ae_op ?_ | with_reducible refine ae_un ?_ | with_reducible refine ae_cb ?_ | with_reducible refine aa_cons ?_ | with_reducible refine aa_nil ?_ | with_reducible refine ae_if ?_
  | with_reducible refine ae_andV ?_ | with_reducible refine ae_orV ?_ | with_reducible refine ae_notV ?_ | with_reducible refine ae_chain ?_
  | with_reducible refine ae_int ?_ | with_reducible refine ae_str ?_ | with_reducible refine ae_bl ?_ | with_reducible refine ae_non ?_ | with_reducible refine ae_ty ?_ | with_reducible refine ae_ref ?_
  | refine ae_varX rfl ?_ | refine ae_var rfl ?_
  | with_reducible refine ar_add ?_ | with_reducible refine ar_sub ?_ | with_reducible refine ar_lt ?_ | with_reducible refine ar_le ?_ | with_reducible refine ar_gt ?_ | with_reducible refine ar_ge ?_
  | with_reducible refine ar_eqI ?_ | with_reducible refine ar_neI ?_
  | with_reducible refine ⟨_, rfl, ?_⟩
  | refine ae_callG ?_ | refine ae_methG ?_)
section
variable {P : Program} {w : World} {K : PySem.W.Frag} {mg : Str → Option Value} {base : Heap} {a : Ad} {fd : Fds}
/-- what a write puts -/
def wrEv (en stop : Nat) (r : List Int) : List Ev := recEv en r ++ endEv (en + 3 + r.length) stop ++ [none, some ((en : Int), 1), none]
abbrev a_write (a : Ad) : ASp := fun ds M Ψ Χ => ∃ (p o e rl : Addr) (xs : List D) (cs r : List Int) (evs : List Ev) (rs : List (List Int)) (s en : Nat), ds = [.ref p, recD r] ∧ M p = some (.ins a.Journal (jF (dskO a xs o e) s rl en)) ∧ DS o e cs evs M ∧ M rl = some (.lst (rs.map recD)) ∧ rl ≠ o ∧ rl ≠ e ∧
  xs.length = cs.length ∧ 1 ≤ cs.length ∧ cs.length ≤ 20000 ∧ s ≤ 1 ∧ en ≤ 20000 ∧ r.length ≤ 20000 ∧ rs.length < 90000 ∧ evs.length < 30000 ∧
  ((hstart cs.length (s + 1) < en + 3 + r.length ∧ Χ (.ref a.Refused) [("word", .str "room")] M) ∨ (en + 3 + r.length ≤ hstart cs.length (s + 1) ∧
    ∀ M', M' p = some (.ins a.Journal (jF (dskO a xs o e) s rl (en + 3 + r.length))) → DS o e (updE cs (wrEv en (hstart cs.length (s + 1)) r)) (evs ++ wrEv en (hstart cs.length (s + 1)) r) M' → M' rl = some (.lst ((rs ++ [r]).map recD)) →
      (∀ b, b ≠ p → b ≠ o → b ≠ e → b ≠ rl → M' b = M b) → Ψ .non M'))
theorem DS.flush {o e : Addr} {cs : List Int} {evs : List Ev} {M : Mem} (S : DS o e cs evs M) : DS o e cs (evs ++ [none]) (M.set e (.lst ((evs ++ [none]).map evD))) := ⟨(Mem.set_ne S.oe).trans S.mo, Mem.set_same, S.oe⟩
theorem ButOE.flush {o e : Addr} {M : Mem} {m : MO} : ButOE o e M (M.set e m) := fun _ _ z => Mem.set_ne z
theorem DS.of {o e : Addr} {cs : List Int} {evs : List Ev} {M M' : Mem} (S : DS o e cs evs M) (h1 : M' o = M o) (h2 : M' e = M e) : DS o e cs evs M' := ⟨h1.trans S.mo, h2.trans S.me, S.oe⟩
theorem ok_Journal_write (T : Txt P K mg a) (Df : Defs K a fd) : FnG P w K mg base 3 a.Journal_write fd.Journal_write ps_Journal_write (lift K (a_write a)) := by
  refine okG Df.Journal_write sc_Journal_write (fun ds M Ψ Χ ⟨_, _, _, _, _, _, _, _, _, _, _, h, _⟩ => by subst h; rfl) fun cdv A outer s H E hr hg => ?_
  refine ⟨_, (pss_cons (ps_par (i := 2) (j := 3) (by rfl) sc_Journal_write.nd rfl rfl (by decide) rfl rfl (pa_cons (pe_fld (pv 0) rfl) (pa_cons (pg_call (ok_half_start T Df) (hr.mono (by decide)) hg (by rfl) T.g_half_start T.k_half_start (bd_half_start_2_ Df) (takes_of rfl rfl rfl rfl) (pa_cons (pe_fld (pv 0) rfl) (pa_cons (pe_op op_add (pe_fld (pv 0) rfl) pe_int) pa_nil)) pk_nil) pa_nil)) (by rfl))
      (pss_cons (ps_if (pt_cmpR op_gt (pe_op op_add (pv 2) (pg_call (ok_needed_cells T Df) (hr.mono (by decide)) hg (by rfl) T.g_needed_cells T.k_needed_cells (bd_needed_cells_1_ Df) (takes_of rfl rfl rfl rfl) (pa_cons (pe_tup (pa_cons (pv 1) pa_nil)) pa_nil) pk_nil)) (pv 3) (nomark _))
      (pss_one (ps_raiseX rfl T.x_Refused hr T.g_Refused (takes_of rfl rfl rfl rfl) (pa_cons pe_str pa_nil)))
      pss_nil)
      (pss_cons (ps_set (i := 4) sc_Journal_write.nd rfl (Or.inl rfl) (pg_call (ok_put_record T Df) (hr.mono (by decide)) hg (by rfl) T.g_put_record T.k_put_record (bd_put_record_3_ Df) (takes_of rfl rfl rfl rfl) (pa_cons (pe_fld (pv 0) rfl) (pa_cons (pv 2) (pa_cons (pv 1) pa_nil))) pk_nil))
      (pss_cons (ps_expr (pg_call (ok_put_end T Df) (hr.mono (by decide)) hg (by rfl) T.g_put_end T.k_put_end (bd_put_end_3_ Df) (takes_of rfl rfl rfl rfl) (pa_cons (pe_fld (pv 0) rfl) (pa_cons (pv 4) (pa_cons (pv 3) pa_nil))) pk_nil))
      (pss_cons (ps_expr (pg_meth0 (pe_fld (pv 0) rfl) T.cl_Disk T.me_Disk_flush (ok_Disk_flush T Df) (hr.mono (by decide)) hg (bd_Disk_flush_1_ Df) (takes_of rfl rfl rfl rfl) pk_nil))
      (pss_cons (ps_expr (pg_meth (pe_fld (pv 0) rfl) T.cl_Disk T.me_Disk_put (ok_Disk_put T Df) (hr.mono (by decide)) hg (bd_Disk_put_3_ Df) (takes_of rfl rfl rfl rfl) (pa_cons (pv 2) (pa_cons (pe_globI T.g_MARK) pa_nil)) pk_nil))
      (pss_cons (ps_expr (pg_meth0 (pe_fld (pv 0) rfl) T.cl_Disk T.me_Disk_flush (ok_Disk_flush T Df) (hr.mono (by decide)) hg (bd_Disk_flush_1_ Df) (takes_of rfl rfl rfl rfl) pk_nil))
      (pss_cons (ps_expr (pe_bm PySem.F.plainAttrs_list PySem.F.slot_list_append PySem.F.type_list_append mt_append (pe_fld (pv 0) rfl) (pa_cons (pv 1) pa_nil)))
      (pss_one (ps_fld (pv 0) (pv 4) rfl)))))))))), ?_⟩
  rintro ds M Ψ Χ ⟨p, o, e, rl, xs, cs, r, evs, rs, s, en, rfl, mp, S, mr, ro, re, hxl, h1, h2, hs, hen, hrl, hrs, hev, hk⟩
  have po : p ≠ o := fun z => by rw [z, S.mo] at mp; cases mp
  have pe : p ≠ e := fun z => by rw [z, S.me] at mp; cases mp
  have pr : p ≠ rl := fun z => by rw [z, mr] at mp; cases mp
  have es : ((((s : Nat) : Int) + 1).toNat) = s + 1 := by omega
  have hstop : hstart cs.length (s + 1) ≤ cs.length := hstart_le h1 (by omega)
  refine as_seq (as_par ?_)
  refine aa_cons (ae_fldM T.cl_Journal T.nf_Journal__end ?_)
  repeat walk_at "st"
  refine ⟨p, _, _, rfl, mp, rfl, ?_⟩
  repeat walk_at "st"
  refine ae_fldM T.cl_Journal T.nf_Journal_disk ?_
  repeat walk_at "st"
  refine ⟨p, _, _, rfl, mp, rfl, ?_⟩
  refine aa_cons (ae_op (ae_fldM T.cl_Journal T.nf_Journal__side ?_))
  repeat walk_at "st"
  refine ⟨p, _, _, rfl, mp, rfl, ?_⟩
  repeat walk_at "st"
  refine ⟨rfl, rfl, xs, o, e, _, rfl, by omega, by omega, by omega, by omega, ?_⟩
  rw [es, hxl]
  repeat walk_at "st"
  refine ⟨_, _, rfl, ?_⟩
  generalize hst : hstart cs.length (s + 1) = stop at hk hstop
  repeat walk_at "st"
  refine ae_tup ?_
  repeat walk_at "st"
  refine ⟨by simp, ?_⟩
  repeat walk_at "st"
  refine ⟨rfl, rfl, [r], rfl, by simp, ?_⟩
  have hn : needs [r] = 3 + r.length := by simp [needs]
  rw [hn]
  repeat walk_at "st"
  rcases hk with ⟨hlt, hk⟩ | ⟨hle, hk⟩
  · refine ite3 (fun _ => as_raiseX ?_) (fun z => absurd (of_decide_eq_false z) (by omega))
    repeat walk_at "st"
    exact hk
  · refine ite3 (fun z => absurd (of_decide_eq_true z) (by omega)) (fun _ => as_next ?_)
    -- put_record
    repeat walk_at "st"
    refine ae_fldM T.cl_Journal T.nf_Journal_disk ?_
    repeat walk_at "st"
    refine ⟨p, _, _, rfl, mp, rfl, ?_⟩
    repeat walk_at "st"
    refine ⟨rfl, rfl, xs, o, e, cs, r, evs, en, rfl, S, by omega, h2, by omega, fun M1 S1 b1 => ?_⟩
    have mp1 : M1 p = some (.ins a.Journal (jF (dskO a xs o e) s rl en)) := (b1 p po pe).trans mp
    have hl1 : (updE cs (recEv en r)).length = cs.length := updE_len _ _
    have hre : (recEv en r).length = r.length + 2 := by unfold recEv; rw [List.length_append, datEv_len]; simp; omega
    -- put_end
    repeat walk_at "st"
    refine ae_fldM T.cl_Journal T.nf_Journal_disk ?_
    repeat walk_at "st"
    refine ⟨p, _, _, rfl, mp1, rfl, ?_⟩
    repeat walk_at "st"
    refine ⟨rfl, rfl, xs, o, e, _, _, en + 3 + r.length, stop, rfl, S1, by omega, by rw [List.length_append, hre]; omega, fun M2 S2 b2 => ?_⟩
    have mp2 : M2 p = some (.ins a.Journal (jF (dskO a xs o e) s rl en)) := (b2 p po pe).trans mp1
    have hee : (endEv (en + 3 + r.length) stop).length ≤ 1 := by unfold endEv; split <;> simp
    have hl2 : (updE (updE cs (recEv en r)) (endEv (en + 3 + r.length) stop)).length = cs.length := by rw [updE_len, hl1]
    have hv2 : (evs ++ recEv en r ++ endEv (en + 3 + r.length) stop).length ≤ 60000 := by rw [List.length_append, List.length_append, hre]; omega
    have b02 := b1.trans b2
    generalize hc2 : updE (updE cs (recEv en r)) (endEv (en + 3 + r.length) stop) = cs2 at S2 hl2
    generalize he2 : evs ++ recEv en r ++ endEv (en + 3 + r.length) stop = evs2 at S2 hv2
    -- flush
    repeat walk_at "st"
    refine ae_fldM T.cl_Journal T.nf_Journal_disk ?_
    repeat walk_at "st"
    refine ⟨p, _, _, rfl, mp2, rfl, _, rfl, rfl, ?_⟩
    repeat walk_at "st"
    refine ⟨rfl, rfl, xs, o, e, evs2, rfl, S2.me, by omega, ?_⟩
    have S3 := S2.flush
    have b03 := b02.trans (ButOE.flush (m := .lst ((evs2 ++ [none]).map evD)))
    generalize M2.set e (.lst ((evs2 ++ [none]).map evD)) = M3 at S3 b03
    have mp3 : M3 p = some (.ins a.Journal (jF (dskO a xs o e) s rl en)) := (b03 p po pe).trans mp
    -- the mark
    repeat walk_at "st"
    refine ae_fldM T.cl_Journal T.nf_Journal_disk ?_
    repeat walk_at "st"
    refine ⟨p, _, _, rfl, mp3, rfl, _, rfl, rfl, ?_⟩
    repeat walk_at "st"
    refine ⟨rfl, rfl, xs, o, e, cs2, evs2 ++ [none], (en : Int), 1, rfl, S3.mo, S3.me, S.oe, by omega, by omega, by rw [List.length_append]; simp; omega, ?_⟩
    have S4 := S3.put (en : Int) 1
    have b04 := b03.trans (ButOE.put (a := .lst ((cs2.set (en : Int).toNat 1).map T2.D.int)) (b := .lst ((evs2 ++ [none] ++ [some ((en : Int), 1)]).map evD)))
    generalize (M3.set o (.lst ((cs2.set (en : Int).toNat 1).map T2.D.int))).set e (.lst ((evs2 ++ [none] ++ [some ((en : Int), 1)]).map evD)) = M4 at S4 b04
    have mp4 : M4 p = some (.ins a.Journal (jF (dskO a xs o e) s rl en)) := (b04 p po pe).trans mp
    -- flush
    repeat walk_at "st"
    refine ae_fldM T.cl_Journal T.nf_Journal_disk ?_
    repeat walk_at "st"
    refine ⟨p, _, _, rfl, mp4, rfl, _, rfl, rfl, ?_⟩
    repeat walk_at "st"
    refine ⟨rfl, rfl, xs, o, e, _, rfl, S4.me, by rw [List.length_append, List.length_append]; simp; omega, ?_⟩
    have S5 := S4.flush
    have b05 := b04.trans (ButOE.flush (m := .lst ((evs2 ++ [none] ++ [some ((en : Int), 1)] ++ [none]).map evD)))
    generalize M4.set e (.lst ((evs2 ++ [none] ++ [some ((en : Int), 1)] ++ [none]).map evD)) = M5 at S5 b05
    have mp5 : M5 p = some (.ins a.Journal (jF (dskO a xs o e) s rl en)) := (b05 p po pe).trans mp
    have mr5 : M5 rl = some (.lst (rs.map recD)) := (b05 rl ro re).trans mr
    -- the record
    repeat walk_at "st"
    refine ae_append ?_
    refine ae_fldM T.cl_Journal T.nf_Journal__records ?_
    repeat walk_at "st"
    refine ⟨p, _, _, rfl, mp5, rfl, rl, _, rfl, mr5, ?_⟩
    repeat walk_at "st"
    refine ⟨_, mr5, by rw [List.length_map]; omega, ?_⟩
    refine as_fld T.cl_Journal T.nf_Journal__end ?_
    repeat walk_at "st"
    refine ⟨p, _, rfl, (Mem.set_ne pr).trans mp5, by show 4 < 1000; decide, ?_⟩
    refine hk _ (by rw [Mem.set_same]; rfl) ?_ ?_ fun b hb1 hb2 hb3 hb4 => ?_
    · have eC : updE cs (wrEv en stop r) = cs2.set (en : Int).toNat 1 := by
        unfold wrEv
        rw [updE_app, updE_app, hc2]
        rfl
      have eE : evs ++ wrEv en stop r = evs2 ++ [none] ++ [some ((en : Int), 1)] ++ [none] := by
        unfold wrEv
        rw [← he2]
        simp
      rw [eC, eE]
      exact S5.of ((Mem.set_ne (Ne.symm po)).trans (Mem.set_ne (Ne.symm ro))) ((Mem.set_ne (Ne.symm pe)).trans (Mem.set_ne (Ne.symm re)))
    · rw [Mem.set_ne (Ne.symm pr), Mem.set_same, List.map_append]
      rfl
    · rw [Mem.set_ne hb1, Mem.set_ne hb4, b05 b hb2 hb3]
end
end K60
namespace K60
open PySem PySem.Spec PyProof.Rows L2 RZ T2
local macro_rules | `(tactic| walk_at "st") => `(tactic| first
  | with_reducible refine as_seq ?_ | with_reducible refine as_if ?_ | with_reducible refine as_ret ?_ | with_reducible refine as_set ?_ | with_reducible refine as_drop ?_ | with_reducible refine as_next ?_
  | with_reducible refine as_asg ?_ | with_reducible refine as_retN ?_ | with_reducible refine as_brk ?_ | with_reducible refine as_cont ?_
  | with_reducible refine at_test ?_ | with_reducible refine at_B ?_ | with_reducible refine at_and ?_ | with_reducible refine at_or ?_ | with_reducible refine at_not ?_ | with_reducible refine at_yes ?_
  | with_reducible refine ae_op ?_ | with_reducible refine ae_un ?_ | with_reducible refine ae_cb ?_ | with_reducible refine aa_cons ?_ | with_reducible refine aa_nil ?_ | with_reducible refine ae_if ?_
  | with_reducible refine ae_andV ?_ | with_reducible refine ae_orV ?_ | with_reducible refine ae_notV ?_ | with_reducible refine ae_chain ?_
  | with_reducible refine ae_int ?_ | with_reducible refine ae_str ?_ | with_reducible refine ae_bl ?_ | with_reducible refine ae_non ?_ | with_reducible refine ae_ty ?_ | with_reducible refine ae_ref ?_
  | refine ae_varX rfl ?_ | refine ae_var rfl ?_
  | with_reducible refine ar_add ?_ | with_reducible refine ar_sub ?_ | with_reducible refine ar_lt ?_ | with_reducible refine ar_le ?_ | with_reducible refine ar_gt ?_ | with_reducible refine ar_ge ?_
  | with_reducible refine ar_eqI ?_ | with_reducible refine ar_neI ?_
  | with_reducible refine ⟨_, rfl, ?_⟩
  | refine ae_callG ?_ | refine ae_methG ?_)
section
variable {P : Program} {w : World} {K : PySem.W.Frag} {mg : Str → Option Value} {base : Heap} {a : Ad} {fd : Fds}
/-- records one behind another, marks first -/
def runEv : Nat → List (List Int) → List Ev
  | _, [] => []
  | q, r :: rs => some ((q : Int), 1) :: (recEv q r ++ runEv (q + 3 + r.length) rs)
theorem needs_cons (r : List Int) (rs : List (List Int)) : needs (r :: rs) = 3 + r.length + needs rs := by simp [needs]
theorem needs_app (a b : List (List Int)) : needs (a ++ b) = needs a + needs b := by simp [needs]
theorem recEv_len (q : Nat) (r : List Int) : (recEv q r).length = r.length + 2 := by unfold recEv; rw [List.length_append, datEv_len]; simp; omega
theorem runEv_len : ∀ (q : Nat) (rs : List (List Int)), (runEv q rs).length = needs rs
  | _, [] => rfl
  | q, r :: rs => by
    show (some ((q : Int), (1 : Int)) :: (recEv q r ++ runEv (q + 3 + r.length) rs)).length = _
    rw [List.length_cons, List.length_append, recEv_len, runEv_len, needs_cons]
    omega
theorem runEv_snoc : ∀ (q : Nat) (rs : List (List Int)) (r : List Int), runEv q (rs ++ [r]) = runEv q rs ++ (some (((q + needs rs : Nat) : Int), 1) :: recEv (q + needs rs) r)
  | q, [], r => by
    show some ((q : Int), 1) :: (recEv q r ++ []) = _
    rw [List.append_nil]
    rfl
  | q, x :: rs, r => by
    show some ((q : Int), 1) :: (recEv q x ++ runEv (q + 3 + x.length) (rs ++ [r])) = some ((q : Int), 1) :: (recEv q x ++ runEv (q + 3 + x.length) rs) ++ _
    rw [runEv_snoc (q + 3 + x.length) rs r, needs_cons, show q + 3 + x.length + needs rs = q + (3 + x.length + needs rs) by omega]
    simp
def rnEv (q stop side : Nat) (rs : List (List Int)) : List Ev := runEv q rs ++ endEv (q + needs rs) stop ++ [none, some (0, (side : Int)), none]
abbrev a_renew (a : Ad) : ASp := fun ds M Ψ Χ => ∃ (p o e rl : Addr) (xs : List D) (cs : List Int) (evs : List Ev) (rs : List (List Int)) (s en : Nat), ds = [.ref p, .tup (rs.map recD)] ∧ M p = some (.ins a.Journal (jF (dskO a xs o e) s rl en)) ∧ DS o e cs evs M ∧
  xs.length = cs.length ∧ 1 ≤ cs.length ∧ cs.length ≤ 20000 ∧ s ≤ 1 ∧ rs.length < 90000 ∧ evs.length < 30000 ∧
  ((hstart cs.length (2 - s) < hstart cs.length (1 - s) + needs rs ∧ Χ (.ref a.Refused) [("word", .str "room")] M) ∨ (hstart cs.length (1 - s) + needs rs ≤ hstart cs.length (2 - s) ∧
    ∀ rl' M', M rl' = none → M' p = some (.ins a.Journal (jF (dskO a xs o e) (1 - s) rl' (hstart cs.length (1 - s) + needs rs))) →
      DS o e (updE cs (rnEv (hstart cs.length (1 - s)) (hstart cs.length (2 - s)) (1 - s) rs)) (evs ++ rnEv (hstart cs.length (1 - s)) (hstart cs.length (2 - s)) (1 - s) rs) M' → M' rl' = some (.lst (rs.map recD)) →
      (∀ b, b ≠ p → b ≠ o → b ≠ e → b ≠ rl' → M' b = M b) → Ψ .non M'))
theorem ok_Journal_renew (T : Txt P K mg a) (Df : Defs K a fd) : FnG P w K mg base 3 a.Journal_renew fd.Journal_renew ps_Journal_renew (lift K (a_renew a)) := by
  refine okG Df.Journal_renew sc_Journal_renew (fun ds M Ψ Χ ⟨_, _, _, _, _, _, _, _, _, _, h, _⟩ => by subst h; rfl) fun cdv A outer s H E hr hg => ?_
  refine ⟨_, (pss_cons (ps_set (i := 2) sc_Journal_renew.nd rfl (Or.inl rfl) (pe_op op_sub pe_int (pe_fld (pv 0) rfl)))
      (pss_cons (ps_par (i := 3) (j := 4) (by rfl) sc_Journal_renew.nd rfl rfl (by decide) rfl rfl (pa_cons (pg_call (ok_half_start T Df) (hr.mono (by decide)) hg (by rfl) T.g_half_start T.k_half_start (bd_half_start_2_ Df) (takes_of rfl rfl rfl rfl) (pa_cons (pe_fld (pv 0) rfl) (pa_cons (pv 2) pa_nil)) pk_nil) (pa_cons (pg_call (ok_half_start T Df) (hr.mono (by decide)) hg (by rfl) T.g_half_start T.k_half_start (bd_half_start_2_ Df) (takes_of rfl rfl rfl rfl) (pa_cons (pe_fld (pv 0) rfl) (pa_cons (pe_op op_add (pv 2) pe_int) pa_nil)) pk_nil) pa_nil)) (by rfl))
      (pss_cons (ps_if (pt_cmpR op_gt (pe_op op_add (pv 3) (pg_call (ok_needed_cells T Df) (hr.mono (by decide)) hg (by rfl) T.g_needed_cells T.k_needed_cells (bd_needed_cells_1_ Df) (takes_of rfl rfl rfl rfl) (pa_cons (pv 1) pa_nil) pk_nil)) (pv 4) (nomark _))
      (pss_one (ps_raiseX rfl T.x_Refused hr T.g_Refused (takes_of rfl rfl rfl rfl) (pa_cons pe_str pa_nil)))
      pss_nil)
      (pss_cons (ps_for (passes_of rfl) rfl (pi_tup (pv 1)) (pg_name (i := 5) sc_Journal_renew.nd rfl (Or.inl rfl))
      (pss_cons (ps_expr (pg_meth (pe_fld (pv 0) rfl) T.cl_Disk T.me_Disk_put (ok_Disk_put T Df) (hr.mono (by decide)) hg (bd_Disk_put_3_ Df) (takes_of rfl rfl rfl rfl) (pa_cons (pv 3) (pa_cons (pe_globI T.g_MARK) pa_nil)) pk_nil))
      (pss_one (ps_set (i := 3) sc_Journal_renew.nd rfl (Or.inl rfl) (pg_call (ok_put_record T Df) (hr.mono (by decide)) hg (by rfl) T.g_put_record T.k_put_record (bd_put_record_3_ Df) (takes_of rfl rfl rfl rfl) (pa_cons (pe_fld (pv 0) rfl) (pa_cons (pv 3) (pa_cons (pv 5) pa_nil))) pk_nil)))))
      (pss_cons (ps_expr (pg_call (ok_put_end T Df) (hr.mono (by decide)) hg (by rfl) T.g_put_end T.k_put_end (bd_put_end_3_ Df) (takes_of rfl rfl rfl rfl) (pa_cons (pe_fld (pv 0) rfl) (pa_cons (pv 3) (pa_cons (pv 4) pa_nil))) pk_nil))
      (pss_cons (ps_expr (pg_meth0 (pe_fld (pv 0) rfl) T.cl_Disk T.me_Disk_flush (ok_Disk_flush T Df) (hr.mono (by decide)) hg (bd_Disk_flush_1_ Df) (takes_of rfl rfl rfl rfl) pk_nil))
      (pss_cons (ps_expr (pg_meth (pe_fld (pv 0) rfl) T.cl_Disk T.me_Disk_put (ok_Disk_put T Df) (hr.mono (by decide)) hg (bd_Disk_put_3_ Df) (takes_of rfl rfl rfl rfl) (pa_cons pe_int (pa_cons (pv 2) pa_nil)) pk_nil))
      (pss_cons (ps_expr (pg_meth0 (pe_fld (pv 0) rfl) T.cl_Disk T.me_Disk_flush (ok_Disk_flush T Df) (hr.mono (by decide)) hg (bd_Disk_flush_1_ Df) (takes_of rfl rfl rfl rfl) pk_nil))
      (pss_one (ps_asg (pe_tup (pa_cons (pv 2) (pa_cons (pe_callTy call_list_of (by rfl) T.n_list (by decide +kernel) (pa_cons (pv 1) pa_nil)) (pa_cons (pv 3) pa_nil)))) (pg_tup rfl (pgs_cons (pg_fld (pv 0)) (pgs_cons (pg_fld (pv 0)) (pgs_cons (pg_fld (pv 0)) pgs_nil)))))))))))))), ?_⟩
  rintro ds M Ψ Χ ⟨p, o, e, rl, xs, cs, evs, rs, s, en, rfl, mp, S, hxl, h1, h2, hs, hrs, hev, hk⟩
  have po : p ≠ o := fun z => by rw [z, S.mo] at mp; cases mp
  have pe : p ≠ e := fun z => by rw [z, S.me] at mp; cases mp
  have hstop : hstart cs.length (2 - s) ≤ cs.length := hstart_le h1 (by omega)
  have e1 : (1 : Int) - ((s : Nat) : Int) = ((1 - s : Nat) : Int) := by omega
  have e2 : (((1 - s : Nat) : Int)).toNat = 1 - s := by omega
  have e3 : (((1 - s : Nat) : Int) + 1).toNat = 2 - s := by omega
  repeat walk_at "st"
  refine ae_fldM T.cl_Journal T.nf_Journal__side ?_
  repeat walk_at "st"
  refine ⟨p, _, _, rfl, mp, rfl, ?_⟩
  refine ar_sub ?_
  rw [e1]
  refine as_seq (as_par ?_)
  repeat walk_at "st"
  refine ae_fldM T.cl_Journal T.nf_Journal_disk ?_
  repeat walk_at "st"
  refine ⟨p, _, _, rfl, mp, rfl, ?_⟩
  repeat walk_at "st"
  refine ⟨rfl, rfl, xs, o, e, _, rfl, by omega, by omega, by omega, by omega, ?_⟩
  rw [e2, hxl]
  repeat walk_at "st"
  refine ae_fldM T.cl_Journal T.nf_Journal_disk ?_
  repeat walk_at "st"
  refine ⟨p, _, _, rfl, mp, rfl, ?_⟩
  repeat walk_at "st"
  refine ⟨rfl, rfl, xs, o, e, _, rfl, by omega, by omega, by omega, by omega, ?_⟩
  rw [e3, hxl]
  repeat walk_at "st"
  refine ⟨_, _, rfl, ?_⟩
  have hss : hstart cs.length (1 - s) ≤ cs.length := hstart_le h1 (by omega)
  generalize hq : hstart cs.length (1 - s) = q at hk hss
  generalize hst : hstart cs.length (2 - s) = stop at hk hstop
  repeat walk_at "st"
  refine ⟨rfl, rfl, rs, rfl, by omega, ?_⟩
  repeat walk_at "st"
  rcases hk with ⟨hlt, hk⟩ | ⟨hle, hk⟩
  · refine ite3 (fun _ => as_raiseX ?_) (fun z => absurd (of_decide_eq_false z) (by omega))
    repeat walk_at "st"
    exact hk
  · refine ite3 (fun z => absurd (of_decide_eq_true z) (by omega)) (fun _ => as_next ?_)
    refine as_seqP (fun Δ' M' => (∃ u, Δ' = [some (.ref p), some (.tup (rs.map recD)), some (.int ((1 - s : Nat) : Int)), some (.int ((q + needs rs : Nat) : Int)), some (.int (stop : Nat)), u]) ∧ DS o e (updE cs (runEv q rs)) (evs ++ runEv q rs) M' ∧ ButOE o e M M') ?_ ?_
    · refine as_for (ai_tup ?_)
      repeat walk_at "st"
      refine ⟨fun i Δ' M' => i ≤ rs.length ∧ (∃ u, Δ' = [some (.ref p), some (.tup (rs.map recD)), some (.int ((1 - s : Nat) : Int)), some (.int ((q + needs (rs.take i) : Nat) : Int)), some (.int (stop : Nat)), u]) ∧ DS o e (updE cs (runEv q (rs.take i))) (evs ++ runEv q (rs.take i)) M' ∧ ButOE o e M M',
        ⟨Nat.zero_le _, ⟨_, rfl⟩, by show DS o e cs (evs ++ []) M; rw [List.append_nil]; exact S, fun _ _ _ => rfl⟩, ?_, ?_⟩
      · rintro i d Δ' M' hx ⟨hi, ⟨u, rfl⟩, S', b'⟩
        rw [List.getElem?_map] at hx
        obtain ⟨r, hrx, rfl⟩ := Option.map_eq_some_iff.mp hx
        have htk := take_snoc hrx
        have hnd : needs (rs.take (i + 1)) = needs (rs.take i) + (3 + r.length) := by rw [htk, needs_app, needs_cons]; rfl
        have hnl : needs (rs.take (i + 1)) ≤ needs rs := by
          have h := congrArg needs (List.take_append_drop (i + 1) rs)
          rw [needs_app] at h
          omega
        have mp' : M' p = some (.ins a.Journal (jF (dskO a xs o e) s rl en)) := (b' p po pe).trans mp
        have hul : (updE cs (runEv q (rs.take i))).length = cs.length := updE_len _ _
        have hvl : (evs ++ runEv q (rs.take i)).length < 60000 := by rw [List.length_append, runEv_len]; omega
        have hru := runEv_snoc q (rs.take i) r
        rw [← htk] at hru
        generalize hqi : q + needs (rs.take i) = qi at hru
        generalize runEv q (rs.take i) = Ri at S' hul hvl hru
        refine ag_name ?_
        repeat walk_at "st"
        refine ae_fldM T.cl_Journal T.nf_Journal_disk ?_
        repeat walk_at "st"
        refine ⟨p, _, _, rfl, mp', rfl, _, rfl, rfl, ?_⟩
        repeat walk_at "st"
        refine ⟨rfl, rfl, xs, o, e, _, _, (qi : Int), 1, rfl, S'.mo, S'.me, S.oe, by omega, by rw [hul]; omega, by omega, ?_⟩
        have S1 := S'.put (qi : Int) 1
        have b1 := b'.trans (ButOE.put (a := .lst (((updE cs Ri).set (qi : Int).toNat 1).map T2.D.int)) (b := .lst ((evs ++ Ri ++ [some ((qi : Int), 1)]).map evD)))
        generalize (M'.set o (.lst (((updE cs Ri).set (qi : Int).toNat 1).map T2.D.int))).set e (.lst ((evs ++ Ri ++ [some ((qi : Int), 1)]).map evD)) = M1 at S1 b1
        have mp1 : M1 p = some (.ins a.Journal (jF (dskO a xs o e) s rl en)) := (b1 p po pe).trans mp
        repeat walk_at "st"
        refine ae_fldM T.cl_Journal T.nf_Journal_disk ?_
        repeat walk_at "st"
        refine ⟨p, _, _, rfl, mp1, rfl, ?_⟩
        repeat walk_at "st"
        refine ⟨rfl, rfl, xs, o, e, _, r, _, qi, rfl, S1, by rw [List.length_set, hul]; omega, by rw [List.length_set, hul]; omega, by have hv9 := hvl; simp at hv9 ⊢; omega, fun M2 S2 b2 => ?_⟩
        refine ⟨(List.getElem?_eq_some_iff.mp hrx).1, ⟨some (recD r), ?_⟩, ?_, b1.trans b2⟩
        · rw [hnd, show q + (needs (rs.take i) + (3 + r.length)) = qi + 3 + r.length by omega]
          rfl
        · rw [hru, updE_app, ← List.append_assoc]
          have eE : evs ++ Ri ++ (some ((qi : Int), (1 : Int)) :: recEv qi r) = evs ++ Ri ++ [some ((qi : Int), 1)] ++ recEv qi r := by simp
          rw [eE]
          exact S2
      · rintro Δ' M' ⟨hi, ⟨u, rfl⟩, S', b'⟩
        rw [List.length_map, List.take_length] at S' ⊢
        exact ⟨⟨u, rfl⟩, S', b'⟩
    rintro Δ' M1 ⟨⟨u, rfl⟩, S1, b1⟩
    have mp1 : M1 p = some (.ins a.Journal (jF (dskO a xs o e) s rl en)) := (b1 p po pe).trans mp
    have hl1 : (updE cs (runEv q rs)).length = cs.length := updE_len _ _
    have hv1 := runEv_len q rs
    repeat walk_at "st"
    refine ae_fldM T.cl_Journal T.nf_Journal_disk ?_
    repeat walk_at "st"
    refine ⟨p, _, _, rfl, mp1, rfl, ?_⟩
    repeat walk_at "st"
    refine ⟨rfl, rfl, xs, o, e, _, _, q + needs rs, stop, rfl, S1, by omega, by rw [List.length_append, hv1]; omega, fun M2 S2 b2 => ?_⟩
    have mp2 : M2 p = some (.ins a.Journal (jF (dskO a xs o e) s rl en)) := (b2 p po pe).trans mp1
    have hee : (endEv (q + needs rs) stop).length ≤ 1 := by unfold endEv; split <;> simp
    have hl2 : (updE (updE cs (runEv q rs)) (endEv (q + needs rs) stop)).length = cs.length := by rw [updE_len, hl1]
    have hv2 : (evs ++ runEv q rs ++ endEv (q + needs rs) stop).length ≤ 60000 := by rw [List.length_append, List.length_append, hv1]; omega
    have b02 := b1.trans b2
    generalize hc2 : updE (updE cs (runEv q rs)) (endEv (q + needs rs) stop) = cs2 at S2 hl2
    generalize he2 : evs ++ runEv q rs ++ endEv (q + needs rs) stop = evs2 at S2 hv2
    repeat walk_at "st"
    refine ae_fldM T.cl_Journal T.nf_Journal_disk ?_
    repeat walk_at "st"
    refine ⟨p, _, _, rfl, mp2, rfl, _, rfl, rfl, ?_⟩
    repeat walk_at "st"
    refine ⟨rfl, rfl, xs, o, e, evs2, rfl, S2.me, by omega, ?_⟩
    have S3 := S2.flush
    have b03 := b02.trans (ButOE.flush (m := .lst ((evs2 ++ [none]).map evD)))
    generalize M2.set e (.lst ((evs2 ++ [none]).map evD)) = M3 at S3 b03
    have mp3 : M3 p = some (.ins a.Journal (jF (dskO a xs o e) s rl en)) := (b03 p po pe).trans mp
    repeat walk_at "st"
    refine ae_fldM T.cl_Journal T.nf_Journal_disk ?_
    repeat walk_at "st"
    refine ⟨p, _, _, rfl, mp3, rfl, _, rfl, rfl, ?_⟩
    repeat walk_at "st"
    refine ⟨rfl, rfl, xs, o, e, cs2, evs2 ++ [none], 0, ((1 - s : Nat) : Int), rfl, S3.mo, S3.me, S.oe, by omega, by omega, by rw [List.length_append]; simp; omega, ?_⟩
    have S4 := S3.put 0 ((1 - s : Nat) : Int)
    have b04 := b03.trans (ButOE.put (a := .lst ((cs2.set (0 : Int).toNat ((1 - s : Nat) : Int)).map T2.D.int)) (b := .lst ((evs2 ++ [none] ++ [some (0, ((1 - s : Nat) : Int))]).map evD)))
    generalize (M3.set o (.lst ((cs2.set (0 : Int).toNat ((1 - s : Nat) : Int)).map T2.D.int))).set e (.lst ((evs2 ++ [none] ++ [some (0, ((1 - s : Nat) : Int))]).map evD)) = M4 at S4 b04
    have mp4 : M4 p = some (.ins a.Journal (jF (dskO a xs o e) s rl en)) := (b04 p po pe).trans mp
    repeat walk_at "st"
    refine ae_fldM T.cl_Journal T.nf_Journal_disk ?_
    repeat walk_at "st"
    refine ⟨p, _, _, rfl, mp4, rfl, _, rfl, rfl, ?_⟩
    repeat walk_at "st"
    refine ⟨rfl, rfl, xs, o, e, _, rfl, S4.me, by rw [List.length_append, List.length_append]; simp; omega, ?_⟩
    have S5 := S4.flush
    have b05 := b04.trans (ButOE.flush (m := .lst ((evs2 ++ [none] ++ [some (0, ((1 - s : Nat) : Int))] ++ [none]).map evD)))
    generalize M4.set e (.lst ((evs2 ++ [none] ++ [some (0, ((1 - s : Nat) : Int))] ++ [none]).map evD)) = M5 at S5 b05
    have mp5 : M5 p = some (.ins a.Journal (jF (dskO a xs o e) s rl en)) := (b05 p po pe).trans mp
    refine as_asgX (ae_tup ?_)
    repeat walk_at "st"
    refine arl_listT fun f hf => ?_
    have pf : p ≠ f := fun z => by rw [← z, mp5] at hf; cases hf
    have fo : f ≠ o := fun z => by rw [z, S5.mo] at hf; cases hf
    have fe : f ≠ e := fun z => by rw [z, S5.me] at hf; cases hf
    have hf0 : M f = none := by rw [← b05 f fo fe]; exact hf
    repeat walk_at "st"
    refine ⟨by simp, agx_tup rfl (ags_cons (ag_fld T.cl_Journal T.nf_Journal__side ?_))⟩
    repeat walk_at "st"
    refine ⟨p, _, rfl, (Mem.set_ne pf).trans mp5, by show 4 < 1000; decide, ?_⟩
    refine ags_cons (ag_fld T.cl_Journal T.nf_Journal__records ?_)
    repeat walk_at "st"
    refine ⟨p, _, rfl, Mem.set_same, by show 4 < 1000; decide, ?_⟩
    refine ags_cons (ag_fld T.cl_Journal T.nf_Journal__end ?_)
    repeat walk_at "st"
    refine ⟨p, _, rfl, Mem.set_same, by show 4 < 1000; decide, ags_nil ?_⟩
    refine hk f _ hf0 (by rw [Mem.set_same]; rfl) ?_ ?_ fun b hb1 hb2 hb3 hb4 => ?_
    · have eC : updE cs (rnEv q stop (1 - s) rs) = cs2.set (0 : Int).toNat ((1 - s : Nat) : Int) := by
        unfold rnEv
        rw [updE_app, updE_app, hc2]
        rfl
      have eE : evs ++ rnEv q stop (1 - s) rs = evs2 ++ [none] ++ [some (0, ((1 - s : Nat) : Int))] ++ [none] := by
        unfold rnEv
        rw [← he2]
        simp
      rw [eC, eE]
      exact S5.of (by rw [Mem.set_ne (Ne.symm po), Mem.set_ne (Ne.symm po), Mem.set_ne (Ne.symm po), Mem.set_ne (Ne.symm fo)]) (by rw [Mem.set_ne (Ne.symm pe), Mem.set_ne (Ne.symm pe), Mem.set_ne (Ne.symm pe), Mem.set_ne (Ne.symm fe)])
    · rw [Mem.set_ne (Ne.symm pf), Mem.set_ne (Ne.symm pf), Mem.set_ne (Ne.symm pf), Mem.set_same]
    · rw [Mem.set_ne hb1, Mem.set_ne hb1, Mem.set_ne hb1, Mem.set_ne hb4, b05 b hb2 hb3]
end
end K60
namespace K60
open PySem PySem.Spec PyProof.Rows L2 RZ T2
local macro_rules | `(tactic| walk_at "st") => `(tactic| first
  | with_reducible refine as_seq ?_ | with_reducible refine as_if ?_ | with_reducible refine as_ret ?_ | with_reducible refine as_set ?_ | with_reducible refine as_drop ?_ | with_reducible refine as_next ?_
  | with_reducible refine as_asg ?_ | with_reducible refine as_retN ?_ | with_reducible refine as_brk ?_ | with_reducible refine as_cont ?_
  | with_reducible refine at_test ?_ | with_reducible refine at_B ?_ | with_reducible refine at_and ?_ | with_reducible refine at_or ?_ | with_reducible refine at_not ?_ | with_reducible refine at_yes ?_
  | with_reducible refine ae_op ?_ | with_reducible refine ae_un ?_ | with_reducible refine ae_cb ?_ | with_reducible refine aa_cons ?_ | with_reducible refine aa_nil ?_ | with_reducible refine ae_if ?_
  | with_reducible refine ae_andV ?_ | with_reducible refine ae_orV ?_ | with_reducible refine ae_notV ?_ | with_reducible refine ae_chain ?_
  | with_reducible refine ae_int ?_ | with_reducible refine ae_str ?_ | with_reducible refine ae_bl ?_ | with_reducible refine ae_non ?_ | with_reducible refine ae_ty ?_ | with_reducible refine ae_ref ?_
  | refine ae_varX rfl ?_ | refine ae_var rfl ?_
  | with_reducible refine ar_add ?_ | with_reducible refine ar_sub ?_ | with_reducible refine ar_lt ?_ | with_reducible refine ar_le ?_ | with_reducible refine ar_gt ?_ | with_reducible refine ar_ge ?_
  | with_reducible refine ar_eqI ?_ | with_reducible refine ar_neI ?_
  | with_reducible refine ⟨_, rfl, ?_⟩
  | refine ae_callG ?_ | refine ae_methG ?_)
section
variable {P : Program} {w : World} {K : PySem.W.Frag} {mg : Str → Option Value} {base : Heap} {a : Ad} {fd : Fds}
def pend (es : List Ev) : List Int := es.foldl (fun acc e => match e with
  | none => []
  | some (x, _) => acc ++ [x]) []
theorem pend_snoc (es : List Ev) (e : Ev) : pend (es ++ [e]) = match e with
  | none => []
  | some (x, _) => pend es ++ [x] := by
  unfold pend
  rw [List.foldl_append]
  rfl
theorem pend_len (es : List Ev) : (pend es).length ≤ es.length := by
  have h : ∀ (es : List Ev) (acc : List Int), (es.foldl (fun acc e => match e with
      | none => []
      | some (x, _) => acc ++ [x]) acc).length ≤ acc.length + es.length := by
    intro es
    induction es with
    | nil => intro acc; exact Nat.le_refl _
    | cons e es ih =>
      intro acc
      rw [List.foldl_cons]
      refine Nat.le_trans (ih _) ?_
      cases e with
      | none => simp; omega
      | some e => obtain ⟨x, o⟩ := e; simp; omega
  have z := h es []
  simpa [pend] using z
def evOk (n : Nat) (es : List Ev) : Prop := ∀ x o, some (x, o) ∈ es → 0 ≤ x ∧ x < n
theorem pend_ok {n : Nat} {es : List Ev} (h : evOk n es) : ∀ x ∈ pend es, 0 ≤ x ∧ x < n := by
  have g : ∀ (es : List Ev) (acc : List Int), evOk n es → (∀ x ∈ acc, 0 ≤ x ∧ x < n) → ∀ x ∈ es.foldl (fun acc e => match e with
      | none => []
      | some (x, _) => acc ++ [x]) acc, 0 ≤ x ∧ x < n := by
    intro es
    induction es with
    | nil => intro acc _ h; exact h
    | cons e es ih =>
      intro acc hk ha
      rw [List.foldl_cons]
      refine ih _ (fun x o z => hk x o (List.mem_cons_of_mem _ z)) ?_
      cases e with
      | none => intro x hx; cases hx
      | some e =>
        obtain ⟨y, o⟩ := e
        intro x hx
        rcases List.mem_append.mp hx with hx | hx
        · exact ha x hx
        · rw [List.mem_singleton] at hx
          subst hx
          exact hk x o (List.mem_cons_self ..)
  exact g es [] h (by simp)
/-! ### the law's records -/
abbrev a_rec : ASp := fun ds M Ψ Χ => ∃ (h c : Addr) (b : Bool), ds = [.ref h, .bl b] ∧ Rng h c M ∧ ∀ r M', Oct r → r.length ≤ 264 → (b = false → r.length ≤ 7) → Rng h c M' → But2 h c M M' → Ψ (recD r) M'
theorem ok__law_record (T : Txt P K mg a) (Df : Defs K a fd) : FnG P w K mg base 4 a._law_record fd._law_record ps__law_record (lift K a_rec) := by
  refine okG Df._law_record sc__law_record (fun ds M Ψ Χ ⟨_, _, _, h, _⟩ => by subst h; rfl) fun cdv A outer s H E hr hg => ?_
  refine ⟨_, (pss_cons (ps_if (PW.pt (pw_and (pt_val (pv 1)) (pw_and1 (pt_cmpR op_eq (pg_call (ok__law_draw T Df) (hr.mono (by decide)) hg (by rfl) T.g__law_draw T.k__law_draw (bd__law_draw_2_ Df) (takes_of rfl rfl rfl rfl) (pa_cons (pv 0) (pa_cons pe_int pa_nil)) pk_nil) pe_int (nomark _)))))
      (pss_one (ps_ret (pe_op op_catA (pe_op op_rep1 (pe_tup (pa_cons (pg_call (ok__law_octet T Df) (hr.mono (by decide)) hg (by rfl) T.g__law_octet T.k__law_octet (bd__law_octet_1_ Df) (takes_of rfl rfl rfl rfl) (pa_cons (pv 0) pa_nil) pk_nil) pa_nil)) (pe_op op_add pe_int (pg_call (ok__law_draw T Df) (hr.mono (by decide)) hg (by rfl) T.g__law_draw T.k__law_draw (bd__law_draw_2_ Df) (takes_of rfl rfl rfl rfl) (pa_cons (pv 0) (pa_cons pe_int pa_nil)) pk_nil))) (pe_tup (pa_cons (pg_call (ok__law_octet T Df) (hr.mono (by decide)) hg (by rfl) T.g__law_octet T.k__law_octet (bd__law_octet_1_ Df) (takes_of rfl rfl rfl rfl) (pa_cons (pv 0) pa_nil) pk_nil) (pa_cons pe_int (pa_cons pe_int pa_nil)))))))
      pss_nil)
      (pss_one (ps_ret (pe_callTy call_tuple_of (by rfl) T.n_tuple (by decide +kernel) (pa_cons (pe_lc (own := [("_law_at", 2)]) rfl sc__law_record.nd (pi_range1 (by rfl) T.n_range (pa_cons (pg_call (ok__law_pick T Df) (hr.mono (by decide)) hg (by rfl) T.g__law_pick T.k__law_pick (bd__law_pick_2_ Df) (takes_of rfl rfl rfl rfl) (pa_cons (pv 0) (pa_cons (pe_lst (pa_cons pe_int (pa_cons pe_int (pa_cons pe_int (pa_cons pe_int (pa_cons pe_int (pa_cons pe_int pa_nil))))))) pa_nil)) pk_nil) pa_nil)) (blkOk_by (own := [("_law_at", 2)]) (N := N__law_record) (sc := defScope s__law_record) (by decide +kernel)) (fun _ _ _ _ _ => (pg_name (i := 2) sc__law_record.nd rfl (Or.inl rfl))) (fun _ _ _ _ _ => pts_nil) (fun _ _ _ _ _ => (pg_call (ok__law_octet T Df) (hr.mono (by decide)) hg (by rfl) T.g__law_octet T.k__law_octet (bd__law_octet_1_ Df) takes0 (pa_cons (pv 0) pa_nil) pk_nil))) pa_nil))))), ?_⟩
  rintro ds M Ψ Χ ⟨h, c, b, rfl, R, k⟩
  refine as_seqP (fun Δ' M1 => Δ' = [some (.ref h), some (.bl b), none] ∧ Rng h c M1 ∧ But2 h c M M1) ?_ ?_
  · repeat walk_at "st"
    cases b with
    | false => exact ite3 (fun z => by cases z) fun _ => as_next ⟨rfl, R, But2.refl⟩
    | true =>
      refine ite3 (fun _ => ?_) fun z => by cases z
      repeat walk_at "st"
      refine ⟨rfl, rfl, h, c, _, rfl, R, by decide, by decide, fun y M1 y0 y1 R1 b1 => ?_⟩
      repeat walk_at "st"
      refine ite3 (fun _ => ?_) (fun _ => as_next ⟨rfl, R1, b1⟩)
      refine as_ret (ae_op (ae_op (ae_tup (aa_cons ?_))))
      repeat walk_at "st"
      refine ⟨rfl, rfl, h, c, rfl, R1, fun v M2 v0 v1 R2 b2 => ?_⟩
      repeat walk_at "st"
      refine ⟨by simp, ?_⟩
      repeat walk_at "st"
      refine ⟨rfl, rfl, h, c, _, rfl, R2, by decide, by decide, fun n M3 n0 n1 R3 b3 => ?_⟩
      repeat walk_at "st"
      refine ar_rep1 (by omega) (by omega) ?_
      refine ae_tup (aa_cons ?_)
      repeat walk_at "st"
      refine ⟨rfl, rfl, h, c, rfl, R3, fun v2 M4 w0 w1 R4 b4 => ?_⟩
      repeat walk_at "st"
      refine ⟨by simp, ?_⟩
      refine ar_catT (by rw [List.length_replicate]; simp; omega) ?_
      have e : List.replicate (250 + n).toNat (D.int v) ++ [D.int v2, D.int 0, D.int 7] = (List.replicate (250 + n).toNat v ++ [v2, 0, 7]).map D.int := by
        rw [List.map_append, List.map_replicate]
        rfl
      rw [e]
      refine k _ M4 (fun c hc => ?_) (by rw [List.length_append, List.length_replicate]; simp; omega) (fun z => by cases z) R4 (((b1.trans b2).trans b3).trans b4)
      rcases List.mem_append.mp hc with z | z
      · rw [(List.mem_replicate.mp z).2]; exact ⟨v0, v1⟩
      · simp only [List.mem_cons, List.mem_nil_iff, or_false] at z
        rcases z with rfl | rfl | rfl
        · exact ⟨w0, w1⟩
        · exact ⟨by decide, by decide⟩
        · exact ⟨by decide, by decide⟩
  · rintro Δ' M1 ⟨rfl, R1, b1⟩
    repeat walk_at "st"
    refine ae_lcF (ai_rng1 ?_)
    repeat walk_at "st"
    refine ae_lst ?_
    repeat walk_at "st"
    refine ⟨by simp, ?_⟩
    repeat walk_at "st"
    refine ⟨rfl, rfl, h, c, _, rfl, R1, by simp, by simp, fun d M2 hd R2 b2 => ?_⟩
    have hv : ∃ n : Nat, d = .int (n : Nat) ∧ n ≤ 7 := by
      simp only [List.mem_cons, List.mem_nil_iff, or_false] at hd
      rcases hd with rfl | rfl | rfl | rfl | rfl | rfl
      · exact ⟨3, rfl, by decide⟩
      · exact ⟨0, rfl, by decide⟩
      · exact ⟨1, rfl, by decide⟩
      · exact ⟨2, rfl, by decide⟩
      · exact ⟨5, rfl, by decide⟩
      · exact ⟨7, rfl, by decide⟩
    obtain ⟨n, rfl, hn⟩ := hv
    repeat walk_at "st"
    have b12 := b1.trans b2
    refine ⟨by omega, by rw [rngD_length]; omega, fun i acc M3 => ∃ cs : List Int, acc = cs.map D.int ∧ cs.length = i ∧ Oct cs ∧ Rng h c M3 ∧ But2 h c M M3, ⟨[], rfl, rfl, (fun _ z => by cases z), R2, b12⟩, ?_, ?_⟩
    · rintro i2 d2 acc2 M3 p2 hx2 ⟨cs, rfl, hcl2, hco, R3, b3⟩ hp2 _
      obtain ⟨_, rfl⟩ := rngD_get hx2
      obtain ⟨m1, m2⟩ := R3.fresh hp2
      refine agc_name (by decide) (at_yes (ite3 (fun _ => ?_) fun z => by cases z))
      repeat walk_at "st"
      refine ⟨rfl, rfl, h, c, rfl, R3.set m1 m2, fun r M4 r0 r1 R4 b4 => ?_⟩
      obtain ⟨M5, e5, m5, R5, b5⟩ := turn b3 R3 hp2 R4 b4
      refine ⟨M5, e5, m5, cs ++ [r], by rw [List.map_append]; rfl, by rw [List.length_append, hcl2]; rfl, fun c hc => ?_, R5, b5⟩
      rcases List.mem_append.mp hc with z | z
      · exact hco c z
      · rw [List.mem_singleton] at z
        rw [z]; exact ⟨r0, r1⟩
    · rintro acc2 M3 ⟨cs, rfl, hcl2, hco, R3, b3⟩
      rw [rngD_length] at hcl2
      repeat walk_at "st"
      refine arl_tupL (k cs M3 hco (by omega) (fun _ => by omega) R3 b3)
end
end K60
namespace K60
open PySem PySem.Spec PyProof.Rows L2 RZ T2
local macro_rules | `(tactic| walk_at "st") => `(tactic| first
  | with_reducible refine as_seq ?_ | with_reducible refine as_if ?_ | with_reducible refine as_ret ?_ | with_reducible refine as_set ?_ | with_reducible refine as_drop ?_ | with_reducible refine as_next ?_
  | with_reducible refine as_asg ?_ | with_reducible refine as_retN ?_ | with_reducible refine as_brk ?_ | with_reducible refine as_cont ?_
  | with_reducible refine at_test ?_ | with_reducible refine at_B ?_ | with_reducible refine at_and ?_ | with_reducible refine at_or ?_ | with_reducible refine at_not ?_ | with_reducible refine at_yes ?_
  | with_reducible refine ae_op ?_ | with_reducible refine ae_un ?_ | with_reducible refine ae_cb ?_ | with_reducible refine aa_cons ?_ | with_reducible refine aa_nil ?_ | with_reducible refine ae_if ?_
  | with_reducible refine ae_andV ?_ | with_reducible refine ae_orV ?_ | with_reducible refine ae_notV ?_ | with_reducible refine ae_chain ?_
  | with_reducible refine ae_int ?_ | with_reducible refine ae_str ?_ | with_reducible refine ae_bl ?_ | with_reducible refine ae_non ?_ | with_reducible refine ae_ty ?_ | with_reducible refine ae_ref ?_
  | refine ae_varX rfl ?_ | refine ae_var rfl ?_
  | with_reducible refine ar_add ?_ | with_reducible refine ar_sub ?_ | with_reducible refine ar_lt ?_ | with_reducible refine ar_le ?_ | with_reducible refine ar_gt ?_ | with_reducible refine ar_ge ?_
  | with_reducible refine ar_eqI ?_ | with_reducible refine ar_neI ?_
  | with_reducible refine ⟨_, rfl, ?_⟩
  | refine ae_callG ?_ | refine ae_methG ?_)
section
variable {P : Program} {w : World} {K : PySem.W.Frag} {mg : Str → Option Value} {base : Heap} {a : Ad} {fd : Fds}
theorem rev_ind {α : Type} {Q : List α → Prop} (h0 : Q []) (h1 : ∀ es e, Q es → Q (es ++ [e])) : ∀ es, Q es := fun es => by
  have h : ∀ rs : List α, Q rs.reverse := by
    intro rs
    induction rs with
    | nil => exact h0
    | cons e rs ih =>
      rw [List.reverse_cons]
      exact h1 _ _ ih
  have := h es.reverse
  rwa [List.reverse_reverse] at this
/-- the events up to the last flush -/
def fl (es : List Ev) : List Ev := (es.reverse.dropWhile fun e => e.isSome).reverse
theorem fl_none (es : List Ev) : fl (es ++ [none]) = es ++ [none] := by
  unfold fl
  simp [List.dropWhile_cons]
theorem fl_some (es : List Ev) (x : Int × Int) : fl (es ++ [some x]) = fl es := by
  unfold fl
  simp [List.dropWhile_cons]
theorem out_pend {n j : Nat} {cs : List Int} : ∀ es : List Ev, evOk n es → (j : Int) ∉ pend es → (updE cs (fl es))[j]? = (updE cs es)[j]? := by
  refine rev_ind (fun _ _ => rfl) fun es e ih hk hj => ?_
  have hk' : evOk n es := fun x o z => hk x o (List.mem_append_left _ z)
  cases e with
  | none => rw [fl_none]
  | some e =>
    obtain ⟨x, o⟩ := e
    have hx := hk x o (by simp)
    rw [pend_snoc] at hj
    simp only [List.mem_append, List.mem_singleton, not_or] at hj
    rw [fl_some, updE_snoc, ih hk' hj.1]
    show _ = ((updE cs es).set x.toNat o)[j]?
    rw [List.getElem?_set_ne (by omega)]
theorem fl_ok {n : Nat} {es : List Ev} (h : evOk n es) : evOk n (fl es) := fun x o z => h x o (by
  unfold fl at z
  rw [List.mem_reverse] at z
  have := (List.dropWhile_sublist _).subset z
  rwa [List.mem_reverse] at this)
abbrev a_lasting : ASp := fun ds M Ψ Χ => ∃ (cs : List Int) (es : List Ev), ds = [.tup (cs.map D.int), .tup (es.map evD)] ∧ cs.length ≤ 20000 ∧ es.length ≤ 90000 ∧ evOk cs.length es ∧
  ∀ (l nw : Addr) (pl : List Int) (M' : Mem), M l = none → M nw = none → l ≠ nw → M' l = some (.lst ((updE cs (fl es)).map D.int)) → M' nw = some (.lst ((updE cs es).map D.int)) → (∀ x ∈ pl, x ∈ pend es) → (∀ b, b ≠ l → b ≠ nw → M' b = M b) →
    Ψ (.lst [.ref l, .lst (pl.map D.int), .ref nw]) M'
theorem ok__law_lasting (T : Txt P K mg a) (Df : Defs K a fd) : FnG P w K mg base 1 a._law_lasting fd._law_lasting ps__law_lasting (lift K a_lasting) := by
  refine okG Df._law_lasting sc__law_lasting (fun ds M Ψ Χ ⟨_, _, h, _⟩ => by subst h; rfl) fun cdv A outer s H E hr hg => ?_
  refine ⟨_, (pss_cons (ps_asg (pe_tup (pa_cons (pe_callTy call_list_of (by rfl) T.n_list (by decide +kernel) (pa_cons (pv 0) pa_nil)) (pa_cons (pe_callTy call_list_of (by rfl) T.n_list (by decide +kernel) (pa_cons (pv 0) pa_nil)) (pa_cons (pe_lst pa_nil) pa_nil)))) (pg_tup rfl (pgs_cons (pg_name (i := 2) sc__law_lasting.nd rfl (Or.inl rfl)) (pgs_cons (pg_name (i := 3) sc__law_lasting.nd rfl (Or.inl rfl)) (pgs_cons (pg_name (i := 4) sc__law_lasting.nd rfl (Or.inr rfl)) pgs_nil)))))
      (pss_cons (ps_for (passes_of rfl) rfl (pi_tup (pv 1)) (pg_name (i := 5) sc__law_lasting.nd rfl (Or.inl rfl))
      (pss_one (ps_if (pt_cmpR op_isN (pv 5) pe_non (nomark _))
      (pss_cons (ps_for (passes_of rfl) rfl (pi_list (pv 4)) (pg_name (i := 6) sc__law_lasting.nd rfl (Or.inl rfl))
      (pss_one (ps_asg (pe_ix ix_seq (pv 2) (pv 6) (fun _ _ => rfl)) (pg_sub (pv 3) (pv 6) set_list))))
      (pss_one (ps_set (i := 4) sc__law_lasting.nd rfl (Or.inr rfl) (pe_lst pa_nil))))
      (pss_cons (ps_asg (pe_ix ix_seq (pv 5) pe_int (fun _ _ => rfl)) (pg_sub (pv 2) (pe_ix ix_seq (pv 5) pe_int (fun _ _ => rfl)) set_list))
      (pss_one (ps_expr (pe_bm PySem.F.plainAttrs_list PySem.F.slot_list_append PySem.F.type_list_append mt_append (pv 4) (pa_cons (pe_ix ix_seq (pv 5) pe_int (fun _ _ => rfl)) pa_nil))))))))
      (pss_one (ps_ret (pe_lst (pa_cons (pv 3) (pa_cons (pe_lc (own := [("_law_at", 6)]) rfl sc__law_lasting.nd (pi_range1 (by rfl) T.n_range (pa_cons (pe_callB call_len (by rfl) T.n_len (by decide +kernel) (pa_cons (pv 0) pa_nil)) pa_nil)) (blkOk_by (own := [("_law_at", 6)]) (N := N__law_lasting) (sc := defScope s__law_lasting) (by decide +kernel)) (fun _ _ _ _ _ => (pg_name (i := 6) sc__law_lasting.nd rfl (Or.inl rfl))) (fun _ _ _ _ _ => (pts_one (pt_cmpR (r := rIn K false) op_in_seq (pv 6) (pv 4) (by rfl)))) (fun _ _ _ _ _ => (pv 6))) (pa_cons (pv 2) pa_nil)))))))), ?_⟩
  rintro ds M Ψ Χ ⟨cs, es, rfl, hcl, hel, hev, hk⟩
  refine as_seq (as_asg (ae_tup (aa_cons ?_)))
  repeat walk_at "st"
  refine arl_listT fun nw hnw => ?_
  repeat walk_at "st"
  refine arl_listT fun l hl => ?_
  refine aa_cons (ae_lstM (aa_nil ⟨by simp, fun pd hpd => ?_⟩))
  have nwl : nw ≠ l := fun z => by rw [← z, Mem.set_same] at hl; cases hl
  have pdl : pd ≠ l := fun z => by rw [z, Mem.set_same] at hpd; cases hpd
  have pdn : pd ≠ nw := fun z => by rw [z, Mem.set_ne nwl, Mem.set_same] at hpd; cases hpd
  rw [Mem.set_ne pdl, Mem.set_ne pdn] at hpd
  rw [Mem.set_ne (Ne.symm nwl)] at hl
  repeat walk_at "st"
  refine ⟨by simp, ag_of [2, 3, 4] (agc_tup rfl (agcs_cons (agc_name (by decide) (agcs_cons (agc_name (by decide) (agcs_cons (agc_name (by decide) (agcs_nil ?_))))))))⟩
  refine as_seqP (fun Δ' M' => ∃ (pd : Addr) (u v : Option D), Δ' = [some (.tup (cs.map D.int)), some (.tup (es.map evD)), some (.ref nw), some (.ref l), some (.ref pd), u, v] ∧ M pd = none ∧ pd ≠ l ∧ pd ≠ nw ∧ M' nw = some (.lst ((updE cs es).map D.int)) ∧
    M' l = some (.lst ((updE cs (fl es)).map D.int)) ∧ M' pd = some (.lst ((pend es).map D.int)) ∧ ∀ b, b ≠ l → b ≠ nw → b ≠ pd → M' b = M b) ?_ ?_
  · refine as_for (ai_tup ?_)
    repeat walk_at "st"
    refine ⟨fun i Δ' M' => ∃ (pd : Addr) (u v : Option D), Δ' = [some (.tup (cs.map D.int)), some (.tup (es.map evD)), some (.ref nw), some (.ref l), some (.ref pd), u, v] ∧ M pd = none ∧ pd ≠ l ∧ pd ≠ nw ∧ M' nw = some (.lst ((updE cs (es.take i)).map D.int)) ∧
      M' l = some (.lst ((updE cs (fl (es.take i))).map D.int)) ∧ M' pd = some (.lst ((pend (es.take i)).map D.int)) ∧ ∀ b, b ≠ l → b ≠ nw → b ≠ pd → M' b = M b,
      ⟨pd, _, _, rfl, hpd, pdl, pdn, ?_, ?_, Mem.set_same, fun b x y z => by rw [Mem.set_ne z, Mem.set_ne x, Mem.set_ne y]⟩, ?_, ?_⟩
    · rw [Mem.set_ne (Ne.symm pdn), Mem.set_ne nwl, Mem.set_same]
      rfl
    · rw [Mem.set_ne (Ne.symm pdl), Mem.set_same]
      rfl
    · clear hpd pdl pdn pd
      rintro i d Δ' M' hx ⟨pd, u, v, rfl, hpd, pdl, pdn, mn, ml, mp, bt⟩
      rw [List.getElem?_map] at hx
      obtain ⟨e, hex, rfl⟩ := Option.map_eq_some_iff.mp hx
      have htk := take_snoc hex
      have hev' : evOk cs.length (es.take i) := fun x o z => hev x o (List.mem_of_mem_take z)
      have hpk := pend_ok hev'
      have hpl := pend_len (es.take i)
      have htl : (es.take i).length ≤ es.length := by rw [List.length_take]; omega
      refine ag_name ?_
      repeat walk_at "st"
      refine ar_isN ?_
      cases e with
      | none =>
        refine ⟨true, rfl, ite3 (fun _ => ?_) fun z => by cases z⟩
        have h1 : updE cs (es.take (i + 1)) = updE cs (es.take i) := by rw [htk]; exact updE_snoc _ _ _
        have h2 : updE cs (fl (es.take (i + 1))) = updE cs (es.take i) := by rw [htk, fl_none]; exact updE_snoc _ _ _
        have h3 : pend (es.take (i + 1)) = [] := by rw [htk, pend_snoc]
        have hout : ∀ j : Nat, (j : Int) ∉ pend (es.take i) → (updE cs (fl (es.take i)))[j]? = (updE cs (es.take i))[j]? := fun j hj => out_pend _ hev' hj
        have hl1 : (updE cs (es.take i)).length = cs.length := updE_len _ _
        have hl2 : (updE cs (fl (es.take i))).length = cs.length := updE_len _ _
        generalize updE cs (es.take i) = now at mn hout hl1 h1 h2
        generalize updE cs (fl (es.take i)) = las at ml hout hl2
        generalize pend (es.take i) = P at mp hpk hpl hout
        refine as_frz (i := 4) (p := pd) (M0 := M'.del pd) rfl mp (fun x m hx => ?_) Mem.del_same ?_
        · by_cases hxp : x = pd
          · rw [hxp, Mem.del_same] at hx; cases hx
          · rw [Mem.del_ne hxp] at hx; exact hx
        have mn0 : (M'.del pd) nw = some (.lst (now.map D.int)) := (Mem.del_ne (Ne.symm pdn)).trans mn
        have ml0 : (M'.del pd) l = some (.lst (las.map D.int)) := (Mem.del_ne (Ne.symm pdl)).trans ml
        have bt0 : ∀ b, b ≠ l → b ≠ nw → (M'.del pd) b = M b := fun b x y => by
          by_cases hb : b = pd
          · rw [hb, Mem.del_same, hpd]
          · rw [Mem.del_ne hb]; exact bt b x y hb
        generalize M'.del pd = M0 at mn0 ml0 bt0
        refine as_seq (as_for (ai_lst ?_))
        repeat walk_at "st"
        refine ⟨fun k Δ2 M2 => (∃ w, Δ2 = [some (.tup (cs.map D.int)), some (.tup (es.map evD)), some (.ref nw), some (.ref l), some (.lst (P.map D.int)), some .non, w]) ∧ M2 nw = some (.lst (now.map D.int)) ∧ (∀ b, b ≠ l → b ≠ nw → M2 b = M b) ∧
          ∃ L : List Int, M2 l = some (.lst (L.map D.int)) ∧ L.length = cs.length ∧ ∀ j : Nat, L[j]? = if (j : Int) ∈ P.take k then now[j]? else las[j]?, ⟨⟨_, rfl⟩, mn0, bt0, las, ml0, hl2, fun j => by simp⟩, ?_, ?_⟩
        · rintro k d Δ2 M2 hx2 ⟨⟨w, rfl⟩, mn2, bt2, L, ml2, hLl, hL⟩
          rw [List.getElem?_map] at hx2
          obtain ⟨x, hxp, rfl⟩ := Option.map_eq_some_iff.mp hx2
          have hxk := hpk x (List.mem_of_getElem? hxp)
          obtain ⟨nx, hnx⟩ : ∃ nx, now[x.toNat]? = some nx := ⟨_, List.getElem?_eq_getElem (by omega)⟩
          refine ag_name ?_
          repeat walk_at "st"
          refine ar_ix_L (ar_ixM mn2 (atI_int hxk.1 (by rw [List.getElem?_map, hnx]; rfl)) ?_)
          refine ag_sub ?_
          repeat walk_at "st"
          refine ⟨l, _, x, x.toNat, rfl, rfl, ml2, ixN_of hxk.1 (by rw [List.length_map]; omega), ⟨⟨_, rfl⟩, (Mem.set_ne nwl).trans mn2, fun b y z => (Mem.set_ne y).trans (bt2 b y z), L.set x.toNat nx, by rw [Mem.set_same, map_set], by rw [List.length_set]; exact hLl, fun j => ?_⟩⟩
          rw [take_snoc hxp]
          simp only [List.mem_append, List.mem_singleton]
          by_cases hj : (j : Int) = x
          · rw [if_pos (.inr hj), show j = x.toNat by omega, List.getElem?_set_self (by omega), hnx]
          · rw [List.getElem?_set_ne (by omega), hL]
            simp [hj]
        · rintro Δ2 M2 ⟨⟨w, rfl⟩, mn2, bt2, L, ml2, hLl, hL⟩
          rw [List.length_map, List.take_length] at hL
          have eL : L = now := by
            refine List.ext_getElem? fun j => ?_
            rw [hL j]
            by_cases hj : (j : Int) ∈ P
            · rw [if_pos hj]
            · rw [if_neg hj]; exact hout j hj
          subst eL
          repeat walk_at "st"
          refine ae_lstM (aa_nil ⟨by simp, fun q hq => ?_⟩)
          have ql : q ≠ l := fun z => by rw [z, ml2] at hq; cases hq
          have qn : q ≠ nw := fun z => by rw [z, mn2] at hq; cases hq
          exact ⟨q, _, _, rfl, by rw [← bt2 q ql qn]; exact hq, ql, qn, by rw [h1]; exact (Mem.set_ne (Ne.symm qn)).trans mn2, by rw [h2]; exact (Mem.set_ne (Ne.symm ql)).trans ml2, by rw [h3]; exact Mem.set_same, fun b x y z => (Mem.set_ne z).trans (bt2 b x y)⟩
      | some e =>
        obtain ⟨y, o⟩ := e
        have hy := hev y o (List.mem_of_getElem? hex)
        refine ⟨false, rfl, ite3 (fun z => by cases z) fun _ => ?_⟩
        have h1 : updE cs (es.take (i + 1)) = (updE cs (es.take i)).set y.toNat o := by rw [htk]; exact updE_snoc _ _ _
        have h2 : updE cs (fl (es.take (i + 1))) = updE cs (fl (es.take i)) := by rw [htk, fl_some]
        have h3 : pend (es.take (i + 1)) = pend (es.take i) ++ [y] := by rw [htk, pend_snoc]
        repeat walk_at "st"
        refine ar_ix_T (ar_ixT (ds := [.int y, .int o]) rfl ?_)
        refine ag_sub ?_
        repeat walk_at "st"
        refine ar_ix_T (ar_ixT (ds := [.int y, .int o]) rfl ?_)
        refine ⟨nw, _, y, y.toNat, rfl, rfl, mn, ixN_of hy.1 (by rw [List.length_map, updE_len]; exact hy.2), ?_⟩
        repeat walk_at "st"
        refine ae_append ?_
        repeat walk_at "st"
        refine ⟨pd, _, rfl, (Mem.set_ne pdn).trans mp, ?_⟩
        repeat walk_at "st"
        refine ar_ix_T (ar_ixT (ds := [.int y, .int o]) rfl ?_)
        refine ⟨_, (Mem.set_ne pdn).trans mp, by rw [List.length_map]; omega, ?_⟩
        refine ⟨pd, _, _, rfl, hpd, pdl, pdn, ?_, ?_, by rw [h3, Mem.set_same, List.map_append]; rfl, fun b x y z => by rw [Mem.set_ne z, Mem.set_ne y]; exact bt b x y z⟩
        · rw [h1, Mem.set_ne (Ne.symm pdn), Mem.set_same, map_set]
        · rw [h2, Mem.set_ne (Ne.symm pdl), Mem.set_ne (Ne.symm nwl)]; exact ml
    · rintro Δ' M' ⟨pd, u, v, rfl, h⟩
      rw [List.length_map, List.take_length] at h
      exact ⟨pd, u, v, rfl, h⟩
  clear hpd pdl pdn pd
  rintro Δ' M' ⟨pd, u, v, rfl, hpd, pdl, pdn, mn, ml, mp, bt⟩
  refine as_frz (i := 4) (p := pd) (M0 := M'.del pd) rfl mp (fun x m hx => ?_) Mem.del_same ?_
  · by_cases hxp : x = pd
    · rw [hxp, Mem.del_same] at hx; cases hx
    · rw [Mem.del_ne hxp] at hx; exact hx
  have mn0 : (M'.del pd) nw = some (.lst ((updE cs es).map D.int)) := (Mem.del_ne (Ne.symm pdn)).trans mn
  have ml0 : (M'.del pd) l = some (.lst ((updE cs (fl es)).map D.int)) := (Mem.del_ne (Ne.symm pdl)).trans ml
  have bt0 : ∀ b, b ≠ l → b ≠ nw → (M'.del pd) b = M b := fun b x y => by
    by_cases hb : b = pd
    · rw [hb, Mem.del_same, hpd]
    · rw [Mem.del_ne hb]; exact bt b x y hb
  generalize M'.del pd = M0 at mn0 ml0 bt0
  repeat walk_at "st"
  refine ae_lst ?_
  repeat walk_at "st"
  refine ae_lcP (ai_rng1 ?_)
  repeat walk_at "st"
  refine arl_lenT ?_
  repeat walk_at "st"
  rw [List.length_map]
  refine ⟨by omega, by rw [rngD_length]; omega, fun d => decide (iv d ∈ pend es), id, fun d M2 hd => ?_, ?_⟩
  · obtain ⟨j, hj⟩ := List.mem_iff_getElem?.mp hd
    obtain ⟨_, rfl⟩ := rngD_get hj
    refine agc_name (by decide) ⟨rfl, ?_⟩
    repeat walk_at "st"
    refine ar_inL rfl (flat_ints (pend es)) ?_
    rw [if_neg Bool.false_ne_true, inD_ints]
    refine ⟨_, rfl, rfl, rfl, fun _ => ?_⟩
    repeat walk_at "st"
    exact ⟨rfl, rfl⟩
  · have e : ((rngD 0 (cs.length : Int).toNat).filter fun d => decide (iv d ∈ pend es)).map id = (((List.range (cs.length : Int).toNat).map fun i : Nat => ((0 : Int) + (i : Int))).filter fun x => decide (x ∈ pend es)).map D.int := by
      unfold rngD
      rw [List.map_id, List.filter_map, List.filter_map, List.map_map]
      rfl
    rw [e]
    repeat walk_at "st"
    refine ⟨by simp, hk l nw _ M0 hl hnw (Ne.symm nwl) ml0 mn0 (fun x hx => ?_) bt0⟩
    exact of_decide_eq_true (List.mem_filter.mp hx).2
end
end K60
namespace K60
open PySem PySem.Spec PyProof.Rows L2 RZ T2
local macro_rules | `(tactic| walk_at "st") => `(tactic| first
  | with_reducible refine as_seq ?_ | with_reducible refine as_if ?_ | with_reducible refine as_ret ?_ | with_reducible refine as_set ?_ | with_reducible refine as_drop ?_ | with_reducible refine as_next ?_
  | with_reducible refine as_asg ?_ | with_reducible refine as_retN ?_ | with_reducible refine as_brk ?_ | with_reducible refine as_cont ?_
  | with_reducible refine at_test ?_ | with_reducible refine at_B ?_ | with_reducible refine at_and ?_ | with_reducible refine at_or ?_ | with_reducible refine at_not ?_ | with_reducible refine at_yes ?_
  | with_reducible refine ae_op ?_ | with_reducible refine ae_un ?_ | with_reducible refine ae_cb ?_ | with_reducible refine aa_cons ?_ | with_reducible refine aa_nil ?_ | with_reducible refine ae_if ?_
  | with_reducible refine ae_andV ?_ | with_reducible refine ae_orV ?_ | with_reducible refine ae_notV ?_ | with_reducible refine ae_chain ?_
  | with_reducible refine ae_int ?_ | with_reducible refine ae_str ?_ | with_reducible refine ae_bl ?_ | with_reducible refine ae_non ?_ | with_reducible refine ae_ty ?_ | with_reducible refine ae_ref ?_
  | refine ae_varX rfl ?_ | refine ae_var rfl ?_
  | with_reducible refine ar_add ?_ | with_reducible refine ar_sub ?_ | with_reducible refine ar_lt ?_ | with_reducible refine ar_le ?_ | with_reducible refine ar_gt ?_ | with_reducible refine ar_ge ?_
  | with_reducible refine ar_eqI ?_ | with_reducible refine ar_neI ?_
  | with_reducible refine ⟨_, rfl, ?_⟩
  | refine ae_callG ?_ | refine ae_methG ?_)
section
variable {P : Program} {w : World} {K : PySem.W.Frag} {mg : Str → Option Value} {base : Heap} {a : Ad} {fd : Fds}
def evB (es : List Ev) : Prop := ∀ x o, some (x, o) ∈ es → 0 ≤ o ∧ o < 256
theorem Oct.updE {cs : List Int} {es : List Ev} (h : Oct cs) (hb : evB es) : Oct (updE cs es) := by
  induction es generalizing cs with
  | nil => exact h
  | cons e es ih =>
    cases e with
    | none => exact ih h fun x o z => hb x o (List.mem_cons_of_mem _ z)
    | some e =>
      obtain ⟨x, o⟩ := e
      exact ih (h.set (hb x o (List.mem_cons_self ..))) fun x o z => hb x o (List.mem_cons_of_mem _ z)
/-- what a cut may leave -/
structure Left (cs : List Int) (es : List Ev) (cs' : List Int) : Prop where
  len : cs'.length = cs.length
  oct : Oct cs'
  out : ∀ j : Nat, (j : Int) ∉ pend es → cs'[j]? = (updE cs (fl es))[j]?
theorem fl_B {es : List Ev} (h : evB es) : evB (fl es) := fun x o z => h x o (by
  unfold fl at z
  rw [List.mem_reverse] at z
  have := (List.dropWhile_sublist _).subset z
  rwa [List.mem_reverse] at this)
structure LI (h c l nw : Addr) (cs : List Int) (es : List Ev) (M M' : Mem) : Prop where
  R : Rng h c M'
  mn : M' nw = some (.lst ((updE cs es).map T2.D.int))
  bt : ∀ b, b ≠ h → b ≠ c → b ≠ l → b ≠ nw → M' b = M b
  ex : ∃ L, M' l = some (.lst (L.map T2.D.int)) ∧ Left cs es L
theorem LI.draw {h c l nw : Addr} {cs : List Int} {es : List Ev} {M M' M2 : Mem} (I : LI h c l nw cs es M M') (n1 : l ≠ h) (n2 : l ≠ c) (n3 : nw ≠ h) (n4 : nw ≠ c) (R : Rng h c M2) (b : But2 h c M' M2) : LI h c l nw cs es M M2 :=
  ⟨R, (b nw n3 n4).trans I.mn, fun x y z u v => (b x y z).trans (I.bt x y z u v), let ⟨L, a, q⟩ := I.ex; ⟨L, (b l n1 n2).trans a, q⟩⟩
theorem LI.put {h c l nw : Addr} {cs L : List Int} {es : List Ev} {M M' : Mem} {x v : Int} (I : LI h c l nw cs es M M') (hL : M' l = some (.lst (L.map T2.D.int))) (q : Left cs es L) (n1 : l ≠ h) (n2 : l ≠ c) (n5 : nw ≠ l) (hx : x ∈ pend es) (hv : 0 ≤ v ∧ v < 256) (x0 : 0 ≤ x) :
    LI h c l nw cs es M (M'.set l (.lst ((L.map T2.D.int).set x.toNat (.int v)))) := by
  refine ⟨I.R.set n1 n2, (Mem.set_ne n5).trans I.mn, fun b y z u w => (Mem.set_ne u).trans (I.bt b y z u w), L.set x.toNat v, by rw [Mem.set_same, map_set], by rw [List.length_set]; exact q.len, q.oct.set hv, fun j hj => ?_⟩
  rw [List.getElem?_set_ne (fun z => hj (by rw [← z, Int.toNat_of_nonneg x0]; exact hx)), q.out j hj]
abbrev a_left : ASp := fun ds M Ψ Χ => ∃ (h c : Addr) (cs : List Int) (es : List Ev), ds = [.ref h, .tup (cs.map D.int), .tup (es.map evD)] ∧ Rng h c M ∧ cs.length ≤ 20000 ∧ es.length ≤ 90000 ∧ evOk cs.length es ∧ evB es ∧ Oct cs ∧
  ∀ cs' M', Left cs es cs' → Rng h c M' → But2 h c M M' → Ψ (.tup (cs'.map D.int)) M'
theorem ok__law_left (T : Txt P K mg a) (Df : Defs K a fd) : FnG P w K mg base 4 a._law_left fd._law_left ps__law_left (lift K a_left) := by
  refine okG Df._law_left sc__law_left (fun ds M Ψ Χ ⟨_, _, _, _, h, _⟩ => by subst h; rfl) fun cdv A outer s H E hr hg => ?_
  refine ⟨_, (pss_cons (ps_asg (pg_call (ok__law_lasting T Df) (hr.mono (by decide)) hg (by rfl) T.g__law_lasting T.k__law_lasting (bd__law_lasting_2_ Df) (takes_of rfl rfl rfl rfl) (pa_cons (pv 1) (pa_cons (pv 2) pa_nil)) pk_nil) (pg_lst rfl (pgs_cons (pg_name (i := 3) sc__law_left.nd rfl (Or.inl rfl)) (pgs_cons (pg_name (i := 4) sc__law_left.nd rfl (Or.inl rfl)) (pgs_cons (pg_name (i := 5) sc__law_left.nd rfl (Or.inl rfl)) pgs_nil)))))
      (pss_cons (ps_set (i := 6) sc__law_left.nd rfl (Or.inl rfl) (pg_call (ok__law_draw T Df) (hr.mono (by decide)) hg (by rfl) T.g__law_draw T.k__law_draw (bd__law_draw_2_ Df) (takes_of rfl rfl rfl rfl) (pa_cons (pv 0) (pa_cons pe_int pa_nil)) pk_nil))
      (pss_cons (ps_for (passes_of rfl) rfl (pi_list (pv 4)) (pg_name (i := 7) sc__law_left.nd rfl (Or.inl rfl))
      (pss_one (ps_if (PW.pt (pw_or (pt_cmpR op_eq (pv 6) pe_int (nomark _)) (pw_or1 (PW.pt (pw_and (pt_cmpR op_gt (pv 6) pe_int (nomark _)) (pw_and1 (pt_cmpR op_eq (pg_call (ok__law_draw T Df) (hr.mono (by decide)) hg (by rfl) T.g__law_draw T.k__law_draw (bd__law_draw_2_ Df) (takes_of rfl rfl rfl rfl) (pa_cons (pv 0) (pa_cons pe_int pa_nil)) pk_nil) pe_int (nomark _))))))))
      (pss_one (ps_asg (pe_ix ix_seq (pv 5) (pv 7) (fun _ _ => rfl)) (pg_sub (pv 3) (pv 7) set_list)))
      (pss_one (ps_if (pt_cmpR op_eq (pv 6) pe_int (nomark _))
      (pss_one (ps_asg (pe_op op_sub pe_int (pe_ix ix_seq (pv 5) (pv 7) (fun _ _ => rfl))) (pg_sub (pv 3) (pv 7) set_list)))
      (pss_one (ps_if (PW.pt (pw_or (pt_cmpR op_eq (pv 6) pe_int (nomark _)) (pw_or1 (pt_cmpR op_eq (pv 6) pe_int (nomark _)))))
      (pss_one (ps_asg (pg_call (ok__law_octet T Df) (hr.mono (by decide)) hg (by rfl) T.g__law_octet T.k__law_octet (bd__law_octet_1_ Df) (takes_of rfl rfl rfl rfl) (pa_cons (pv 0) pa_nil) pk_nil) (pg_sub (pv 3) (pv 7) set_list)))
      pss_nil)))))))
      (pss_one (ps_ret (pe_callTy call_tuple_of (by rfl) T.n_tuple (by decide +kernel) (pa_cons (pv 3) pa_nil))))))), ?_⟩
  rintro ds M Ψ Χ ⟨h, c, cs, es, rfl, R, hcl, hel, hev, hevb, hco, hk⟩
  refine as_seq (as_asg ?_)
  repeat walk_at "st"
  refine ⟨rfl, rfl, cs, es, rfl, hcl, hel, hev, fun l nw pl M1 hl hnw lnw ml mn hpl bt => ?_⟩
  obtain ⟨n1, n2⟩ := R.fresh hl
  obtain ⟨n3, n4⟩ := R.fresh hnw
  have R1 : Rng h c M1 := R.of (bt h (Ne.symm n1) (Ne.symm n3)) (bt c (Ne.symm n2) (Ne.symm n4))
  have hnow : Oct (updE cs es) := hco.updE hevb
  have hpk := pend_ok hev
  have I1 : LI h c l nw cs es M M1 := ⟨R1, mn, fun b _ _ y z => bt b y z, _, ml, updE_len _ _, hco.updE (fl_B hevb), fun _ _ => rfl⟩
  clear ml mn bt R1
  refine ag_of [3, 4, 5] (agc_lst rfl (agcs_cons (agc_name (by decide) (agcs_cons (agc_name (by decide) (agcs_cons (agc_name (by decide) (agcs_nil ?_))))))))
  repeat walk_at "st"
  refine ⟨rfl, rfl, h, c, _, rfl, I1.R, by decide, by decide, fun way M2 w0 w1 R2 b2 => ?_⟩
  have I2 := I1.draw n1 n2 n3 n4 R2 b2
  refine as_seq (as_for (ai_lst ?_))
  repeat walk_at "st"
  refine ⟨fun k Δ' M' => (∃ u, Δ' = [some (.ref h), some (.tup (cs.map D.int)), some (.tup (es.map evD)), some (.ref l), some (.lst (pl.map D.int)), some (.ref nw), some (.int way), u]) ∧ LI h c l nw cs es M M', ⟨⟨_, rfl⟩, I2⟩, ?_, ?_⟩
  · rintro k d Δ' M' hx ⟨⟨u, rfl⟩, I⟩
    rw [List.getElem?_map] at hx
    obtain ⟨x, hxp, rfl⟩ := Option.map_eq_some_iff.mp hx
    have hxe := hpl x (List.mem_of_getElem? hxp)
    have hxk := hpk x hxe
    obtain ⟨nx, hnx⟩ : ∃ nx, (updE cs es)[x.toNat]? = some nx := ⟨_, List.getElem?_eq_getElem (by rw [updE_len]; omega)⟩
    have bnx := hnow nx (List.mem_of_getElem? hnx)
    refine ag_name ?_
    -- the three ways and none
    have copy : ∀ M3, LI h c l nw cs es M M3 → AE K (fun cls d _ H => E cls d H) (fun c f M' => Χ c f M') [some (.ref h), some (.tup (cs.map D.int)), some (.tup (es.map evD)), some (.ref l), some (.lst (pl.map D.int)), some (.ref nw), some (.int way), some (.int x)] (tOp (rIx K) (tVar 5) (tVar 7)) M3 fun d M4 => d = .int nx ∧ M4 = M3 := by
      intro M3 I3
      repeat walk_at "st"
      exact ar_ix_L (ar_ixM I3.mn (atI_int hxk.1 (by rw [List.getElem?_map, hnx]; rfl)) ⟨rfl, rfl⟩)
    have fin : ∀ (v : Int) M3, LI h c l nw cs es M M3 → 0 ≤ v ∧ v < 256 → AG K (fun cls d _ H => E cls d H) (fun c g _ M' => Χ c g M') (gSub (tVar 3) (tVar 7) L2.rSetL) (.int v) [some (.ref h), some (.tup (cs.map D.int)), some (.tup (es.map evD)), some (.ref l), some (.lst (pl.map D.int)), some (.ref nw), some (.int way), some (.int x)] M3
        (fun Δ' M' => (∃ u, Δ' = [some (.ref h), some (.tup (cs.map D.int)), some (.tup (es.map evD)), some (.ref l), some (.lst (pl.map D.int)), some (.ref nw), some (.int way), u]) ∧ LI h c l nw cs es M M') := by
      intro v M3 I3 hv
      obtain ⟨L, hL, q⟩ := I3.ex
      refine ag_sub ?_
      repeat walk_at "st"
      exact ⟨l, _, x, x.toNat, rfl, rfl, hL, ixN_of hxk.1 (by rw [List.length_map, q.len]; exact hxk.2), ⟨_, rfl⟩, I3.put hL q n1 n2 (Ne.symm lnw) hxe hv hxk.1⟩
    have two : ∀ M3, LI h c l nw cs es M M3 → AS K (fun cls d _ H => E cls d H) (tAsg (tOp (rIx K) (tVar 5) (tVar 7)) (gSub (tVar 3) (tVar 7) L2.rSetL)) { nx := (fun Δ' M' => (∃ u, Δ' = [some (.ref h), some (.tup (cs.map D.int)), some (.tup (es.map evD)), some (.ref l), some (.lst (pl.map D.int)), some (.ref nw), some (.int way), u]) ∧ LI h c l nw cs es M M'), rt := fun _ _ => False, xr := fun c g _ M' => Χ c g M' }
        [some (.ref h), some (.tup (cs.map D.int)), some (.tup (es.map evD)), some (.ref l), some (.lst (pl.map D.int)), some (.ref nw), some (.int way), some (.int x)] M3 := fun M3 I3 =>
      as_asg ((copy M3 I3).mono fun d M4 ⟨e1, e2⟩ => by subst e1 e2; exact fin nx _ I3 bnx)
    refine as_if (at_or ?_)
    repeat walk_at "st"
    refine ite3 (fun hw => ?_) (fun hw => ?_)
    · rw [if_pos rfl]
      exact (two M' I).mono (fun _ _ z => z) (fun _ _ z => z.elim) (fun _ _ z => z.elim) (fun _ _ z => z.elim) fun _ _ _ _ z => z
    · have rest : ∀ M3, LI h c l nw cs es M M3 → AS K (fun cls d _ H => E cls d H) (tIfS (tTest (tOp rEq (tVar 6) (tC (.int 1)))) (tAsg (tOp (rI0 fun i j => V.int (i - j)) (tC (.int 255)) (tOp (rIx K) (tVar 5) (tVar 7))) (gSub (tVar 3) (tVar 7) L2.rSetL))
          (tIfS (tOr (tTest (tOp rEq (tVar 6) (tC (.int 2)))) (tTest (tOp rEq (tVar 6) (tC (.int 5))))) (tAsg (tCallG (lift K a_octet) 1 ([] : List Str).length [0] (fun cls d _ H => E cls d H) (tCons (tVar 0) tNil) tNil) (gSub (tVar 3) (tVar 7) L2.rSetL)) tNext))
          { nx := (fun Δ' M' => (∃ u, Δ' = [some (.ref h), some (.tup (cs.map D.int)), some (.tup (es.map evD)), some (.ref l), some (.lst (pl.map D.int)), some (.ref nw), some (.int way), u]) ∧ LI h c l nw cs es M M'), rt := fun _ _ => False, xr := fun c g _ M' => Χ c g M' }
          [some (.ref h), some (.tup (cs.map D.int)), some (.tup (es.map evD)), some (.ref l), some (.lst (pl.map D.int)), some (.ref nw), some (.int way), some (.int x)] M3 := by
        intro M3 I3
        refine as_if ?_
        repeat walk_at "st"
        refine ite3 (fun _ => ?_) (fun _ => ?_)
        · refine as_asg ?_
          repeat walk_at "st"
          refine ar_ix_L (ar_ixM I3.mn (atI_int hxk.1 (by rw [List.getElem?_map, hnx]; rfl)) ?_)
          refine ar_sub ?_
          exact fin (255 - nx) M3 I3 ⟨by omega, by omega⟩
        · have oct : AS K (fun cls d _ H => E cls d H) (tAsg (tCallG (lift K a_octet) 1 ([] : List Str).length [0] (fun cls d _ H => E cls d H) (tCons (tVar 0) tNil) tNil) (gSub (tVar 3) (tVar 7) L2.rSetL))
              { nx := (fun Δ' M' => (∃ u, Δ' = [some (.ref h), some (.tup (cs.map D.int)), some (.tup (es.map evD)), some (.ref l), some (.lst (pl.map D.int)), some (.ref nw), some (.int way), u]) ∧ LI h c l nw cs es M M'), rt := fun _ _ => False, xr := fun c g _ M' => Χ c g M' }
              [some (.ref h), some (.tup (cs.map D.int)), some (.tup (es.map evD)), some (.ref l), some (.lst (pl.map D.int)), some (.ref nw), some (.int way), some (.int x)] M3 := by
            refine as_asg ?_
            repeat walk_at "st"
            exact ⟨rfl, rfl, h, c, rfl, I3.R, fun v M4 v0 v1 R4 b4 => fin v M4 (I3.draw n1 n2 n3 n4 R4 b4) ⟨v0, v1⟩⟩
          refine as_if (at_or ?_)
          repeat walk_at "st"
          refine ite3 (fun _ => ?_) (fun _ => ?_)
          · rw [if_pos rfl]
            exact oct
          · repeat walk_at "st"
            refine ite3 (fun _ => oct) (fun _ => as_next ⟨⟨_, rfl⟩, I3⟩)
      repeat walk_at "st"
      refine ite3 (fun _ => ?_) (fun _ => ?_)
      · repeat walk_at "st"
        refine ⟨rfl, rfl, h, c, _, rfl, I.R, by decide, by decide, fun y M3 y0 y1 R3 b3 => ?_⟩
        have I3 := I.draw n1 n2 n3 n4 R3 b3
        repeat walk_at "st"
        refine ite3 (fun _ => ?_) (fun _ => ?_)
        · exact (two M3 I3).mono (fun _ _ z => z) (fun _ _ z => z.elim) (fun _ _ z => z.elim) (fun _ _ z => z.elim) fun _ _ _ _ z => z
        · exact (rest M3 I3).mono (fun _ _ z => z) (fun _ _ z => z.elim) (fun _ _ z => z.elim) (fun _ _ z => z.elim) fun _ _ _ _ z => z
      · rw [if_neg Bool.false_ne_true]
        exact (rest M' I).mono (fun _ _ z => z) (fun _ _ z => z.elim) (fun _ _ z => z.elim) (fun _ _ z => z.elim) fun _ _ _ _ z => z
  · rintro Δ' M' ⟨⟨u, rfl⟩, I⟩
    obtain ⟨L, hL, q⟩ := I.ex
    refine as_ret (ae_fgt ?_)
    repeat walk_at "st"
    refine arl_tupM hL ⟨(M'.del l).del nw, fun b m hb => ?_, hk L _ q (I.R.of ?_ ?_) fun b x y => ?_⟩
    · by_cases h1 : b = nw
      · rw [h1, Mem.del_same] at hb; cases hb
      · rw [Mem.del_ne h1] at hb
        by_cases h2 : b = l
        · rw [h2, Mem.del_same] at hb; cases hb
        · rw [Mem.del_ne h2] at hb; exact hb
    · rw [Mem.del_ne (Ne.symm n3), Mem.del_ne (Ne.symm n1)]
    · rw [Mem.del_ne (Ne.symm n4), Mem.del_ne (Ne.symm n2)]
    · by_cases h1 : b = nw
      · rw [h1, Mem.del_same, hnw]
      · rw [Mem.del_ne h1]
        by_cases h2 : b = l
        · rw [h2, Mem.del_same, hl]
        · rw [Mem.del_ne h2]; exact I.bt b x y h2 h1
end
end K60
namespace K60
open PySem PySem.Spec PyProof.Rows L2 RZ T2
local macro_rules | `(tactic| walk_at "st") => `(tactic| first
  | with_reducible refine as_seq ?_ | with_reducible refine as_if ?_ | with_reducible refine as_ret ?_ | with_reducible refine as_set ?_ | with_reducible refine as_drop ?_ | with_reducible refine as_next ?_
  | with_reducible refine as_asg ?_ | with_reducible refine as_retN ?_ | with_reducible refine as_brk ?_ | with_reducible refine as_cont ?_
  | with_reducible refine at_test ?_ | with_reducible refine at_B ?_ | with_reducible refine at_and ?_ | with_reducible refine at_or ?_ | with_reducible refine at_not ?_ | with_reducible refine at_yes ?_
  | with_reducible refine ae_op ?_ | with_reducible refine ae_un ?_ | with_reducible refine ae_cb ?_ | with_reducible refine aa_cons ?_ | with_reducible refine aa_nil ?_ | with_reducible refine ae_if ?_
  | with_reducible refine ae_andV ?_ | with_reducible refine ae_orV ?_ | with_reducible refine ae_notV ?_ | with_reducible refine ae_chain ?_
  | with_reducible refine ae_int ?_ | with_reducible refine ae_str ?_ | with_reducible refine ae_bl ?_ | with_reducible refine ae_non ?_ | with_reducible refine ae_ty ?_ | with_reducible refine ae_ref ?_
  | refine ae_varX rfl ?_ | refine ae_var rfl ?_
  | with_reducible refine ar_add ?_ | with_reducible refine ar_sub ?_ | with_reducible refine ar_lt ?_ | with_reducible refine ar_le ?_ | with_reducible refine ar_gt ?_ | with_reducible refine ar_ge ?_
  | with_reducible refine ar_eqI ?_ | with_reducible refine ar_neI ?_
  | with_reducible refine ⟨_, rfl, ?_⟩
  | refine ae_callG ?_ | refine ae_methG ?_)
section
variable {P : Program} {w : World} {K : PySem.W.Frag} {mg : Str → Option Value} {base : Heap} {a : Ad} {fd : Fds}
abbrev a_opened : ASp := fun ds M Ψ Χ => ∃ (cs : List Int) (rs : List (List Int)) (en : Nat), ds = [.tup (cs.map D.int)] ∧ Fine cs ∧ Par cs (hstart cs.length (sideOf cs + 1)) (hstart cs.length (sideOf cs)) rs en ∧ Ψ (.tup (rs.map recD)) M
theorem ok__law_opened (T : Txt P K mg a) (Df : Defs K a fd) : FnG P w K mg base 6 a._law_opened fd._law_opened ps__law_opened (lift K a_opened) := by
  refine okG Df._law_opened sc__law_opened (fun ds M Ψ Χ ⟨_, _, _, h, _⟩ => by subst h; rfl) fun cdv A outer s H E hr hg => ?_
  refine ⟨_, (pss_cons (ps_set (i := 1) sc__law_opened.nd rfl (Or.inl rfl) (pg_make T.mk_Disk (ok_Disk___init__ T Df) (hr.mono (by decide)) hg (by rfl) T.g_Disk (bd_Disk___init___2_ Df) (takes_of rfl rfl rfl rfl) (pa_cons (pv 0) pa_nil) pk_nil))
      (pss_cons (ps_set (i := 2) sc__law_opened.nd rfl (Or.inl rfl) (pg_meth0 (pg_make T.mk_Journal (ok_Journal___init__ T Df) (hr.mono (by decide)) hg (by rfl) T.g_Journal (bd_Journal___init___2_ Df) (takes_of rfl rfl rfl rfl) (pa_cons (pv 1) pa_nil) pk_nil) T.cl_Journal T.me_Journal_records (ok_Journal_records T Df) (hr.mono (by decide)) hg (bd_Journal_records_1_ Df) (takes_of rfl rfl rfl rfl) pk_nil))
      (pss_one (ps_ret (pe_ifExp (pt_cmpR (op_neD (hun64 hr)) (pg_meth0 (pv 1) T.cl_Disk T.me_Disk_events (ok_Disk_events T Df) (hr.mono (by decide)) hg (bd_Disk_events_1_ Df) (takes_of rfl rfl rfl rfl) pk_nil) (pe_tup pa_nil) (nomark _)) pe_non (pv 2)))))), ?_⟩
  rintro ds M Ψ Χ ⟨cs, rs, en, rfl, hf, hpar, k⟩
  refine as_seq (as_set (ae_frzI (ae_makeG ?_)))
  repeat walk_at "st"
  refine ⟨rfl, rfl, fun q hq => ⟨q, _, rfl, Mem.set_same, .inr ⟨cs, rfl, hf, fun o e M3 mk3 => ⟨rfl, q, a.Disk, _, M3.del q, rfl, mk3.mp, ?_, Mem.del_same, ?_⟩⟩⟩⟩
  · intro b m hb
    by_cases hx : b = q
    · rw [hx, Mem.del_same] at hb; cases hb
    · rw [Mem.del_ne hx] at hb; exact hb
  · have oq : o ≠ q := fun z => by have := mk3.no; rw [z, Mem.set_same] at this; cases this
    have eq : e ≠ q := fun z => by have := mk3.ne; rw [z, Mem.set_same] at this; cases this
    have mo : (M3.del q) o = some (.lst (cs.map D.int)) := (Mem.del_ne oq).trans mk3.mo
    have me : (M3.del q) e = some (.lst (([] : List Ev).map evD)) := (Mem.del_ne eq).trans mk3.me
    have no0 : M o = none := by have := mk3.no; rwa [Mem.set_ne oq] at this
    have ne0 : M e = none := by have := mk3.ne; rwa [Mem.set_ne eq] at this
    have bt : ∀ b, b ≠ o → b ≠ e → (M3.del q) b = M b := fun b x y => by
      by_cases hx : b = q
      · rw [hx, Mem.del_same, hq]
      · rw [Mem.del_ne hx, mk3.bt b hx x y, Mem.set_ne hx]
    generalize M3.del q = M4 at mo me bt
    refine as_seq (as_set (ae_methM (ae_makeG ?_)))
    repeat walk_at "st"
    refine ⟨rfl, rfl, fun p hp => ?_⟩
    have po : o ≠ p := fun z => by rw [← z, mo] at hp; cases hp
    have pe : e ≠ p := fun z => by rw [← z, me] at hp; cases hp
    have hp0 : M p = none := by rw [← bt p (Ne.symm po) (Ne.symm pe)]; exact hp
    refine ⟨p, o, e, cs.map D.int, cs, rfl, Mem.set_same, (Mem.set_ne po).trans mo, List.length_map .., hf.1, hf.2.1, hf.2.2, .inl ⟨rs, en, hpar, fun rl M5 hrl mp mr b5 => ⟨rfl, p, _, rfl, mp, rfl, ?_⟩⟩⟩
    have rp : rl ≠ p := fun z => by rw [z, Mem.set_same] at hrl; cases hrl
    rw [Mem.set_ne rp] at hrl
    have ro : rl ≠ o := fun z => by rw [z, mo] at hrl; cases hrl
    have re : rl ≠ e := fun z => by rw [z, me] at hrl; cases hrl
    have me5 : M5 e = some (.lst (([] : List Ev).map evD)) := by rw [b5 e pe (Ne.symm re), Mem.set_ne pe]; exact me
    have le : Le M M5 := fun b m hb => by
      have h1 : b ≠ o := fun z => by rw [z, no0] at hb; cases hb
      have h2 : b ≠ e := fun z => by rw [z, ne0] at hb; cases hb
      have h3 : b ≠ p := fun z => by rw [z, hp0] at hb; cases hb
      have h4 : b ≠ rl := fun z => by
        rw [z] at hb h1 h2
        rw [bt rl h1 h2, hb] at hrl
        cases hrl
      rw [b5 b h3 h4, Mem.set_ne h3, bt b h1 h2]
      exact hb
    repeat walk_at "st"
    refine ⟨rfl, rfl, p, rl, _, _, en, rs, rfl, mp, mr, ?_⟩
    refine as_ret (ae_fgt ?_)
    repeat walk_at "st"
    refine ⟨rfl, ?_⟩
    repeat walk_at "st"
    refine ⟨rfl, rfl, _, o, e, [], rfl, me5, ?_⟩
    refine ae_tup (aa_nil ⟨by simp, ?_⟩)
    refine ar_neD (x := .tup []) (y := .tup []) (n := 1) (m := 1) rfl rfl (by decide) (by decide) ?_
    refine ⟨false, rfl, ite3 (fun z => by cases z) fun _ => ?_⟩
    repeat walk_at "st"
    exact ⟨M, le, k⟩
end
end K60
namespace K60
open PySem PySem.Spec PyProof.Rows L2 RZ T2
local macro_rules | `(tactic| walk_at "st") => `(tactic| first
  | with_reducible refine as_seq ?_ | with_reducible refine as_if ?_ | with_reducible refine as_ret ?_ | with_reducible refine as_set ?_ | with_reducible refine as_drop ?_ | with_reducible refine as_next ?_
  | with_reducible refine as_asg ?_ | with_reducible refine as_retN ?_ | with_reducible refine as_brk ?_ | with_reducible refine as_cont ?_
  | with_reducible refine at_test ?_ | with_reducible refine at_B ?_ | with_reducible refine at_and ?_ | with_reducible refine at_or ?_ | with_reducible refine at_not ?_ | with_reducible refine at_yes ?_
  | with_reducible refine ae_op ?_ | with_reducible refine ae_un ?_ | with_reducible refine ae_cb ?_ | with_reducible refine aa_cons ?_ | with_reducible refine aa_nil ?_ | with_reducible refine ae_if ?_
  | with_reducible refine ae_andV ?_ | with_reducible refine ae_orV ?_ | with_reducible refine ae_notV ?_ | with_reducible refine ae_chain ?_
  | with_reducible refine ae_int ?_ | with_reducible refine ae_str ?_ | with_reducible refine ae_bl ?_ | with_reducible refine ae_non ?_ | with_reducible refine ae_ty ?_ | with_reducible refine ae_ref ?_
  | refine ae_varX rfl ?_ | refine ae_var rfl ?_
  | with_reducible refine ar_add ?_ | with_reducible refine ar_sub ?_ | with_reducible refine ar_lt ?_ | with_reducible refine ar_le ?_ | with_reducible refine ar_gt ?_ | with_reducible refine ar_ge ?_
  | with_reducible refine ar_eqI ?_ | with_reducible refine ar_neI ?_
  | with_reducible refine ⟨_, rfl, ?_⟩
  | refine ae_callG ?_ | refine ae_methG ?_)
section
variable {P : Program} {w : World} {K : PySem.W.Frag} {mg : Str → Option Value} {base : Heap} {a : Ad} {fd : Fds}
theorem fl_facts : ∀ es : List Ev, fl es = es.take (fl es).length ∧ (fl es).length ≤ es.length ∧ ((fl es).length = 0 ∨ es[(fl es).length - 1]? = some none) ∧ ∀ j : Nat, (fl es).length ≤ j → es[j]? ≠ some none := by
  refine rev_ind ⟨rfl, Nat.le_refl _, .inl rfl, fun j _ h => by cases h⟩ fun es e ⟨h1, h2, h3, h4⟩ => ?_
  cases e with
  | none =>
    rw [fl_none]
    refine ⟨by rw [List.take_length], Nat.le_refl _, .inr (by simp), fun j hj h => ?_⟩
    rw [List.getElem?_eq_none hj] at h
    cases h
  | some x =>
    rw [fl_some]
    refine ⟨by rw [List.take_append_of_le_length h2]; exact h1, by rw [List.length_append]; omega, ?_, fun j hj h => ?_⟩
    · rcases h3 with h3 | h3
      · exact .inl h3
      · refine .inr ?_
        rw [List.getElem?_append_left (List.getElem?_eq_some_iff.mp h3).1]
        exact h3
    · by_cases hjl : j < es.length
      · rw [List.getElem?_append_left hjl] at h
        exact h4 j hj h
      · rw [List.getElem?_append_right (by omega)] at h
        by_cases hz : j - es.length = 0
        · rw [hz] at h; cases h
        · rw [List.getElem?_eq_none (by simp; omega)] at h; cases h
theorem fl_max {es : List Ev} {m : Nat} (h1 : m = 0 ∨ es[m - 1]? = some none) (h2 : ∀ j : Nat, es[j]? = some none → j + 1 ≤ m) : m = (fl es).length := by
  obtain ⟨_, _, f3, f4⟩ := fl_facts es
  have a : (fl es).length ≤ m := by
    rcases f3 with f3 | f3
    · omega
    · have := h2 _ f3
      omega
  have b : m ≤ (fl es).length := by
    rcases h1 with h1 | h1
    · omega
    · by_cases hlt : (fl es).length ≤ m - 1
      · exact absurd h1 (f4 _ hlt)
      · omega
  omega
abbrev a_base : ASp := fun ds M Ψ Χ => ∃ (cs : List Int) (es : List Ev), ds = [.tup (cs.map D.int), .tup (es.map evD)] ∧ cs.length ≤ 20000 ∧ es.length ≤ 90000 ∧ evOk cs.length es ∧
  Ψ (.lst [.tup ((updE cs (fl es)).map D.int), .int ((fl es).length : Nat)]) M
theorem ok__law_base (T : Txt P K mg a) (Df : Defs K a fd) : FnG P w K mg base 1 a._law_base fd._law_base ps__law_base (lift K a_base) := by
  refine okG Df._law_base sc__law_base (fun ds M Ψ Χ ⟨_, _, h, _⟩ => by subst h; rfl) fun cdv A outer s H E hr hg => ?_
  refine ⟨_, (pss_cons (ps_par (i := 2) (j := 3) (by rfl) sc__law_base.nd rfl rfl (by decide) rfl rfl (pa_cons (pe_callB (cr_max rfl) (by rfl) T.n_max (by decide +kernel) (pa_cons (pe_op op_catL (pe_lst (pa_cons pe_int pa_nil)) (pe_lc (own := [("_law_at", 5)]) rfl sc__law_base.nd (pi_range1 (by rfl) T.n_range (pa_cons (pe_callB call_len (by rfl) T.n_len (by decide +kernel) (pa_cons (pv 1) pa_nil)) pa_nil)) (blkOk_by (own := [("_law_at", 5)]) (N := N__law_base) (sc := defScope s__law_base) (by decide +kernel)) (fun _ _ _ _ _ => (pg_name (i := 5) sc__law_base.nd rfl (Or.inl rfl))) (fun _ _ _ _ _ => (pts_one (pt_cmpR op_isN (pe_ix (r := rIx K) ix_seq (pv 1) (pv 5) (fun _ _ => rfl)) pe_non (nomark _)))) (fun _ _ _ _ _ => (pe_op op_add (pv 5) pe_int)))) pa_nil)) (pa_cons (pe_callTy call_list_of (by rfl) T.n_list (by decide +kernel) (pa_cons (pv 0) pa_nil)) pa_nil)) (by rfl))
      (pss_cons (ps_for (passes_of rfl) rfl (pi_tup (pe_slice sl_tupA (pv 1) po_none (po_some (pv 2)))) (pg_name (i := 4) sc__law_base.nd rfl (Or.inl rfl))
      (pss_one (ps_if (pt_cmpR op_notN (pv 4) pe_non (nomark _))
      (pss_one (ps_asg (pe_ix ix_seq (pv 4) pe_int (fun _ _ => rfl)) (pg_sub (pv 3) (pe_ix ix_seq (pv 4) pe_int (fun _ _ => rfl)) set_list)))
      pss_nil)))
      (pss_one (ps_ret (pe_lst (pa_cons (pe_callTy call_tuple_of (by rfl) T.n_tuple (by decide +kernel) (pa_cons (pv 3) pa_nil)) (pa_cons (pv 2) pa_nil))))))), ?_⟩
  rintro ds M Ψ Χ ⟨cs, es, rfl, hcl, hel, hev, hk⟩
  refine as_seq (as_par (aa_cons (ae_cb (aa_cons (ae_op (ae_lst (aa_cons (ae_int (aa_nil ⟨by simp, ?_⟩)))))))))
  refine ae_lcP (ai_rng1 ?_)
  repeat walk_at "st"
  refine arl_lenT ?_
  repeat walk_at "st"
  rw [List.length_map]
  refine ⟨by omega, by rw [rngD_length]; omega, fun d => decide (es[(iv d).toNat]? = some none), fun d => .int (iv d + 1), fun d M2 hd => ?_, ?_⟩
  · obtain ⟨j, hj⟩ := List.mem_iff_getElem?.mp hd
    obtain ⟨hj2, rfl⟩ := rngD_get hj
    have hj3 : j < es.length := by omega
    have hz : (0 + (j : Int)) = (j : Int) := by omega
    rw [hz]
    obtain ⟨e, he⟩ : ∃ e, es[j]? = some e := ⟨_, List.getElem?_eq_getElem hj3⟩
    refine agc_name (by decide) ⟨rfl, ?_⟩
    repeat walk_at "st"
    refine ar_ix_T (ar_ixT (atI_at (evs_get he)) ?_)
    repeat walk_at "st"
    refine ar_isN ?_
    have hb : isNon (evD e) = decide (es[(iv (D.int (j : Int))).toNat]? = some none) := by
      show _ = decide (es[((j : Int)).toNat]? = some none)
      rw [Int.toNat_natCast, he]
      cases e with
      | none => rfl
      | some e => obtain ⟨x, o⟩ := e; rfl
    refine ⟨_, rfl, rfl, hb, fun _ => ?_⟩
    repeat walk_at "st"
    exact ⟨rfl, rfl⟩
  · obtain ⟨nl, hnl⟩ : ∃ nl : List Int, nl = (((List.range (es.length : Int).toNat).map fun i : Nat => ((0 : Int) + (i : Int))).filter fun x => decide (es[x.toNat]? = some none)).map fun x => x + 1 := ⟨_, rfl⟩
    have e : ((rngD 0 (es.length : Int).toNat).filter fun d => decide (es[(iv d).toNat]? = some none)).map (fun d => D.int (iv d + 1)) = nl.map D.int := by
      rw [hnl]
      unfold rngD
      rw [List.filter_map, List.filter_map, List.map_map, List.map_map, List.map_map]
      rfl
    rw [e]
    have hmem : ∀ x, x ∈ nl ↔ ∃ j : Nat, es[j]? = some none ∧ x = (j : Int) + 1 := by
      intro x
      rw [hnl]
      simp only [List.mem_map, List.mem_filter, List.mem_range, decide_eq_true_eq]
      constructor
      · rintro ⟨y, ⟨⟨j, hj, rfl⟩, hn⟩, rfl⟩
        exact ⟨j, by simpa using hn, by omega⟩
      · rintro ⟨j, hn, rfl⟩
        have := (List.getElem?_eq_some_iff.mp hn).1
        exact ⟨(j : Int), ⟨⟨j, by omega, by omega⟩, by simpa using hn⟩, rfl⟩
    have hll : nl.length ≤ 90000 := by
      rw [hnl, List.length_map]
      refine Nat.le_trans (List.length_filter_le _ _) ?_
      simp
      omega
    refine ar_catL (by rw [List.length_map]; simp; omega) ?_
    repeat walk_at "st"
    show ARL K (rMax K) [.lst ((0 :: nl).map D.int)] M _
    refine arl_maxL (by simp) fun m hm hmax => ?_
    have hmf : m = ((fl es).length : Nat) := by
      have h0 : 0 ≤ m := hmax 0 (List.mem_cons_self ..)
      have := fl_max (es := es) (m := m.toNat) (by
        rcases List.mem_cons.mp hm with rfl | hm
        · exact .inl rfl
        · obtain ⟨j, hj, rfl⟩ := (hmem m).mp hm
          refine .inr ?_
          rw [show ((j : Int) + 1).toNat - 1 = j by omega]
          exact hj) (fun j hj => by
        have := hmax _ (List.mem_cons_of_mem _ ((hmem _).mpr ⟨j, hj, rfl⟩))
        omega)
      omega
    subst hmf
    repeat walk_at "st"
    refine arl_listT fun nw hnw => ?_
    repeat walk_at "st"
    refine ⟨_, _, rfl, ?_⟩
    obtain ⟨f1, f2, _, _⟩ := fl_facts es
    refine as_seq (as_for (ai_tup (ae_slT ?_)))
    repeat walk_at "st"
    refine ao_none (ao_some ?_)
    repeat walk_at "st"
    rw [cut_to (by omega), Int.toNat_natCast, ← List.map_take, ← f1]
    have hok : evOk cs.length (fl es) := fl_ok hev
    generalize hfe : fl es = fe at hok hk
    refine ⟨fun i Δ' M' => (∃ (u v : Option D), Δ' = [some (.tup (cs.map D.int)), some (.tup (es.map evD)), some (.int (fe.length : Nat)), some (.ref nw), u, v]) ∧ M' nw = some (.lst ((updE cs (fe.take i)).map D.int)) ∧ Le M M', ⟨⟨_, _, rfl⟩, Mem.set_same, Le.refl.set hnw⟩, ?_, ?_⟩
    · rintro i d Δ' M' hx ⟨⟨u, v, rfl⟩, mn, le⟩
      rw [List.getElem?_map] at hx
      obtain ⟨e, hex, rfl⟩ := Option.map_eq_some_iff.mp hx
      have hs := updE_snoc cs (fe.take i) e
      rw [← take_snoc hex] at hs
      refine ag_name ?_
      repeat walk_at "st"
      refine ar_notN ?_
      cases e with
      | none => exact ⟨false, rfl, ite3 (fun z => by cases z) fun _ => as_next ⟨⟨_, _, rfl⟩, by rw [hs]; exact mn, le⟩⟩
      | some e =>
        obtain ⟨y, o⟩ := e
        have hy := hok y o (List.mem_of_getElem? hex)
        refine ⟨true, rfl, ite3 (fun _ => ?_) fun z => by cases z⟩
        repeat walk_at "st"
        refine ar_ix_T (ar_ixT (ds := [.int y, .int o]) rfl ?_)
        refine ag_sub ?_
        repeat walk_at "st"
        refine ar_ix_T (ar_ixT (ds := [.int y, .int o]) rfl ?_)
        exact ⟨nw, _, y, y.toNat, rfl, rfl, mn, ixN_of hy.1 (by rw [List.length_map, updE_len]; exact hy.2), ⟨_, _, rfl⟩, by rw [hs, Mem.set_same, map_set], le.set hnw⟩
    · rintro Δ' M' ⟨⟨u, v, rfl⟩, mn, le⟩
      rw [List.length_map, List.take_length] at mn
      refine as_ret (ae_fgt (ae_lst (aa_cons ?_)))
      repeat walk_at "st"
      refine arl_tupM mn ?_
      repeat walk_at "st"
      exact ⟨by simp, M, le, hk⟩
end
end K60
namespace K60
open PySem PySem.Spec PyProof.Rows L2 RZ T2
local macro_rules | `(tactic| walk_at "st") => `(tactic| first
  | with_reducible refine as_seq ?_ | with_reducible refine as_if ?_ | with_reducible refine as_ret ?_ | with_reducible refine as_set ?_ | with_reducible refine as_drop ?_ | with_reducible refine as_next ?_
  | with_reducible refine as_asg ?_ | with_reducible refine as_retN ?_ | with_reducible refine as_brk ?_ | with_reducible refine as_cont ?_
  | with_reducible refine at_test ?_ | with_reducible refine at_B ?_ | with_reducible refine at_and ?_ | with_reducible refine at_or ?_ | with_reducible refine at_not ?_ | with_reducible refine at_yes ?_
  | with_reducible refine ae_op ?_ | with_reducible refine ae_un ?_ | with_reducible refine ae_cb ?_ | with_reducible refine aa_cons ?_ | with_reducible refine aa_nil ?_ | with_reducible refine ae_if ?_
  | with_reducible refine ae_andV ?_ | with_reducible refine ae_orV ?_ | with_reducible refine ae_notV ?_ | with_reducible refine ae_chain ?_
  | with_reducible refine ae_int ?_ | with_reducible refine ae_str ?_ | with_reducible refine ae_bl ?_ | with_reducible refine ae_non ?_ | with_reducible refine ae_ty ?_ | with_reducible refine ae_ref ?_
  | refine ae_varX rfl ?_ | refine ae_var rfl ?_
  | with_reducible refine ar_add ?_ | with_reducible refine ar_sub ?_ | with_reducible refine ar_lt ?_ | with_reducible refine ar_le ?_ | with_reducible refine ar_gt ?_ | with_reducible refine ar_ge ?_
  | with_reducible refine ar_eqI ?_ | with_reducible refine ar_neI ?_
  | with_reducible refine ⟨_, rfl, ?_⟩
  | refine ae_callG ?_ | refine ae_methG ?_)
section
variable {P : Program} {w : World} {K : PySem.W.Frag} {mg : Str → Option Value} {base : Heap} {a : Ad} {fd : Fds}
/-! ### journals cut anywhere, in plain Lean -/
theorem oct_nn {cs : List Int} (h : Oct cs) {j : Nat} {v : Int} (hv : cs[j]? = some v) : 0 ≤ v ∧ v < 256 := h v (List.mem_of_getElem? hv)
theorem Par.le {cs : List Int} {stop p e : Nat} {rs : List (List Int)} (hco : Oct cs) (h : Par cs stop p rs e) : p ≤ e := by
  induction h with
  | done _ => exact Nat.le_refl _
  | step a1 a2 a3 a4 a5 a6 a7 a8 a9 ih =>
    have h1 := oct_nn hco a5
    have h2 := oct_nn hco a6
    omega
theorem slice_congr {cs cs' : List Int} {q n : Nat} (h : ∀ j, q ≤ j → j < q + n → cs'[j]? = cs[j]?) : (cs'.drop q).take n = (cs.drop q).take n := by
  refine List.ext_getElem? fun i => ?_
  rw [List.getElem?_take, List.getElem?_take]
  by_cases hi : i < n
  · rw [if_pos hi, if_pos hi, List.getElem?_drop, List.getElem?_drop]
    exact h _ (by omega) (by omega)
  · rw [if_neg hi, if_neg hi]
/-- what is read alike is parsed alike -/
theorem Par.congr {cs cs' : List Int} {stop p e : Nat} {rs : List (List Int)} (hco : Oct cs) (h : Par cs stop p rs e) : (∀ j, p ≤ j → j ≤ e → j < stop → cs'[j]? = cs[j]?) → Par cs' stop p rs e := by
  induction h with
  | done h0 =>
    intro hag
    exact .done fun hp v hv => h0 hp v (by rw [← hag _ (Nat.le_refl _) (Nat.le_refl _) hp]; exact hv)
  | @step p b e rs m hi lo a1 a2 a3 a4 a5 a6 a7 a8 a9 ih =>
    intro hag
    have h1 := oct_nn hco a5
    have h2 := oct_nn hco a6
    have hbe := Par.le hco a9
    have hs : (cs.drop (p + 3)).take (b - (p + 3)) = (cs'.drop (p + 3)).take (b - (p + 3)) := (slice_congr fun j x y => hag j (by omega) (by omega) (by omega)).symm
    rw [hs]
    exact .step a1 (by rw [hag _ (by omega) (by omega) (by omega)]; exact a2) a3 a4 (by rw [hag _ (by omega) (by omega) (by omega)]; exact a5) (by rw [hag _ (by omega) (by omega) (by omega)]; exact a6) a7 a8 (ih fun j x y z => hag j (by omega) y z)
/-- one more record behind the others -/
theorem Par.snoc {cs cs' : List Int} {stop p e b : Nat} {rs : List (List Int)} {m hi lo : Int} (hco : Oct cs) (h : Par cs stop p rs e) : (∀ j, p ≤ j → j < e → cs'[j]? = cs[j]?) → e < stop → cs'[e]? = some m → 0 < m → e + 3 ≤ stop → cs'[e + 1]? = some hi → cs'[e + 2]? = some lo → (b : Int) = e + 3 + hi * 256 + lo → b ≤ stop →
    (b < stop → ∀ v, cs'[b]? = some v → v ≤ 0) → Par cs' stop p (rs ++ [(cs'.drop (e + 3)).take (b - (e + 3))]) b := by
  induction h with
  | done h0 =>
    intro _ c1 c2 c3 c4 c5 c6 c7 c8 c9
    exact .step c1 c2 c3 c4 c5 c6 c7 c8 (.done c9)
  | @step p b' e rs m' hi' lo' a1 a2 a3 a4 a5 a6 a7 a8 a9 ih =>
    intro hag c1 c2 c3 c4 c5 c6 c7 c8 c9
    have h1 := oct_nn hco a5
    have h2 := oct_nn hco a6
    have hbe := Par.le hco a9
    have hs : (cs.drop (p + 3)).take (b' - (p + 3)) = (cs'.drop (p + 3)).take (b' - (p + 3)) := (slice_congr fun j x y => hag j (by omega) (by omega)).symm
    rw [hs]
    exact .step a1 (by rw [hag _ (by omega) (by omega)]; exact a2) a3 a4 (by rw [hag _ (by omega) (by omega)]; exact a5) (by rw [hag _ (by omega) (by omega)]; exact a6) a7 a8 (ih (fun j x y => hag j (by omega) y) c1 c2 c3 c4 c5 c6 c7 c8 c9)
end
end K60
namespace K60
open PySem PySem.Spec PyProof.Rows L2 RZ T2
local macro_rules | `(tactic| walk_at "st") => `(tactic| first
  | with_reducible refine as_seq ?_ | with_reducible refine as_if ?_ | with_reducible refine as_ret ?_ | with_reducible refine as_set ?_ | with_reducible refine as_drop ?_ | with_reducible refine as_next ?_
  | with_reducible refine as_asg ?_ | with_reducible refine as_retN ?_ | with_reducible refine as_brk ?_ | with_reducible refine as_cont ?_
  | with_reducible refine at_test ?_ | with_reducible refine at_B ?_ | with_reducible refine at_and ?_ | with_reducible refine at_or ?_ | with_reducible refine at_not ?_ | with_reducible refine at_yes ?_
  | with_reducible refine ae_op ?_ | with_reducible refine ae_un ?_ | with_reducible refine ae_cb ?_ | with_reducible refine aa_cons ?_ | with_reducible refine aa_nil ?_ | with_reducible refine ae_if ?_
  | with_reducible refine ae_andV ?_ | with_reducible refine ae_orV ?_ | with_reducible refine ae_notV ?_ | with_reducible refine ae_chain ?_
  | with_reducible refine ae_int ?_ | with_reducible refine ae_str ?_ | with_reducible refine ae_bl ?_ | with_reducible refine ae_non ?_ | with_reducible refine ae_ty ?_ | with_reducible refine ae_ref ?_
  | refine ae_varX rfl ?_ | refine ae_var rfl ?_
  | with_reducible refine ar_add ?_ | with_reducible refine ar_sub ?_ | with_reducible refine ar_lt ?_ | with_reducible refine ar_le ?_ | with_reducible refine ar_gt ?_ | with_reducible refine ar_ge ?_
  | with_reducible refine ar_eqI ?_ | with_reducible refine ar_neI ?_
  | with_reducible refine ⟨_, rfl, ?_⟩
  | refine ae_callG ?_ | refine ae_methG ?_)
section
variable {P : Program} {w : World} {K : PySem.W.Frag} {mg : Str → Option Value} {base : Heap} {a : Ad} {fd : Fds}
theorem updE_out {j : Nat} : ∀ (es : List Ev) (cs : List Int), (∀ x o, some (x, o) ∈ es → x.toNat ≠ j) → (updE cs es)[j]? = cs[j]?
  | [], _, _ => rfl
  | none :: es, cs, h => updE_out es cs fun x o z => h x o (List.mem_cons_of_mem _ z)
  | some (x, o) :: es, cs, h => by
    show (updE (cs.set x.toNat o) es)[j]? = _
    rw [updE_out es _ fun x o z => h x o (List.mem_cons_of_mem _ z), List.getElem?_set_ne (h x o (List.mem_cons_self ..))]
theorem datEv_mem : ∀ {r : List Int} {q : Nat} {x o : Int}, some (x, o) ∈ datEv q r → (q : Int) ≤ x ∧ x < (q : Int) + r.length
  | [], _, _, _, h => by cases h
  | y :: r, q, x, o, h => by
    have h' : (some (x, o) : Ev) ∈ (some ((q : Int), y) : Ev) :: datEv (q + 1) r := h
    rcases List.mem_cons.mp h' with h | h
    · injection h with h
      injection h with h1 h2
      rw [List.length_cons]
      omega
    · have := datEv_mem h
      rw [List.length_cons]
      omega
theorem datEv_get : ∀ {r : List Int} {q : Nat} {cs : List Int} {i : Nat}, i < r.length → q + r.length ≤ cs.length → (updE cs (datEv q r))[q + i]? = r[i]?
  | [], _, _, _, h, _ => by cases h
  | y :: r, q, cs, 0, _, hl => by
    rw [List.length_cons] at hl
    show (updE (cs.set (q : Int).toNat y) (datEv (q + 1) r))[q]? = some y
    rw [updE_out _ _ fun x o z => by have := datEv_mem z; omega, Int.toNat_natCast, List.getElem?_set_self (by omega)]
  | y :: r, q, cs, i + 1, hi, hl => by
    rw [List.length_cons] at hl hi
    show (updE (cs.set (q : Int).toNat y) (datEv (q + 1) r))[q + (i + 1)]? = r[i]?
    have := datEv_get (r := r) (q := q + 1) (cs := cs.set (q : Int).toNat y) (i := i) (by omega) (by rw [List.length_set]; omega)
    rw [show q + (i + 1) = q + 1 + i by omega]
    exact this
end
end K60
namespace K60
open PySem PySem.Spec PyProof.Rows L2 RZ T2
local macro_rules | `(tactic| walk_at "st") => `(tactic| first
  | with_reducible refine as_seq ?_ | with_reducible refine as_if ?_ | with_reducible refine as_ret ?_ | with_reducible refine as_set ?_ | with_reducible refine as_drop ?_ | with_reducible refine as_next ?_
  | with_reducible refine as_asg ?_ | with_reducible refine as_retN ?_ | with_reducible refine as_brk ?_ | with_reducible refine as_cont ?_
  | with_reducible refine at_test ?_ | with_reducible refine at_B ?_ | with_reducible refine at_and ?_ | with_reducible refine at_or ?_ | with_reducible refine at_not ?_ | with_reducible refine at_yes ?_
  | with_reducible refine ae_op ?_ | with_reducible refine ae_un ?_ | with_reducible refine ae_cb ?_ | with_reducible refine aa_cons ?_ | with_reducible refine aa_nil ?_ | with_reducible refine ae_if ?_
  | with_reducible refine ae_andV ?_ | with_reducible refine ae_orV ?_ | with_reducible refine ae_notV ?_ | with_reducible refine ae_chain ?_
  | with_reducible refine ae_int ?_ | with_reducible refine ae_str ?_ | with_reducible refine ae_bl ?_ | with_reducible refine ae_non ?_ | with_reducible refine ae_ty ?_ | with_reducible refine ae_ref ?_
  | refine ae_varX rfl ?_ | refine ae_var rfl ?_
  | with_reducible refine ar_add ?_ | with_reducible refine ar_sub ?_ | with_reducible refine ar_lt ?_ | with_reducible refine ar_le ?_ | with_reducible refine ar_gt ?_ | with_reducible refine ar_ge ?_
  | with_reducible refine ar_eqI ?_ | with_reducible refine ar_neI ?_
  | with_reducible refine ⟨_, rfl, ?_⟩
  | refine ae_callG ?_ | refine ae_methG ?_)
section
variable {P : Program} {w : World} {K : PySem.W.Frag} {mg : Str → Option Value} {base : Heap} {a : Ad} {fd : Fds}
theorem recEv_mem {r : List Int} {q : Nat} {x o : Int} (h : some (x, o) ∈ recEv q r) : (q : Int) + 1 ≤ x ∧ x < (q : Int) + 3 + r.length := by
  unfold recEv at h
  rcases List.mem_append.mp h with h | h
  · simp only [List.mem_cons, List.mem_nil_iff, or_false, Option.some.injEq, Prod.mk.injEq] at h
    rcases h with ⟨rfl, _⟩ | ⟨rfl, _⟩ <;> omega
  · have := datEv_mem h
    omega
theorem recEv_get {r cs : List Int} {q : Nat} (hl : q + 3 + r.length ≤ cs.length) : (updE cs (recEv q r))[q + 1]? = some ((r.length : Int) / 256) ∧ (updE cs (recEv q r))[q + 2]? = some ((r.length : Int) % 256) ∧
    ∀ i, i < r.length → (updE cs (recEv q r))[q + 3 + i]? = r[i]? := by
  have e : updE cs (recEv q r) = updE ((cs.set (q + 1) ((r.length : Int) / 256)).set (q + 2) ((r.length : Int) % 256)) (datEv (q + 3) r) := by
    unfold recEv
    rw [updE_app]
    rfl
  rw [e]
  refine ⟨?_, ?_, fun i hi => datEv_get hi (by rw [List.length_set, List.length_set]; exact hl)⟩
  · rw [updE_out _ _ fun x o z => by have := datEv_mem z; omega, List.getElem?_set_ne (by omega), List.getElem?_set_self (by omega)]
  · rw [updE_out _ _ fun x o z => by have := datEv_mem z; omega, List.getElem?_set_self (by rw [List.length_set]; omega)]
end
end K60
namespace K60
open PySem PySem.Spec PyProof.Rows L2 RZ T2
local macro_rules | `(tactic| walk_at "st") => `(tactic| first
  | with_reducible refine as_seq ?_ | with_reducible refine as_if ?_ | with_reducible refine as_ret ?_ | with_reducible refine as_set ?_ | with_reducible refine as_drop ?_ | with_reducible refine as_next ?_
  | with_reducible refine as_asg ?_ | with_reducible refine as_retN ?_ | with_reducible refine as_brk ?_ | with_reducible refine as_cont ?_
  | with_reducible refine at_test ?_ | with_reducible refine at_B ?_ | with_reducible refine at_and ?_ | with_reducible refine at_or ?_ | with_reducible refine at_not ?_ | with_reducible refine at_yes ?_
  | with_reducible refine ae_op ?_ | with_reducible refine ae_un ?_ | with_reducible refine ae_cb ?_ | with_reducible refine aa_cons ?_ | with_reducible refine aa_nil ?_ | with_reducible refine ae_if ?_
  | with_reducible refine ae_andV ?_ | with_reducible refine ae_orV ?_ | with_reducible refine ae_notV ?_ | with_reducible refine ae_chain ?_
  | with_reducible refine ae_int ?_ | with_reducible refine ae_str ?_ | with_reducible refine ae_bl ?_ | with_reducible refine ae_non ?_ | with_reducible refine ae_ty ?_ | with_reducible refine ae_ref ?_
  | refine ae_varX rfl ?_ | refine ae_var rfl ?_
  | with_reducible refine ar_add ?_ | with_reducible refine ar_sub ?_ | with_reducible refine ar_lt ?_ | with_reducible refine ar_le ?_ | with_reducible refine ar_gt ?_ | with_reducible refine ar_ge ?_
  | with_reducible refine ar_eqI ?_ | with_reducible refine ar_neI ?_
  | with_reducible refine ⟨_, rfl, ?_⟩
  | refine ae_callG ?_ | refine ae_methG ?_)
section
variable {P : Program} {w : World} {K : PySem.W.Frag} {mg : Str → Option Value} {base : Heap} {a : Ad} {fd : Fds}

/-! ### a cut anywhere -/
def allS (es : List Ev) : Prop := ∀ e ∈ es, e.isSome = true
theorem allS_app {a b : List Ev} (ha : allS a) (hb : allS b) : allS (a ++ b) := fun e h => (List.mem_append.mp h).elim (ha e) (hb e)
theorem allS_datEv : ∀ (r : List Int) (q : Nat), allS (datEv q r)
  | [], _ => fun e h => by cases h
  | y :: r, q => fun e h => by
    rcases List.mem_cons.mp (show e ∈ (some ((q : Int), y) : Ev) :: datEv (q + 1) r from h) with h | h
    · rw [h]; rfl
    · exact allS_datEv r (q + 1) e h
theorem allS_recEv (q : Nat) (r : List Int) : allS (recEv q r) := allS_app (fun e h => by
  simp only [List.mem_cons, List.mem_nil_iff, or_false] at h
  rcases h with rfl | rfl <;> rfl) (allS_datEv _ _)
theorem allS_endEv (q stop : Nat) : allS (endEv q stop) := fun e h => by
  unfold endEv at h
  split at h
  · rw [List.mem_singleton] at h; rw [h]; rfl
  · cases h
theorem allS_runEv : ∀ (rs : List (List Int)) (q : Nat), allS (runEv q rs)
  | [], _ => fun e h => by cases h
  | r :: rs, q => fun e h => by
    rcases List.mem_cons.mp (show e ∈ (some ((q : Int), 1) : Ev) :: (recEv q r ++ runEv (q + 3 + r.length) rs) from h) with h | h
    · rw [h]; rfl
    · exact allS_app (allS_recEv q r) (allS_runEv rs _) e h
theorem allS_take {es : List Ev} (h : allS es) (k : Nat) : allS (es.take k) := fun e z => h e (List.mem_of_mem_take z)
theorem dropWhile_all {α : Type} {p : α → Bool} : ∀ {l : List α}, (∀ e ∈ l, p e = true) → l.dropWhile p = []
  | [], _ => rfl
  | x :: l, h => by
    rw [List.dropWhile_cons, if_pos (h x (List.mem_cons_self ..))]
    exact dropWhile_all fun e z => h e (List.mem_cons_of_mem _ z)
theorem fl_allS {es : List Ev} (h : allS es) : fl es = [] := by
  unfold fl
  rw [dropWhile_all fun e z => h e (List.mem_reverse.mp z)]
  rfl
theorem pend_mem : ∀ (es : List Ev) {x : Int}, x ∈ pend es → ∃ o, some (x, o) ∈ es := by
  refine rev_ind (fun {x} h => by cases h) fun es e ih {x} h => ?_
  rw [pend_snoc] at h
  cases e with
  | none => cases h
  | some e =>
    obtain ⟨y, o⟩ := e
    rcases List.mem_append.mp h with h | h
    · obtain ⟨o', h'⟩ := ih h
      exact ⟨o', List.mem_append_left _ h'⟩
    · rw [List.mem_singleton] at h
      subst h
      exact ⟨o, by simp⟩
theorem cut3 {pre : List Ev} {x o : Int} {k : Nat} {cs cs' : List Int} (hp : allS pre) (hk : k ≤ pre.length + 3) (L : Left cs ((pre ++ [none, some (x, o), none]).take k) cs') :
    (k ≤ pre.length ∧ ∀ j : Nat, (∀ v, some ((j : Int), v) ∉ pre) → cs'[j]? = cs[j]?) ∨ (k = pre.length + 1 ∧ ∀ j : Nat, cs'[j]? = (updE cs pre)[j]?) ∨
      (k = pre.length + 2 ∧ ∀ j : Nat, (j : Int) ≠ x → cs'[j]? = (updE cs pre)[j]?) ∨ (k = pre.length + 3 ∧ ∀ j : Nat, cs'[j]? = ((updE cs pre).set x.toNat o)[j]?) := by
  have u1 : updE cs (pre ++ [none]) = updE cs pre := updE_snoc _ _ _
  by_cases h1 : k ≤ pre.length
  · refine .inl ⟨h1, fun j hj => ?_⟩
    rw [List.take_append_of_le_length h1] at L
    have := L.out j fun z => by
      obtain ⟨v, hv⟩ := pend_mem _ z
      exact hj v (List.mem_of_mem_take hv)
    rw [fl_allS (allS_take hp k)] at this
    exact this
  · by_cases h2 : k = pre.length + 1
    · refine .inr (.inl ⟨h2, fun j => ?_⟩)
      have e : (pre ++ [none, some (x, o), none]).take k = pre ++ [none] := by
        rw [h2, List.take_append, List.take_of_length_le (by omega), show pre.length + 1 - pre.length = 1 by omega]
        rfl
      rw [e] at L
      have := L.out j (by rw [pend_snoc]; simp)
      rw [fl_none, u1] at this
      exact this
    · by_cases h3 : k = pre.length + 2
      · refine .inr (.inr (.inl ⟨h3, fun j hj => ?_⟩))
        have e : (pre ++ [none, some (x, o), none]).take k = pre ++ [none] ++ [some (x, o)] := by
          rw [h3, List.take_append, List.take_of_length_le (by omega), show pre.length + 2 - pre.length = 2 by omega, List.append_assoc]
          rfl
        rw [e] at L
        have := L.out j (by rw [pend_snoc, pend_snoc]; simpa using hj)
        rw [fl_some, fl_none, u1] at this
        exact this
      · have h4 : k = pre.length + 3 := by omega
        refine .inr (.inr (.inr ⟨h4, fun j => ?_⟩))
        have e : (pre ++ [none, some (x, o), none]).take k = pre ++ [none] ++ [some (x, o)] ++ [none] := by
          rw [h4, List.take_append, List.take_of_length_le (by omega), show pre.length + 3 - pre.length = 3 by omega, List.append_assoc, List.append_assoc]
          rfl
        rw [e] at L
        have := L.out j (by rw [pend_snoc]; simp)
        rw [fl_none, updE_snoc, updE_snoc, u1] at this
        exact this
/-- a journal on these cells has these records, which end there -/
def Opn (cs : List Int) (rs : List (List Int)) (en : Nat) : Prop := Par cs (hstart cs.length (sideOf cs + 1)) (hstart cs.length (sideOf cs)) rs en
theorem Par.stop {cs : List Int} {stop p e : Nat} {rs : List (List Int)} (h : Par cs stop p rs e) : e < stop → ∀ v, cs[e]? = some v → v ≤ 0 := by
  induction h with
  | done h => exact h
  | step _ _ _ _ _ _ _ _ _ ih => exact ih
theorem Par.needs {cs : List Int} {stop p e : Nat} {rs : List (List Int)} (hco : Oct cs) (h : Par cs stop p rs e) : stop ≤ cs.length → e = p + needs rs ∧ (∀ r ∈ rs, Oct r) ∧ (p ≤ stop → e ≤ stop) := by
  induction h with
  | done _ => exact fun _ => ⟨rfl, (fun r h => by cases h), fun h => h⟩
  | @step p b e rs m hi lo a1 a2 a3 a4 a5 a6 a7 a8 a9 ih =>
    intro hl
    have h1 := oct_nn hco a5
    have h2 := oct_nn hco a6
    obtain ⟨i1, i2, i3⟩ := ih hl
    refine ⟨?_, fun r hr => ?_, fun _ => i3 a8⟩
    · rw [i1, needs_cons, List.length_take, List.length_drop]
      have : min (b - (p + 3)) (cs.length - (p + 3)) = b - (p + 3) := by omega
      rw [this]
      omega
    · rcases List.mem_cons.mp hr with rfl | hr
      · exact fun c hc => hco c (List.mem_of_mem_drop (List.mem_of_mem_take hc))
      · exact i2 r hr
theorem sideOf_le {cs : List Int} : sideOf cs ≤ 1 := by unfold sideOf; omega
theorem sideOf_congr {cs cs' : List Int} (h : cs'[0]? = cs[0]?) : sideOf cs' = sideOf cs := by unfold sideOf; rw [h]
theorem Opn.congr {cs cs' : List Int} {rs : List (List Int)} {en : Nat} (hco : Oct cs) (h : Opn cs rs en) (hl : cs'.length = cs.length) (h0 : cs'[0]? = cs[0]?)
    (hag : ∀ j, hstart cs.length (sideOf cs) ≤ j → j ≤ en → j < hstart cs.length (sideOf cs + 1) → cs'[j]? = cs[j]?) : Opn cs' rs en := by
  unfold Opn
  rw [hl, sideOf_congr h0]
  exact Par.congr hco h hag
theorem endEv_mem {q stop : Nat} {x o : Int} (h : some (x, o) ∈ endEv q stop) : x = q ∧ q < stop ∧ o = 0 := by
  unfold endEv at h
  split at h
  · rw [List.mem_singleton] at h
    injection h with h
    injection h with h1 h2
    exact ⟨h1, by assumption, h2⟩
  · cases h
theorem recEnd_at {r cs : List Int} {q stop : Nat} (hl : q + 3 + r.length ≤ stop) (hs : stop ≤ cs.length) :
    (updE cs (recEv q r ++ endEv (q + 3 + r.length) stop))[q + 1]? = some ((r.length : Int) / 256) ∧ (updE cs (recEv q r ++ endEv (q + 3 + r.length) stop))[q + 2]? = some ((r.length : Int) % 256) ∧
      (∀ i, i < r.length → (updE cs (recEv q r ++ endEv (q + 3 + r.length) stop))[q + 3 + i]? = r[i]?) ∧ (q + 3 + r.length < stop → ∀ v, (updE cs (recEv q r ++ endEv (q + 3 + r.length) stop))[q + 3 + r.length]? = some v → v ≤ 0) ∧
      ∀ j, j ≤ q → (updE cs (recEv q r ++ endEv (q + 3 + r.length) stop))[j]? = cs[j]? := by
  obtain ⟨g1, g2, g3⟩ := recEv_get (r := r) (cs := cs) (q := q) (by omega)
  rw [updE_app]
  have out : ∀ j, j < q + 3 + r.length → (updE (updE cs (recEv q r)) (endEv (q + 3 + r.length) stop))[j]? = (updE cs (recEv q r))[j]? := fun j hj => updE_out _ _ fun x o z => by
    have := endEv_mem z
    omega
  refine ⟨by rw [out _ (by omega)]; exact g1, by rw [out _ (by omega)]; exact g2, fun i hi => by rw [out _ (by omega)]; exact g3 i hi, fun hlt v hv => ?_, fun j hj => ?_⟩
  · unfold endEv at hv
    rw [if_pos hlt] at hv
    have hv2 : ((updE cs (recEv q r)).set (((q + 3 + r.length : Nat) : Int)).toNat 0)[q + 3 + r.length]? = some v := hv
    rw [Int.toNat_natCast, List.getElem?_set_self (by rw [updE_len]; omega)] at hv2
    cases hv2
    exact Int.le_refl _
  · rw [out j (by omega)]
    exact updE_out _ _ fun x o z => by
      have := recEv_mem z
      omega
theorem slice_is {cs r : List Int} {q : Nat} (hl : q + r.length ≤ cs.length) (h : ∀ i, i < r.length → cs[q + i]? = r[i]?) : (cs.drop q).take r.length = r := by
  refine List.ext_getElem? fun i => ?_
  rw [List.getElem?_take]
  by_cases hi : i < r.length
  · rw [if_pos hi, List.getElem?_drop, h i hi]
  · rw [if_neg hi, List.getElem?_eq_none (by omega)]
/-- what a cut of a write leaves has the old records or the new ones -/
theorem wr_cut {cs cs' r : List Int} {rs : List (List Int)} {en stop k : Nat} (hco : Oct cs) (h1 : 1 ≤ cs.length) (hop : Opn cs rs en) (hst : stop = hstart cs.length (sideOf cs + 1)) (hroom : en + 3 + r.length ≤ stop)
    (hk : k ≤ (wrEv en stop r).length) (L : Left cs ((wrEv en stop r).take k) cs') :
    (Opn cs' rs en ∧ k < (wrEv en stop r).length) ∨ (Opn cs' (rs ++ [r]) (en + 3 + r.length) ∧ 0 < k) := by
  have hsl : stop ≤ cs.length := by rw [hst]; exact hstart_le h1 (by have := sideOf_le (cs := cs); omega)
  have hen : hstart cs.length (sideOf cs) ≤ en := Par.le hco hop
  have hp1 := hstart_pos (n := cs.length) (s := sideOf cs)
  have hlen : (wrEv en stop r).length = (recEv en r ++ endEv (en + 3 + r.length) stop).length + 3 := by
    unfold wrEv
    rw [List.length_append]
    rfl
  have hps : allS (recEv en r ++ endEv (en + 3 + r.length) stop) := allS_app (allS_recEv _ _) (allS_endEv _ _)
  obtain ⟨g1, g2, g3, g4, g5⟩ := recEnd_at (r := r) (cs := cs) (q := en) (stop := stop) hroom hsl
  have hul : (updE cs (recEv en r ++ endEv (en + 3 + r.length) stop)).length = cs.length := updE_len _ _
  have hout : ∀ j : Nat, j ≤ en → ∀ v, some ((j : Int), v) ∉ recEv en r ++ endEv (en + 3 + r.length) stop := fun j hj v z => by
    rcases List.mem_append.mp z with z | z
    · have := recEv_mem z; omega
    · have := endEv_mem z; omega
  have hwr : wrEv en stop r = recEv en r ++ endEv (en + 3 + r.length) stop ++ [none, some ((en : Int), 1), none] := rfl
  rw [hlen] at hk ⊢
  rw [hwr] at L
  generalize recEv en r ++ endEv (en + 3 + r.length) stop = pre at hps g1 g2 g3 g4 g5 hul hout L hk
  have old : (∀ j : Nat, j ≤ en → cs'[j]? = cs[j]?) → Opn cs' rs en := fun h => hop.congr hco L.len (h 0 (by omega)) fun j _ hj _ => h j hj
  have new : ∀ m, cs'[en]? = some m → 0 < m → (∀ j : Nat, (j : Int) ≠ en → cs'[j]? = (updE cs pre)[j]?) → Opn cs' (rs ++ [r]) (en + 3 + r.length) := by
    intro m hm m0 hag
    have h0 : cs'[0]? = cs[0]? := by rw [hag 0 (by omega), g5 0 (by omega)]
    unfold Opn
    rw [L.len, sideOf_congr h0]
    have hsl2 : (cs'.drop (en + 3)).take (en + 3 + r.length - (en + 3)) = r := by
      rw [show en + 3 + r.length - (en + 3) = r.length by omega]
      exact slice_is (by rw [L.len]; omega) fun i hi => by rw [hag _ (by omega)]; exact g3 i hi
    have := Par.snoc (cs' := cs') (b := en + 3 + r.length) (m := m) (hi := (r.length : Int) / 256) (lo := (r.length : Int) % 256) hco hop (fun j _ hj => by rw [hag j (by omega), g5 j (by omega)]) (by rw [← hst]; omega) hm m0 (by rw [← hst]; omega)
      (by rw [hag _ (by omega)]; exact g1) (by rw [hag _ (by omega)]; exact g2) (by omega) (by rw [← hst]; omega) (fun hlt v hv => g4 (by rw [hst]; exact hlt) v (by rw [← hag _ (by omega)]; exact hv))
    rw [hsl2] at this
    exact this
  rcases cut3 hps hk L with ⟨c1, c2⟩ | ⟨c1, c2⟩ | ⟨c1, c2⟩ | ⟨c1, c2⟩
  · exact .inl ⟨old fun j hj => c2 j (hout j hj), by omega⟩
  · exact .inl ⟨old fun j hj => by rw [c2 j, g5 j hj], by omega⟩
  · obtain ⟨v, hv⟩ : ∃ v, cs'[en]? = some v := ⟨_, List.getElem?_eq_getElem (by rw [L.len]; omega)⟩
    have hv0 := oct_nn L.oct hv
    by_cases hz : v = 0
    · refine .inl ⟨old fun j hj => ?_, by omega⟩
      by_cases hje : j = en
      · obtain ⟨u, hu⟩ : ∃ u, cs[en]? = some u := ⟨_, List.getElem?_eq_getElem (by omega)⟩
        have hu0 := oct_nn hco hu
        have hu1 := Par.stop hop (by rw [← hst]; omega) u hu
        rw [hje, hv, hu, hz, show u = 0 by omega]
      · rw [c2 j (by omega), g5 j hj]
    · exact .inr ⟨new v hv (by omega) c2, by omega⟩
  · refine .inr ⟨new 1 ?_ (by decide) fun j hj => ?_, by omega⟩
    · rw [c2, Int.toNat_natCast, List.getElem?_set_self (by rw [hul]; omega)]
    · rw [c2, Int.toNat_natCast, List.getElem?_set_ne (by omega)]
end
end K60
namespace K60
open PySem PySem.Spec PyProof.Rows L2 RZ T2
local macro_rules | `(tactic| walk_at "st") => `(tactic| first
  | with_reducible refine as_seq ?_ | with_reducible refine as_if ?_ | with_reducible refine as_ret ?_ | with_reducible refine as_set ?_ | with_reducible refine as_drop ?_ | with_reducible refine as_next ?_
  | with_reducible refine as_asg ?_ | with_reducible refine as_retN ?_ | with_reducible refine as_brk ?_ | with_reducible refine as_cont ?_
  | with_reducible refine at_test ?_ | with_reducible refine at_B ?_ | with_reducible refine at_and ?_ | with_reducible refine at_or ?_ | with_reducible refine at_not ?_ | with_reducible refine at_yes ?_
  | with_reducible refine ae_op ?_ | with_reducible refine ae_un ?_ | with_reducible refine ae_cb ?_ | with_reducible refine aa_cons ?_ | with_reducible refine aa_nil ?_ | with_reducible refine ae_if ?_
  | with_reducible refine ae_andV ?_ | with_reducible refine ae_orV ?_ | with_reducible refine ae_notV ?_ | with_reducible refine ae_chain ?_
  | with_reducible refine ae_int ?_ | with_reducible refine ae_str ?_ | with_reducible refine ae_bl ?_ | with_reducible refine ae_non ?_ | with_reducible refine ae_ty ?_ | with_reducible refine ae_ref ?_
  | refine ae_varX rfl ?_ | refine ae_var rfl ?_
  | with_reducible refine ar_add ?_ | with_reducible refine ar_sub ?_ | with_reducible refine ar_lt ?_ | with_reducible refine ar_le ?_ | with_reducible refine ar_gt ?_ | with_reducible refine ar_ge ?_
  | with_reducible refine ar_eqI ?_ | with_reducible refine ar_neI ?_
  | with_reducible refine ⟨_, rfl, ?_⟩
  | refine ae_callG ?_ | refine ae_methG ?_)
section
variable {P : Program} {w : World} {K : PySem.W.Frag} {mg : Str → Option Value} {base : Heap} {a : Ad} {fd : Fds}

theorem runEv_mem : ∀ {rs : List (List Int)} {q : Nat} {x o : Int}, some (x, o) ∈ runEv q rs → (q : Int) ≤ x ∧ x < (q : Int) + needs rs
  | [], _, _, _, h => by cases h
  | r :: rs, q, x, o, h => by
    rw [needs_cons]
    rcases List.mem_cons.mp (show (some (x, o) : Ev) ∈ (some ((q : Int), 1) : Ev) :: (recEv q r ++ runEv (q + 3 + r.length) rs) from h) with h | h
    · injection h with h
      injection h with h1 h2
      omega
    · rcases List.mem_append.mp h with h | h
      · have := recEv_mem h; omega
      · have := runEv_mem h; omega
/-- what renew puts is parsed as its records -/
theorem run_par {stop : Nat} : ∀ (rs : List (List Int)) (q : Nat) (cs : List Int), q + needs rs ≤ stop → stop ≤ cs.length → Par (updE cs (runEv q rs ++ endEv (q + needs rs) stop)) stop q rs (q + needs rs)
  | [], q, cs, h, hl => by
    refine .done fun hp v hv => ?_
    have hp' : q < stop := hp
    have e : endEv q stop = [some ((q : Int), 0)] := by unfold endEv; rw [if_pos hp']
    have hv2 : (updE cs (endEv q stop))[q]? = some v := hv
    rw [e] at hv2
    have hv3 : (cs.set (q : Int).toNat 0)[q]? = some v := hv2
    rw [Int.toNat_natCast, List.getElem?_set_self (by omega)] at hv3
    cases hv3
    exact Int.le_refl _
  | r :: rs, q, cs, h, hl => by
    rw [needs_cons] at h ⊢
    have e : q + (3 + r.length + needs rs) = q + 3 + r.length + needs rs := by omega
    rw [e]
    have ev : updE cs (runEv q (r :: rs) ++ endEv (q + 3 + r.length + needs rs) stop) = updE (updE (cs.set q 1) (recEv q r)) (runEv (q + 3 + r.length) rs ++ endEv (q + 3 + r.length + needs rs) stop) := by
      show updE cs (some ((q : Int), 1) :: (recEv q r ++ runEv (q + 3 + r.length) rs) ++ endEv (q + 3 + r.length + needs rs) stop) = _
      rw [← updE_app]
      show updE (cs.set (q : Int).toNat 1) ((recEv q r ++ runEv (q + 3 + r.length) rs) ++ endEv (q + 3 + r.length + needs rs) stop) = _
      rw [Int.toNat_natCast, List.append_assoc]
    rw [ev]
    have hul : (updE (cs.set q 1) (recEv q r)).length = cs.length := by rw [updE_len, List.length_set]
    have ih := run_par (stop := stop) rs (q + 3 + r.length) (updE (cs.set q 1) (recEv q r)) (by omega) (by rw [hul]; exact hl)
    obtain ⟨g1, g2, g3⟩ := recEv_get (r := r) (cs := cs.set q 1) (q := q) (by rw [List.length_set]; omega)
    have out : ∀ j, j < q + 3 + r.length → (updE (updE (cs.set q 1) (recEv q r)) (runEv (q + 3 + r.length) rs ++ endEv (q + 3 + r.length + needs rs) stop))[j]? = (updE (cs.set q 1) (recEv q r))[j]? := fun j hj => updE_out _ _ fun x o z => by
      rcases List.mem_append.mp z with z | z
      · have := runEv_mem z; omega
      · have := endEv_mem z; omega
    have hz : (updE (cs.set q 1) (recEv q r))[q]? = some 1 := by
      rw [updE_out _ _ fun x o z => by have := recEv_mem z; omega, List.getElem?_set_self (by omega)]
    have hl2 : (updE (updE (cs.set q 1) (recEv q r)) (runEv (q + 3 + r.length) rs ++ endEv (q + 3 + r.length + needs rs) stop)).length = cs.length := by rw [updE_len, hul]
    generalize updE (updE (cs.set q 1) (recEv q r)) (runEv (q + 3 + r.length) rs ++ endEv (q + 3 + r.length + needs rs) stop) = cs2 at ih out hl2
    have hs : (cs2.drop (q + 3)).take (q + 3 + r.length - (q + 3)) = r := by
      rw [show q + 3 + r.length - (q + 3) = r.length by omega]
      exact slice_is (by rw [hl2]; omega) fun i hi => by rw [out (q + 3 + i) (by omega)]; exact g3 i hi
    have := Par.step (cs := cs2) (stop := stop) (p := q) (b := q + 3 + r.length) (e := q + 3 + r.length + needs rs) (rs := rs) (m := 1) (hi := (r.length : Int) / 256) (lo := (r.length : Int) % 256) (by omega) (by rw [out _ (by omega)]; exact hz) (by decide) (by omega)
      (by rw [out _ (by omega)]; exact g1) (by rw [out _ (by omega)]; exact g2) (by omega) (by omega) ih
    rw [hs] at this
    exact this
/-- what a cut of a renewal leaves has the old records or the new ones -/
theorem rn_cut {cs cs' : List Int} {rs rs' : List (List Int)} {en q stop k : Nat} (hco : Oct cs) (h1 : 1 ≤ cs.length) (hop : Opn cs rs en) (hq : q = hstart cs.length (1 - sideOf cs)) (hst : stop = hstart cs.length (2 - sideOf cs)) (hroom : q + needs rs' ≤ stop)
    (hk : k ≤ (rnEv q stop (1 - sideOf cs) rs').length) (L : Left cs ((rnEv q stop (1 - sideOf cs) rs').take k) cs') :
    (Opn cs' rs en ∧ k < (rnEv q stop (1 - sideOf cs) rs').length) ∨ (Opn cs' rs' (q + needs rs') ∧ 0 < k) := by
  have hs1 := sideOf_le (cs := cs)
  have hsl : stop ≤ cs.length := by rw [hst]; exact hstart_le h1 (by omega)
  have hp1 := hstart_pos (n := cs.length) (s := 1 - sideOf cs)
  have hlen : (rnEv q stop (1 - sideOf cs) rs').length = (runEv q rs' ++ endEv (q + needs rs') stop).length + 3 := by
    unfold rnEv
    rw [List.length_append]
    rfl
  have hps : allS (runEv q rs' ++ endEv (q + needs rs') stop) := allS_app (allS_runEv _ _) (allS_endEv _ _)
  have hpar := run_par rs' q cs hroom hsl
  have hul : (updE cs (runEv q rs' ++ endEv (q + needs rs') stop)).length = cs.length := updE_len _ _
  have hin : ∀ {x o : Int}, some (x, o) ∈ runEv q rs' ++ endEv (q + needs rs') stop → (q : Int) ≤ x ∧ x < stop := fun {x o} z => by
    rcases List.mem_append.mp z with z | z
    · have := runEv_mem z; omega
    · have := endEv_mem z; omega
  have hrn : rnEv q stop (1 - sideOf cs) rs' = runEv q rs' ++ endEv (q + needs rs') stop ++ [none, some (0, ((1 - sideOf cs : Nat) : Int)), none] := rfl
  rw [hlen] at hk ⊢
  rw [hrn] at L
  -- where the old records lie
  have away : ∀ j : Nat, (j = 0 ∨ (hstart cs.length (sideOf cs) ≤ j ∧ j < hstart cs.length (sideOf cs + 1))) → (j : Int) < q ∨ (stop : Int) ≤ j := by
    intro j hj
    rcases hj with rfl | ⟨a, b⟩
    · left; omega
    · have : sideOf cs = 0 ∨ sideOf cs = 1 := by omega
      rcases this with z | z
      · have e1 : q = hstart cs.length 1 := by rw [hq, z]
        have e2 : hstart cs.length (sideOf cs + 1) = hstart cs.length 1 := by rw [z]
        left; omega
      · have e1 : stop = hstart cs.length 1 := by rw [hst, z]
        have e2 : hstart cs.length (sideOf cs) = hstart cs.length 1 := by rw [z]
        right; omega
  have hout : ∀ j : Nat, ((j : Int) < q ∨ (stop : Int) ≤ j) → (updE cs (runEv q rs' ++ endEv (q + needs rs') stop))[j]? = cs[j]? := fun j hj => updE_out _ _ fun x o z => by
    have := hin z; omega
  have hno : ∀ j : Nat, ((j : Int) < q ∨ (stop : Int) ≤ j) → ∀ v, some ((j : Int), v) ∉ runEv q rs' ++ endEv (q + needs rs') stop := fun j hj v z => by
    have := hin z; omega
  generalize runEv q rs' ++ endEv (q + needs rs') stop = pre at hps hpar hul hout hno L hk
  have old : (∀ j : Nat, ((j : Int) < q ∨ (stop : Int) ≤ j) → 0 < j → cs'[j]? = cs[j]?) → sideOf cs' = sideOf cs → Opn cs' rs en := fun h h0 => by
    unfold Opn
    rw [L.len, h0]
    exact Par.congr hco hop fun j a _ b => h j (away j (.inr ⟨a, b⟩)) (by have := hstart_pos (n := cs.length) (s := sideOf cs); omega)
  have new : sideOf cs' = 1 - sideOf cs → (∀ j : Nat, 0 < j → cs'[j]? = (updE cs pre)[j]?) → Opn cs' rs' (q + needs rs') := fun h0 h => by
    unfold Opn
    rw [L.len, h0, ← hq, show 1 - sideOf cs + 1 = 2 - sideOf cs by omega, ← hst]
    refine Par.congr ?_ hpar fun j a _ _ => h j (by omega)
    intro c hc
    -- all octets: by the cells left
    obtain ⟨i, hi⟩ := List.mem_iff_getElem?.mp hc
    by_cases hz : i = 0
    · rw [hz, hout 0 (.inl (by omega))] at hi
      exact oct_nn hco hi
    · rw [← h i (by omega)] at hi
      exact oct_nn L.oct hi
  have a0 := away 0 (.inl rfl)
  rcases cut3 hps hk L with ⟨c1, c2⟩ | ⟨c1, c2⟩ | ⟨c1, c2⟩ | ⟨c1, c2⟩
  · exact .inl ⟨old (fun j hj _ => c2 j (hno j hj)) (sideOf_congr (c2 0 (hno 0 a0))), by omega⟩
  · exact .inl ⟨old (fun j hj _ => by rw [c2 j, hout j hj]) (sideOf_congr (by rw [c2 0, hout 0 a0])), by omega⟩
  · have h2 := sideOf_le (cs := cs')
    by_cases hz : sideOf cs' = sideOf cs
    · exact .inl ⟨old (fun j hj h0 => by rw [c2 j (by omega), hout j hj]) hz, by omega⟩
    · exact .inr ⟨new (by omega) fun j h0 => c2 j (by omega), by omega⟩
  · refine .inr ⟨new ?_ fun j h0 => ?_, by omega⟩
    · unfold sideOf
      rw [c2 0, Int.toNat_zero, List.getElem?_set_self (by rw [hul]; omega)]
      show (((1 - ((cs[0]?.getD 0) % 2).toNat : Nat) : Int) % 2).toNat = _
      omega
    · rw [c2 j, Int.toNat_zero, List.getElem?_set_ne (by omega)]
/-- all events told -/
theorem Left.all {cs : List Int} {es : List Ev} (ho : Oct (updE cs es)) (hf : fl es = es) : Left cs es (updE cs es) := ⟨updE_len _ _, ho, fun j _ => by rw [hf]⟩
theorem fl_tail {pre : List Ev} {x : Int × Int} : fl (pre ++ [none, some x, none]) = pre ++ [none, some x, none] := by
  rw [show pre ++ [none, some x, none] = (pre ++ [none, some x]) ++ [none] by simp]
  exact fl_none _
theorem datEv_B : ∀ {r : List Int} {q : Nat}, Oct r → evB (datEv q r)
  | [], _, _ => fun x o h => by cases h
  | y :: r, q, hr => fun x o h => by
    rcases List.mem_cons.mp (show (some (x, o) : Ev) ∈ (some ((q : Int), y) : Ev) :: datEv (q + 1) r from h) with h | h
    · injection h with h
      injection h with h1 h2
      subst h2
      exact hr _ (List.mem_cons_self ..)
    · exact datEv_B (fun c hc => hr c (List.mem_cons_of_mem _ hc)) x o h
theorem evB_app {a b : List Ev} (ha : evB a) (hb : evB b) : evB (a ++ b) := fun x o h => (List.mem_append.mp h).elim (ha x o) (hb x o)
theorem recEv_B {r : List Int} {q : Nat} (hr : Oct r) (hl : r.length ≤ 20000) : evB (recEv q r) := evB_app (fun x o h => by
  simp only [List.mem_cons, List.mem_nil_iff, or_false, Option.some.injEq, Prod.mk.injEq] at h
  rcases h with ⟨_, rfl⟩ | ⟨_, rfl⟩ <;> omega) (datEv_B hr)
theorem endEv_B {q stop : Nat} : evB (endEv q stop) := fun x o h => by
  have := (endEv_mem h).2.2
  omega
theorem tail_B {x : Int} {o : Int} (h : 0 ≤ o ∧ o < 256) : evB [none, some (x, o), none] := fun y v z => by
  simp only [List.mem_cons, List.mem_nil_iff, or_false, Option.some.injEq, Prod.mk.injEq, reduceCtorEq, false_or] at z
  obtain ⟨_, rfl⟩ := z
  exact h
theorem runEv_B : ∀ {rs : List (List Int)} {q : Nat}, (∀ r ∈ rs, Oct r ∧ r.length ≤ 20000) → evB (runEv q rs)
  | [], _, _ => fun x o h => by cases h
  | r :: rs, q, hr => fun x o h => by
    rcases List.mem_cons.mp (show (some (x, o) : Ev) ∈ (some ((q : Int), 1) : Ev) :: (recEv q r ++ runEv (q + 3 + r.length) rs) from h) with h | h
    · injection h with h
      injection h with h1 h2
      omega
    · have h0 := hr r (List.mem_cons_self ..)
      exact evB_app (recEv_B h0.1 h0.2) (runEv_B fun c hc => hr c (List.mem_cons_of_mem _ hc)) x o h
theorem wrEv_B {r : List Int} {en stop : Nat} (hr : Oct r) (hl : r.length ≤ 20000) : evB (wrEv en stop r) := evB_app (evB_app (recEv_B hr hl) endEv_B) (tail_B (by decide))
theorem rnEv_B {rs : List (List Int)} {q stop s : Nat} (hs : s ≤ 1) (hr : ∀ r ∈ rs, Oct r ∧ r.length ≤ 20000) : evB (rnEv q stop s rs) := evB_app (evB_app (runEv_B hr) endEv_B) (tail_B (by omega))
theorem evOk_app {n : Nat} {a b : List Ev} (ha : evOk n a) (hb : evOk n b) : evOk n (a ++ b) := fun x o h => (List.mem_append.mp h).elim (ha x o) (hb x o)
theorem tail_ok {n : Nat} {x o : Int} (h : 0 ≤ x ∧ x < n) : evOk n [none, some (x, o), none] := fun y v z => by
  simp only [List.mem_cons, List.mem_nil_iff, or_false, Option.some.injEq, Prod.mk.injEq, reduceCtorEq, false_or] at z
  obtain ⟨rfl, _⟩ := z
  exact h
theorem wrEv_ok {r : List Int} {en stop n : Nat} (h : en + 3 + r.length ≤ stop) (hs : stop ≤ n) : evOk n (wrEv en stop r) := evOk_app (evOk_app (fun x o z => by have := recEv_mem z; omega) fun x o z => by have := endEv_mem z; omega) (tail_ok (by omega))
theorem rnEv_ok {rs : List (List Int)} {q stop s n : Nat} (h : q + needs rs ≤ stop) (hs : stop ≤ n) (hn : 1 ≤ n) : evOk n (rnEv q stop s rs) := evOk_app (evOk_app (fun x o z => by have := runEv_mem z; omega) fun x o z => by have := endEv_mem z; omega) (tail_ok (by omega))
theorem wrEv_len {r : List Int} {en stop : Nat} : (wrEv en stop r).length ≤ r.length + 6 := by
  unfold wrEv endEv
  rw [List.length_append, List.length_append, recEv_len]
  split <;> simp
theorem rnEv_len {rs : List (List Int)} {q stop s : Nat} : (rnEv q stop s rs).length ≤ needs rs + 4 := by
  unfold rnEv endEv
  rw [List.length_append, List.length_append, runEv_len]
  split <;> simp
end
end K60
namespace K60
open PySem PySem.Spec PyProof.Rows L2 RZ T2
local macro_rules | `(tactic| walk_at "st") => `(tactic| first
  | with_reducible refine as_seq ?_ | with_reducible refine as_if ?_ | with_reducible refine as_ret ?_ | with_reducible refine as_set ?_ | with_reducible refine as_drop ?_ | with_reducible refine as_next ?_
  | with_reducible refine as_asg ?_ | with_reducible refine as_retN ?_ | with_reducible refine as_brk ?_ | with_reducible refine as_cont ?_
  | with_reducible refine at_test ?_ | with_reducible refine at_B ?_ | with_reducible refine at_and ?_ | with_reducible refine at_or ?_ | with_reducible refine at_not ?_ | with_reducible refine at_yes ?_
  | with_reducible refine ae_op ?_ | with_reducible refine ae_un ?_ | with_reducible refine ae_cb ?_ | with_reducible refine aa_cons ?_ | with_reducible refine aa_nil ?_ | with_reducible refine ae_if ?_
  | with_reducible refine ae_andV ?_ | with_reducible refine ae_orV ?_ | with_reducible refine ae_notV ?_ | with_reducible refine ae_chain ?_
  | with_reducible refine ae_int ?_ | with_reducible refine ae_str ?_ | with_reducible refine ae_bl ?_ | with_reducible refine ae_non ?_ | with_reducible refine ae_ty ?_ | with_reducible refine ae_ref ?_
  | refine ae_varX rfl ?_ | refine ae_var rfl ?_
  | with_reducible refine ar_add ?_ | with_reducible refine ar_sub ?_ | with_reducible refine ar_lt ?_ | with_reducible refine ar_le ?_ | with_reducible refine ar_gt ?_ | with_reducible refine ar_ge ?_
  | with_reducible refine ar_eqI ?_ | with_reducible refine ar_neI ?_
  | with_reducible refine ⟨_, rfl, ?_⟩
  | refine ae_callG ?_ | refine ae_methG ?_ | refine ⟨(show List.lookup _ _ = none from rfl), ?_⟩)
section
variable {P : Program} {w : World} {K : PySem.W.Frag} {mg : Str → Option Value} {base : Heap} {a : Ad} {fd : Fds}

/-! ### repr of records -/
structure RecOk (rs : List (List Int)) : Prop where
  nd : needs rs ≤ 1500
  oc : ∀ r ∈ rs, Oct r
theorem needs_len : ∀ rs : List (List Int), 3 * rs.length ≤ needs rs
  | [] => Nat.le_refl _
  | r :: rs => by
    have := needs_len rs
    rw [needs_cons, List.length_cons]
    omega
theorem needs_mem : ∀ {rs : List (List Int)} {r : List Int}, r ∈ rs → r.length + 3 ≤ needs rs
  | r' :: rs, r, h => by
    rw [needs_cons]
    rcases List.mem_cons.mp h with rfl | h
    · omega
    · have := needs_mem h
      omega
theorem good_recs (n : Nat) (rs : List (List Int)) : goods (n + 1) (rs.map recD) = true := goods_all fun d hd => by
  obtain ⟨r, _, rfl⟩ := List.mem_map.mp hd
  show goods n (r.map T2.D.int) = true
  exact goods_ints _
theorem RecOk.shown {rs : List (List Int)} (h : RecOk rs) : (toP (.tup (rs.map recD))).showable = true ∧ (shownD (.tup (rs.map recD))).length ≤ 16000000 := by
  have hr : ∀ r ∈ rs, (shownD (recD r)).length ≤ 18003 ∧ (toP (recD r)).showable = true := fun r hm => by
    have h1 := needs_mem hm
    have h2 := h.nd
    have ho := h.oc r hm
    have e : ∀ d ∈ r.map T2.D.int, (shownD d).length ≤ 10 ∧ (toP d).showable = true := fun d hd => by
      obtain ⟨i, hi, rfl⟩ := List.mem_map.mp hd
      have := ho i hi
      exact sho_int this.1 (by omega)
    refine ⟨?_, showable_tup fun d hd => (e d hd).2⟩
    have := shown_tup (ds := r.map T2.D.int) (n := 10) fun d hd => (e d hd).1
    rw [List.length_map] at this
    show (shownD (.tup (r.map T2.D.int))).length ≤ _
    omega
  refine ⟨showable_tup fun d hd => ?_, ?_⟩
  · obtain ⟨r, hm, rfl⟩ := List.mem_map.mp hd
    exact (hr r hm).2
  · have := shown_tup (ds := rs.map recD) (n := 18003) fun d hd => by
      obtain ⟨r, hm, rfl⟩ := List.mem_map.mp hd
      exact (hr r hm).1
    rw [List.length_map] at this
    have h1 := needs_len rs
    have h2 := h.nd
    omega
theorem arl_reprR {K : PySem.W.Frag} {M : Mem} {Ψ : PsiE} {rs : List (List Int)} (h : RecOk rs) (k : Ψ (.str (shownD (.tup (rs.map recD)))) M) : ARL K (rRepr K) [.tup (rs.map recD)] M Ψ :=
  arl_reprW (n := 2) rfl (by show goods 1 _ = true; exact good_recs 0 rs) (by decide) h.shown.1 h.shown.2 k
theorem cut_mid {xs : List D} {i j : Int} (h0 : 0 ≤ i) (h1 : 0 ≤ j) : T2.cutD xs (some i) (some j) = (xs.take j.toNat).drop i.toNat := by
  unfold T2.cutD
  show (xs.drop (if i < 0 then (i + (xs.length : Int)).toNat else min i.toNat xs.length)).take ((if j < 0 then (j + (xs.length : Int)).toNat else min j.toNat xs.length) - (if i < 0 then (i + (xs.length : Int)).toNat else min i.toNat xs.length)) = _
  rw [if_neg (by omega), if_neg (by omega)]
  refine List.ext_getElem? fun n => ?_
  rw [List.getElem?_take, List.getElem?_drop, List.getElem?_drop, List.getElem?_take]
  by_cases hi : i.toNat ≤ xs.length
  · rw [Nat.min_eq_left hi]
    by_cases hn : i.toNat + n < min j.toNat xs.length
    · rw [if_pos (by omega), if_pos (by omega)]
    · rw [if_neg (by omega)]
      by_cases hj : i.toNat + n < j.toNat
      · rw [if_pos hj, List.getElem?_eq_none (by omega)]
      · rw [if_neg hj]
  · rw [Nat.min_eq_right (by omega : xs.length ≤ i.toNat), List.getElem?_eq_none (by omega : xs.length ≤ xs.length + n), List.getElem?_eq_none (by omega : xs.length ≤ i.toNat + n)]
    split <;> split <;> rfl
/-! ### the law's cuts -/
abbrev a_cuts (a : Ad) : ASp := fun ds M Ψ Χ => ∃ (h c o e : Addr) (cells : List Int) (old new : List (List Int)) (evs ne : List Ev) (cuts : Int),
  ds = [.ref h, .obj a.Disk (dskF (cells.map D.int) o e), .int (evs.length : Nat), .tup (old.map recD), .tup (new.map recD), .int cuts] ∧ Rng h c M ∧ M e = some (.lst ((evs ++ ne).map evD)) ∧ e ≠ h ∧ e ≠ c ∧
  1 ≤ cells.length ∧ cells.length ≤ 1500 ∧ evs.length + ne.length ≤ 80000 ∧ Oct cells ∧ evOk cells.length (evs ++ ne) ∧ evB (evs ++ ne) ∧ fl evs = evs ∧ 0 ≤ cuts ∧ cuts ≤ 4 ∧ RecOk old ∧ RecOk new ∧
  (∀ k cs', k ≤ ne.length → Left (updE cells evs) (ne.take k) cs' → ∃ en, (Opn cs' old en ∧ k < ne.length) ∨ (Opn cs' new en ∧ 0 < k)) ∧
  ∀ M', Rng h c M' → But2 h c M M' → Ψ (.bl true) M'
theorem ok__law_cuts_right (T : Txt P K mg a) (Df : Defs K a fd) : FnG P w K mg base 7 a._law_cuts_right fd._law_cuts_right ps__law_cuts_right (lift K (a_cuts a)) := by
  refine okG Df._law_cuts_right sc__law_cuts_right (fun ds M Ψ Χ ⟨_, _, _, _, _, _, _, _, _, _, h, _⟩ => by subst h; rfl) fun cdv A outer s H E hr hg => ?_
  refine ⟨_, (pss_cons (ps_set (i := 6) sc__law_cuts_right.nd rfl (Or.inr rfl) (pg_meth0 (pv 1) T.cl_Disk T.me_Disk_events (ok_Disk_events T Df) (hr.mono (by decide)) hg (bd_Disk_events_1_ Df) (takes_of rfl rfl rfl rfl) pk_nil))
      (pss_cons (ps_asg (pg_call (ok__law_base T Df) (hr.mono (by decide)) hg (by rfl) T.g__law_base T.k__law_base (bd__law_base_2_ Df) (takes_of rfl rfl rfl rfl) (pa_cons (pe_fld (pv 1) rfl) (pa_cons (pe_slice sl_tupA (pv 6) po_none (po_some (pv 2))) pa_nil)) pk_nil) (pg_lst rfl (pgs_cons (pg_name (i := 7) sc__law_cuts_right.nd rfl (Or.inl rfl)) (pgs_cons (pg_name (i := 8) sc__law_cuts_right.nd rfl (Or.inl rfl)) pgs_nil))))
      (pss_cons (ps_set (i := 9) sc__law_cuts_right.nd rfl (Or.inl rfl) (pe_op op_catL (pe_lst (pa_cons (pv 2) (pa_cons (pe_callB call_len (by rfl) T.n_len (by decide +kernel) (pa_cons (pv 6) pa_nil)) pa_nil))) (pe_lc (own := [("_law_turn_here", 12)]) rfl sc__law_cuts_right.nd (pi_range1 (by rfl) T.n_range (pa_cons (pv 5) pa_nil)) (blkOk_by (own := [("_law_turn_here", 12)]) (N := N__law_cuts_right) (sc := defScope s__law_cuts_right) (by decide +kernel)) (fun _ _ _ _ _ => (pg_name (i := 12) sc__law_cuts_right.nd rfl (Or.inl rfl))) (fun _ _ _ _ _ => pts_nil) (fun _ _ _ _ _ => (pe_op op_add (pv 2) (pg_call (ok__law_draw T Df) (hr.mono (by decide)) hg (by rfl) T.g__law_draw T.k__law_draw (bd__law_draw_2_ Df) takes0 (pa_cons (pv 0) (pa_cons (pe_op op_add (pe_op op_sub (pe_callB (r := cLen K) call_len (by rfl) T.n_len (by decide +kernel) (pa_cons (pv 6) pa_nil)) (pv 2)) pe_int) pa_nil)) pk_nil))))))
      (pss_cons (ps_for (passes_of rfl) rfl (pi_list (pe_op op_catL (pv 9) (pe_lst (pa_cons (pe_callB (call_max2 rfl) (by rfl) T.n_max (by decide +kernel) (pa_cons (pv 2) (pa_cons (pe_op op_sub (pe_callB call_len (by rfl) T.n_len (by decide +kernel) (pa_cons (pv 6) pa_nil)) pe_int) pa_nil))) (pa_cons (pe_callB (call_max2 rfl) (by rfl) T.n_max (by decide +kernel) (pa_cons (pv 2) (pa_cons (pe_op op_sub (pe_callB call_len (by rfl) T.n_len (by decide +kernel) (pa_cons (pv 6) pa_nil)) pe_int) pa_nil))) pa_nil))))) (pg_name (i := 10) sc__law_cuts_right.nd rfl (Or.inl rfl))
      (pss_cons (ps_set (i := 11) sc__law_cuts_right.nd rfl (Or.inl rfl) (pe_callB (cr_repr hg (hun150 hr)) (by rfl) T.n_repr (by decide +kernel) (pa_cons (pg_call (ok__law_opened T Df) (hr.mono (by decide)) hg (by rfl) T.g__law_opened T.k__law_opened (bd__law_opened_1_ Df) (takes_of rfl rfl rfl rfl) (pa_cons (pg_call (ok__law_left T Df) (hr.mono (by decide)) hg (by rfl) T.g__law_left T.k__law_left (bd__law_left_3_ Df) (takes_of rfl rfl rfl rfl) (pa_cons (pv 0) (pa_cons (pv 7) (pa_cons (pe_slice sl_tupA (pv 6) (po_some (pv 8)) (po_some (pv 10))) pa_nil))) pk_nil) pa_nil) pk_nil) pa_nil)))
      (pss_cons (ps_if (PW.pt (pw_and (pt_cmpR op_ne (pv 11) (pe_callB (cr_repr hg (hun150 hr)) (by rfl) T.n_repr (by decide +kernel) (pa_cons (pv 3) pa_nil)) (nomark _)) (pw_and1 (pt_cmpR op_ne (pv 11) (pe_callB (cr_repr hg (hun150 hr)) (by rfl) T.n_repr (by decide +kernel) (pa_cons (pv 4) pa_nil)) (nomark _)))))
      (pss_one (ps_ret pe_bl))
      pss_nil)
      (pss_one (ps_if (PW.pt (pw_or (PW.pt (pw_and (pt_cmpR op_eq (pv 10) (pv 2) (nomark _)) (pw_and1 (pt_cmpR op_ne (pv 11) (pe_callB (cr_repr hg (hun150 hr)) (by rfl) T.n_repr (by decide +kernel) (pa_cons (pv 3) pa_nil)) (nomark _))))) (pw_or1 (PW.pt (pw_and (pt_cmpR op_eq (pv 10) (pe_callB call_len (by rfl) T.n_len (by decide +kernel) (pa_cons (pv 6) pa_nil)) (nomark _)) (pw_and1 (pt_cmpR op_ne (pv 11) (pe_callB (cr_repr hg (hun150 hr)) (by rfl) T.n_repr (by decide +kernel) (pa_cons (pv 4) pa_nil)) (nomark _))))))))
      (pss_one (ps_ret pe_bl))
      pss_nil)))))
      (pss_one (ps_ret pe_bl)))))), ?_⟩
  rintro ds M Ψ Χ ⟨h, c, o, e, cells, old, new, evs, ne, cuts, rfl, R, me, eh, ec, hc1, hc2, hel, hco, hok, hB, hfl, hq0, hq1, ho, hn, hcut, k⟩
  have hok1 : evOk cells.length evs := fun x v z => hok x v (List.mem_append_left _ z)
  repeat walk_at "st"
  refine ⟨rfl, rfl, _, o, e, evs ++ ne, rfl, me, ?_⟩
  refine as_seq (as_asg ?_)
  repeat walk_at "st"
  refine ae_fldO T.cl_Disk T.nf_Disk_cells ?_
  repeat walk_at "st"
  refine ⟨_, _, rfl, rfl, ?_⟩
  repeat walk_at "st"
  refine ae_slT ?_
  repeat walk_at "st"
  refine ao_none (ao_some ?_)
  repeat walk_at "st"
  rw [cut_to (by omega), Int.toNat_natCast, ← List.map_take, List.take_left' rfl]
  repeat walk_at "st"
  refine ⟨rfl, rfl, cells, evs, rfl, by omega, by omega, hok1, ?_⟩
  rw [hfl]
  refine ag_of [7, 8] (agc_lst rfl (agcs_cons (agc_name (by decide) (agcs_cons (agc_name (by decide) (agcs_nil ?_))))))
  repeat walk_at "st"
  refine ae_lst ?_
  repeat walk_at "st"
  refine arl_lenT ?_
  rw [List.length_map, List.length_append]
  repeat walk_at "st"
  refine ⟨by simp, ?_⟩
  refine ae_lcF (ai_rng1 ?_)
  repeat walk_at "st"
  refine ⟨by omega, by rw [rngD_length]; omega, fun i acc M3 => ∃ ns : List Int, acc = ns.map D.int ∧ ns.length = i ∧ (∀ x ∈ ns, (evs.length : Int) ≤ x ∧ x ≤ evs.length + ne.length) ∧ Rng h c M3 ∧ But2 h c M M3, ⟨[], rfl, rfl, (fun _ z => by cases z), R, But2.refl⟩, ?_, ?_⟩
  · rintro i2 d2 acc2 M3 p2 hx2 ⟨ns, rfl, hcl2, hns, R3, b3⟩ hp2 _
    obtain ⟨_, rfl⟩ := rngD_get hx2
    obtain ⟨m1, m2⟩ := R3.fresh hp2
    refine agc_name (by decide) (at_yes (ite3 (fun _ => ?_) fun z => by cases z))
    repeat walk_at "st"
    refine arl_lenT ?_
    rw [List.length_map, List.length_append]
    repeat walk_at "st"
    refine ⟨rfl, rfl, h, c, _, rfl, R3.set m1 m2, by omega, by omega, fun r M4 r0 r1 R4 b4 => ?_⟩
    repeat walk_at "st"
    obtain ⟨M5, e5, m5, R5, b5⟩ := turn b3 R3 hp2 R4 b4
    refine ⟨M5, e5, m5, ns ++ [(evs.length : Int) + r], by rw [List.map_append]; rfl, by rw [List.length_append, hcl2]; rfl, fun c hc => ?_, R5, b5⟩
    rcases List.mem_append.mp hc with z | z
    · exact hns c z
    · rw [List.mem_singleton] at z
      rw [z]; omega
  rintro acc2 M3 ⟨ns, rfl, hcl2, hns, R3, b3⟩
  rw [rngD_length] at hcl2
  have hne : (((evs.length + ne.length : Nat)) : Int) = (evs.length : Int) + ne.length := by omega
  refine ar_catL (by simp; omega) ?_
  have eL : [D.int (evs.length : Nat), D.int ((evs.length + ne.length : Nat) : Int)] ++ ns.map D.int = ([(evs.length : Int), (evs.length : Int) + ne.length] ++ ns).map D.int := by
    rw [List.map_append, hne]
    rfl
  rw [eL]
  repeat walk_at "st"
  have hxs : ∀ x ∈ [(evs.length : Int), (evs.length : Int) + ne.length] ++ ns ++ [(if (evs.length : Int) + ne.length - 1 > evs.length then (evs.length : Int) + ne.length - 1 else evs.length), (if (evs.length : Int) + ne.length - 2 > evs.length then (evs.length : Int) + ne.length - 2 else evs.length)],
      (evs.length : Int) ≤ x ∧ x ≤ evs.length + ne.length := by
    intro x hx
    rcases List.mem_append.mp hx with hx | hx
    · rcases List.mem_append.mp hx with hx | hx
      · simp only [List.mem_cons, List.mem_nil_iff, or_false] at hx
        rcases hx with rfl | rfl <;> omega
      · exact hns x hx
    · simp only [List.mem_cons, List.mem_nil_iff, or_false] at hx
      rcases hx with rfl | rfl <;> split <;> omega
  refine as_for (ai_lst ?_)
  repeat walk_at "st"
  refine ae_lst ?_
  repeat walk_at "st"
  refine arl_lenT ?_
  rw [List.length_map, List.length_append, hne]
  repeat walk_at "st"
  refine arl_max2 ?_
  repeat walk_at "st"
  refine arl_lenT ?_
  rw [List.length_map, List.length_append, hne]
  repeat walk_at "st"
  refine arl_max2 ?_
  repeat walk_at "st"
  refine ⟨by simp, ?_⟩
  refine ar_catL (by simp; omega) ?_
  have eL2 : ∀ x y : Int, ([(evs.length : Int), (evs.length : Int) + ne.length] ++ ns).map D.int ++ [D.int x, D.int y] = ([(evs.length : Int), (evs.length : Int) + ne.length] ++ ns ++ [x, y]).map D.int := fun x y => by simp
  rw [eL2]
  generalize [(evs.length : Int), (evs.length : Int) + ne.length] ++ ns ++ [(if (evs.length : Int) + ne.length - 1 > evs.length then (evs.length : Int) + ne.length - 1 else evs.length), (if (evs.length : Int) + ne.length - 2 > evs.length then (evs.length : Int) + ne.length - 2 else evs.length)] = xl at hxs
  repeat walk_at "st"
  generalize ([(evs.length : Int), (evs.length : Int) + ne.length] ++ ns).map D.int = ends
  refine ⟨fun i Δ' M' => (∃ (u v : Option D), Δ' = [some (.ref h), some (.obj a.Disk (dskF (cells.map D.int) o e)), some (.int (evs.length : Nat)), some (.tup (old.map recD)), some (.tup (new.map recD)), some (.int cuts), some (.tup ((evs ++ ne).map evD)), some (.tup ((updE cells evs).map D.int)), some (.int (evs.length : Nat)), some (.lst ends), u, v, none]) ∧ Rng h c M' ∧ But2 h c M M', ⟨⟨_, _, rfl⟩, R3, b3⟩, ?_, ?_⟩
  · rintro i d Δ' M' hx ⟨⟨u, v, rfl⟩, R', b'⟩
    rw [List.getElem?_map] at hx
    obtain ⟨x, hxp, rfl⟩ := Option.map_eq_some_iff.mp hx
    obtain ⟨x0, x1⟩ := hxs x (List.mem_of_getElem? hxp)
    obtain ⟨kk, hkk⟩ : ∃ kk : Nat, x = (evs.length : Int) + kk := ⟨(x - evs.length).toNat, by omega⟩
    refine ag_name ?_
    repeat walk_at "st"
    refine ae_slT ?_
    repeat walk_at "st"
    refine ao_some ?_
    repeat walk_at "st"
    refine ao_some ?_
    repeat walk_at "st"
    have esl : T2.cutD ((evs ++ ne).map evD) (some (evs.length : Nat)) (some x) = (ne.take kk).map evD := by
      rw [cut_mid (by omega) (by omega), ← List.map_take, ← List.map_drop, hkk, show ((evs.length : Int) + kk).toNat = evs.length + kk by omega, Int.toNat_natCast, List.take_length_add_append, List.drop_left' rfl]
    rw [esl]
    have hkl : (ne.take kk).length = kk := by rw [List.length_take]; omega
    have hok2 : evOk (updE cells evs).length (ne.take kk) := fun y v z => by rw [updE_len]; exact hok y v (List.mem_append_right _ (List.mem_of_mem_take z))
    refine ⟨rfl, rfl, h, c, _, ne.take kk, rfl, R', by rw [updE_len]; omega, by omega, hok2, fun y v z => hB y v (List.mem_append_right _ (List.mem_of_mem_take z)), hco.updE fun y v z => hB y v (List.mem_append_left _ z), fun cs' M2 L R2 b2 => ?_⟩
    have hcl : cs'.length = cells.length := by rw [L.len, updE_len]
    have hfine : Fine cs' := ⟨by omega, by omega, L.oct⟩
    obtain ⟨en, hen⟩ := hcut kk cs' (by omega) L
    have b02 := b'.trans b2
    rcases hen with ⟨hop, hlt⟩ | ⟨hop, hlt⟩
    · repeat walk_at "st"
      refine ⟨rfl, rfl, cs', old, en, rfl, hfine, hop, ?_⟩
      repeat walk_at "st"
      refine arl_reprR ho ?_
      repeat walk_at "st"
      refine arl_reprR ho ?_
      refine ar_neS ?_
      refine ⟨_, rfl, ite3 (fun z => by simp at z) fun _ => ?_⟩
      repeat walk_at "st"
      rw [if_neg Bool.false_ne_true]
      repeat walk_at "st"
      have tail : ∀ (Φ : Bool → Mem → Prop), Φ false M2 → AT K (fun cls d _ H => E cls d H) (fun c f M' => Χ c f M') [some (.ref h), some (.obj a.Disk (dskF (cells.map D.int) o e)), some (.int (evs.length : Nat)), some (.tup (old.map recD)), some (.tup (new.map recD)), some (.int cuts), some (.tup ((evs ++ ne).map evD)), some (.tup ((updE cells evs).map D.int)), some (.int (evs.length : Nat)), some (.lst ends), some (.int x), some (.str (shownD (.tup (old.map recD)))), none]
          (tAnd (tTest (tOp rEq (tVar 10) (tCB (cLen K) (tCons (tVar 6) tNil)))) (tTest (tOp rNe (tVar 11) (tCB (rRepr K) (tCons (tVar 4) tNil))))) M2 Φ := by
        intro Φ hΦ
        repeat walk_at "st"
        refine arl_lenT ?_
        rw [List.length_map, List.length_append, hne]
        repeat walk_at "st"
        exact ite3 (fun hz => absurd (of_decide_eq_true hz) (by omega)) fun _ => hΦ
      refine ite3 (fun hz => ?_) (fun hz => ?_)
      · repeat walk_at "st"
        refine arl_reprR ho ?_
        refine ar_neS ?_
        refine ⟨_, rfl, ?_⟩
        rw [if_neg (by simp)]
        refine tail _ ?_
        rw [if_neg Bool.false_ne_true]
        exact as_next ⟨⟨_, _, rfl⟩, R2, b02⟩
      · rw [if_neg Bool.false_ne_true]
        refine tail _ ?_
        rw [if_neg Bool.false_ne_true]
        exact as_next ⟨⟨_, _, rfl⟩, R2, b02⟩
    · repeat walk_at "st"
      refine ⟨rfl, rfl, cs', new, en, rfl, hfine, hop, ?_⟩
      repeat walk_at "st"
      refine arl_reprR hn ?_
      repeat walk_at "st"
      refine arl_reprR ho ?_
      refine ar_neS ?_
      have tail : ∀ (M4 : Mem) (Φ : Bool → Mem → Prop), Φ false M4 → AT K (fun cls d _ H => E cls d H) (fun c f M' => Χ c f M') [some (.ref h), some (.obj a.Disk (dskF (cells.map D.int) o e)), some (.int (evs.length : Nat)), some (.tup (old.map recD)), some (.tup (new.map recD)), some (.int cuts), some (.tup ((evs ++ ne).map evD)), some (.tup ((updE cells evs).map D.int)), some (.int (evs.length : Nat)), some (.lst ends), some (.int x), some (.str (shownD (.tup (new.map recD)))), none]
          (tAnd (tTest (tOp rEq (tVar 10) (tCB (cLen K) (tCons (tVar 6) tNil)))) (tTest (tOp rNe (tVar 11) (tCB (rRepr K) (tCons (tVar 4) tNil))))) M4 Φ := by
        intro M4 Φ hΦ
        repeat walk_at "st"
        refine arl_lenT ?_
        rw [List.length_map, List.length_append, hne]
        repeat walk_at "st"
        refine ite3 (fun hz => ?_) fun _ => hΦ
        repeat walk_at "st"
        refine arl_reprR hn ?_
        refine ar_neS ?_
        refine ⟨_, rfl, ?_⟩
        rw [decide_eq_true rfl]
        exact hΦ
      have fin : AS K (fun cls d _ H => E cls d H) (tIfS (tOr (tAnd (tTest (tOp rEq (tVar 10) (tVar 2))) (tTest (tOp rNe (tVar 11) (tCB (rRepr K) (tCons (tVar 3) tNil))))) (tAnd (tTest (tOp rEq (tVar 10) (tCB (cLen K) (tCons (tVar 6) tNil)))) (tTest (tOp rNe (tVar 11) (tCB (rRepr K) (tCons (tVar 4) tNil)))))) (tRet (tC (.bl false))) tNext)
          { nx := fun Δ' M' => (∃ (u v : Option D), Δ' = [some (.ref h), some (.obj a.Disk (dskF (cells.map D.int) o e)), some (.int (evs.length : Nat)), some (.tup (old.map recD)), some (.tup (new.map recD)), some (.int cuts), some (.tup ((evs ++ ne).map evD)), some (.tup ((updE cells evs).map D.int)), some (.int (evs.length : Nat)), some (.lst ends), u, v, none]) ∧ Rng h c M' ∧ But2 h c M M', rt := fun _ _ => False, xr := fun c g _ M' => Χ c g M' }
          [some (.ref h), some (.obj a.Disk (dskF (cells.map D.int) o e)), some (.int (evs.length : Nat)), some (.tup (old.map recD)), some (.tup (new.map recD)), some (.int cuts), some (.tup ((evs ++ ne).map evD)), some (.tup ((updE cells evs).map D.int)), some (.int (evs.length : Nat)), some (.lst ends), some (.int x), some (.str (shownD (.tup (new.map recD)))), none] M2 := by
        repeat walk_at "st"
        refine ite3 (fun hz => absurd (of_decide_eq_true hz) (by omega)) fun _ => ?_
        rw [if_neg Bool.false_ne_true]
        refine tail _ _ ?_
        rw [if_neg Bool.false_ne_true]
        exact as_next ⟨⟨_, _, rfl⟩, R2, b02⟩
      refine ⟨_, rfl, ite3 (fun _ => ?_) fun _ => ?_⟩
      · repeat walk_at "st"
        refine arl_reprR hn ?_
        refine ar_neS ?_
        refine ⟨_, rfl, ite3 (fun z => by simp at z) fun _ => as_next ?_⟩
        exact fin.mono (fun _ _ z => z) (fun _ _ z => z.elim) (fun _ _ z => z.elim) (fun _ _ z => z.elim) fun _ _ _ _ z => z
      · rw [if_neg Bool.false_ne_true]
        refine as_next ?_
        exact fin.mono (fun _ _ z => z) (fun _ _ z => z.elim) (fun _ _ z => z.elim) (fun _ _ z => z.elim) fun _ _ _ _ z => z
  · rintro Δ' M' ⟨⟨u, v, rfl⟩, R', b'⟩
    repeat walk_at "st"
    exact k M' R' b'
end
end K60
namespace K60
open PySem PySem.Spec PyProof.Rows L2 RZ T2
local macro_rules | `(tactic| walk_at "st") => `(tactic| first
  | with_reducible refine as_seq ?_ | with_reducible refine as_if ?_ | with_reducible refine as_ret ?_ | with_reducible refine as_set ?_ | with_reducible refine as_drop ?_ | with_reducible refine as_next ?_
  | with_reducible refine as_asg ?_ | with_reducible refine as_retN ?_ | with_reducible refine as_brk ?_ | with_reducible refine as_cont ?_
  | with_reducible refine at_test ?_ | with_reducible refine at_B ?_ | with_reducible refine at_and ?_ | with_reducible refine at_or ?_ | with_reducible refine at_not ?_ | with_reducible refine at_yes ?_
  | with_reducible refine ae_op ?_ | with_reducible refine ae_un ?_ | with_reducible refine ae_cb ?_ | with_reducible refine aa_cons ?_ | with_reducible refine aa_nil ?_ | with_reducible refine ae_if ?_
  | with_reducible refine ae_andV ?_ | with_reducible refine ae_orV ?_ | with_reducible refine ae_notV ?_ | with_reducible refine ae_chain ?_
  | with_reducible refine ae_int ?_ | with_reducible refine ae_str ?_ | with_reducible refine ae_bl ?_ | with_reducible refine ae_non ?_ | with_reducible refine ae_ty ?_ | with_reducible refine ae_ref ?_
  | refine ae_varX rfl ?_ | refine ae_var rfl ?_
  | with_reducible refine ar_add ?_ | with_reducible refine ar_sub ?_ | with_reducible refine ar_lt ?_ | with_reducible refine ar_le ?_ | with_reducible refine ar_gt ?_ | with_reducible refine ar_ge ?_
  | with_reducible refine ar_eqI ?_ | with_reducible refine ar_neI ?_
  | with_reducible refine ⟨_, rfl, ?_⟩
  | refine ae_callG ?_ | refine ae_methG ?_ | refine ⟨(show List.lookup _ _ = none from rfl), ?_⟩)
section
variable {P : Program} {w : World} {K : PySem.W.Frag} {mg : Str → Option Value} {base : Heap} {a : Ad} {fd : Fds}

/-! ### a call -/
structure JM (a : Ad) (h c p o e rl : Addr) (xs cs : List Int) (evs : List Ev) (rs : List (List Int)) (s en : Nat) (M : Mem) : Prop where
  R : Rng h c M
  mp : M p = some (.ins a.Journal (jF (dskO a (xs.map T2.D.int) o e) s rl en))
  ds : DS o e cs evs M
  mr : M rl = some (.lst (rs.map recD))
  ro : rl ≠ o
  re : rl ≠ e
  ph : p ≠ h
  pc : p ≠ c
  oh : o ≠ h
  oc : o ≠ c
  eh : e ≠ h
  ec : e ≠ c
  rh : rl ≠ h
  rc : rl ≠ c
theorem JM.draw {a : Ad} {h c p o e rl : Addr} {xs cs : List Int} {evs : List Ev} {rs : List (List Int)} {s en : Nat} {M M' : Mem} (J : JM a h c p o e rl xs cs evs rs s en M) (R : Rng h c M') (b : But2 h c M M') : JM a h c p o e rl xs cs evs rs s en M' :=
  ⟨R, (b p J.ph J.pc).trans J.mp, J.ds.of (b o J.oh J.oc) (b e J.eh J.ec), (b rl J.rh J.rc).trans J.mr, J.ro, J.re, J.ph, J.pc, J.oh, J.oc, J.eh, J.ec, J.rh, J.rc⟩
structure JI (xs cs : List Int) (evs : List Ev) (rs : List (List Int)) (s en : Nat) : Prop where
  e : cs = updE xs evs
  ox : Oct xs
  l1 : 1 ≤ xs.length
  l2 : xs.length ≤ 1500
  ok : evOk xs.length evs
  B : evB evs
  f0 : fl evs = evs
  s : s = sideOf cs
  op : Opn cs rs en
theorem JI.len {xs cs : List Int} {evs : List Ev} {rs : List (List Int)} {s en : Nat} (I : JI xs cs evs rs s en) : cs.length = xs.length := by rw [I.e, updE_len]
theorem JI.oct {xs cs : List Int} {evs : List Ev} {rs : List (List Int)} {s en : Nat} (I : JI xs cs evs rs s en) : Oct cs := by rw [I.e]; exact I.ox.updE I.B
theorem JI.s1 {xs cs : List Int} {evs : List Ev} {rs : List (List Int)} {s en : Nat} (I : JI xs cs evs rs s en) : s ≤ 1 := by rw [I.s]; exact sideOf_le
theorem hstart_step {n s : Nat} : hstart n (s + 1) = hstart n s + half n := by unfold hstart; rw [Nat.succ_mul]; omega
theorem JI.nd {xs cs : List Int} {evs : List Ev} {rs : List (List Int)} {s en : Nat} (I : JI xs cs evs rs s en) : en = hstart cs.length s + needs rs ∧ en ≤ hstart cs.length (s + 1) ∧ (∀ r ∈ rs, Oct r) ∧ needs rs ≤ half xs.length := by
  have h1 := I.len
  have h2 := I.s1
  have h3 := hstart_le (n := cs.length) (s := s + 1) (by have := I.l1; omega) (by omega)
  have op := I.op
  unfold Opn at op
  rw [← I.s] at op
  obtain ⟨a, b, d⟩ := Par.needs I.oct op h3
  have h4 := hstart_step (n := cs.length) (s := s)
  have h5 := d (by omega)
  rw [← h1]
  exact ⟨a, h5, b, by omega⟩
theorem JI.recs {xs cs : List Int} {evs : List Ev} {rs : List (List Int)} {s en : Nat} (I : JI xs cs evs rs s en) : RecOk rs := by
  obtain ⟨_, _, b, d⟩ := I.nd
  have := I.l2
  unfold half at d
  exact ⟨by omega, b⟩
/-- what every cut of these events leaves -/
def CutP (cs : List Int) (ne : List Ev) (old new : List (List Int)) : Prop := ∀ k cs', k ≤ ne.length → Left cs (ne.take k) cs' → ∃ en, (Opn cs' old en ∧ k < ne.length) ∨ (Opn cs' new en ∧ 0 < k)
theorem JI.write {xs cs r : List Int} {evs : List Ev} {rs : List (List Int)} {s en : Nat} (I : JI xs cs evs rs s en) (hr : Oct r) (hl : r.length ≤ 20000) (hroom : en + 3 + r.length ≤ hstart cs.length (s + 1)) :
    JI xs (updE cs (wrEv en (hstart cs.length (s + 1)) r)) (evs ++ wrEv en (hstart cs.length (s + 1)) r) (rs ++ [r]) s (en + 3 + r.length) ∧ CutP cs (wrEv en (hstart cs.length (s + 1)) r) rs (rs ++ [r]) := by
  have h1 := I.len
  have hl1 := I.l1
  have hs := hstart_le (n := cs.length) (s := s + 1) (by omega) (by have := I.s1; omega)
  have hB := wrEv_B (en := en) (stop := hstart cs.length (s + 1)) hr hl
  have hok := wrEv_ok (n := xs.length) hroom (by omega)
  have ho : Oct (updE cs (wrEv en (hstart cs.length (s + 1)) r)) := I.oct.updE hB
  have hfl : fl (wrEv en (hstart cs.length (s + 1)) r) = wrEv en (hstart cs.length (s + 1)) r := fl_tail
  have hfl2 : fl (evs ++ wrEv en (hstart cs.length (s + 1)) r) = evs ++ wrEv en (hstart cs.length (s + 1)) r := by
    show fl (evs ++ (recEv en r ++ endEv (en + 3 + r.length) (hstart cs.length (s + 1)) ++ [none, some ((en : Int), 1), none])) = _
    rw [← List.append_assoc]
    refine fl_tail.trans ?_
    rw [List.append_assoc]
    rfl
  have cut : CutP cs (wrEv en (hstart cs.length (s + 1)) r) rs (rs ++ [r]) := fun k cs' hk L => by
    rcases wr_cut I.oct (by omega) I.op (by rw [← I.s]) hroom hk L with ⟨x, y⟩ | ⟨x, y⟩
    · exact ⟨_, .inl ⟨x, y⟩⟩
    · exact ⟨_, .inr ⟨x, y⟩⟩
  have all := wr_cut I.oct (by omega) I.op (by rw [← I.s]) hroom (Nat.le_refl _) (by rw [List.take_length]; exact Left.all ho hfl)
  have hop : Opn (updE cs (wrEv en (hstart cs.length (s + 1)) r)) (rs ++ [r]) (en + 3 + r.length) := all.elim (fun z => absurd z.2 (by omega)) fun z => z.1
  refine ⟨⟨by rw [updE_app, ← I.e], I.ox, hl1, I.l2, evOk_app I.ok hok, evB_app I.B hB, hfl2, ?_, hop⟩, cut⟩
  rw [I.s]
  refine (sideOf_congr ?_).symm
  refine updE_out _ _ fun x o z => ?_
  have hpos := hstart_pos (n := cs.length) (s := s)
  have hen := I.nd.1
  rcases List.mem_append.mp z with z | z
  · rcases List.mem_append.mp z with z | z
    · have := recEv_mem z; omega
    · have := endEv_mem z; omega
  · simp only [List.mem_cons, List.mem_nil_iff, or_false, Option.some.injEq, Prod.mk.injEq, reduceCtorEq, false_or] at z
    omega
theorem JI.renew {xs cs : List Int} {evs : List Ev} {rs rs' : List (List Int)} {s en : Nat} (I : JI xs cs evs rs s en) (hr : ∀ r ∈ rs', Oct r ∧ r.length ≤ 20000) (hroom : hstart cs.length (1 - s) + needs rs' ≤ hstart cs.length (2 - s)) :
    JI xs (updE cs (rnEv (hstart cs.length (1 - s)) (hstart cs.length (2 - s)) (1 - s) rs')) (evs ++ rnEv (hstart cs.length (1 - s)) (hstart cs.length (2 - s)) (1 - s) rs') rs' (1 - s) (hstart cs.length (1 - s) + needs rs') ∧
      CutP cs (rnEv (hstart cs.length (1 - s)) (hstart cs.length (2 - s)) (1 - s) rs') rs rs' := by
  have h1 := I.len
  have hl1 := I.l1
  have hs1 := I.s1
  have hs := hstart_le (n := cs.length) (s := 2 - s) (by omega) (by omega)
  have hB := rnEv_B (q := hstart cs.length (1 - s)) (stop := hstart cs.length (2 - s)) (s := 1 - s) (by omega) hr
  have hok := rnEv_ok (s := 1 - s) (n := xs.length) hroom (by omega) hl1
  have ho : Oct (updE cs (rnEv (hstart cs.length (1 - s)) (hstart cs.length (2 - s)) (1 - s) rs')) := I.oct.updE hB
  have hfl : fl (rnEv (hstart cs.length (1 - s)) (hstart cs.length (2 - s)) (1 - s) rs') = rnEv (hstart cs.length (1 - s)) (hstart cs.length (2 - s)) (1 - s) rs' := fl_tail
  have hfl2 : fl (evs ++ rnEv (hstart cs.length (1 - s)) (hstart cs.length (2 - s)) (1 - s) rs') = evs ++ rnEv (hstart cs.length (1 - s)) (hstart cs.length (2 - s)) (1 - s) rs' := by
    unfold rnEv
    rw [← List.append_assoc]
    exact fl_tail
  have hst := I.s
  have cut : CutP cs (rnEv (hstart cs.length (1 - s)) (hstart cs.length (2 - s)) (1 - s) rs') rs rs' := fun k cs' hk L => by
    rw [hst] at hk L hroom
    rcases rn_cut I.oct (by omega) I.op rfl rfl hroom hk L with ⟨x, y⟩ | ⟨x, y⟩
    · exact ⟨_, .inl ⟨x, by rw [hst]; exact y⟩⟩
    · exact ⟨_, .inr ⟨x, y⟩⟩
  have all : _ := rn_cut (rs' := rs') (k := (rnEv (hstart cs.length (1 - sideOf cs)) (hstart cs.length (2 - sideOf cs)) (1 - sideOf cs) rs').length) (cs' := updE cs (rnEv (hstart cs.length (1 - sideOf cs)) (hstart cs.length (2 - sideOf cs)) (1 - sideOf cs) rs')) I.oct (by omega) I.op rfl rfl (by rw [← hst]; exact hroom) (Nat.le_refl _)
    (by rw [List.take_length, ← hst]; exact Left.all ho hfl)
  have hop : Opn (updE cs (rnEv (hstart cs.length (1 - s)) (hstart cs.length (2 - s)) (1 - s) rs')) rs' (hstart cs.length (1 - s) + needs rs') := by
    rw [hst]
    exact all.elim (fun z => absurd z.2 (by omega)) fun z => z.1
  refine ⟨⟨by rw [updE_app, ← I.e], I.ox, hl1, I.l2, evOk_app I.ok hok, evB_app I.B hB, hfl2, ?_, hop⟩, cut⟩
  unfold rnEv
  rw [updE_app]
  have hul : (updE cs (runEv (hstart cs.length (1 - s)) rs' ++ endEv (hstart cs.length (1 - s) + needs rs') (hstart cs.length (2 - s)))).length = cs.length := updE_len _ _
  generalize updE cs (runEv (hstart cs.length (1 - s)) rs' ++ endEv (hstart cs.length (1 - s) + needs rs') (hstart cs.length (2 - s))) = c2 at hul
  show 1 - s = sideOf (c2.set 0 ((1 - s : Nat) : Int))
  unfold sideOf
  rw [List.getElem?_set_self (by omega)]
  show 1 - s = (((1 - s : Nat) : Int) % 2).toNat
  omega
theorem JM.refused {a : Ad} {h c p o e rl : Addr} {xs cs : List Int} {evs : List Ev} {rs : List (List Int)} {s en : Nat} {M : Mem} (J : JM a h c p o e rl xs cs evs rs s en M) : p ≠ o ∧ p ≠ e ∧ p ≠ rl :=
  ⟨fun z => by (have h0 := J.mp; rw [z, J.ds.mo] at h0; cases h0), fun z => by (have h0 := J.mp; rw [z, J.ds.me] at h0; cases h0), fun z => by (have h0 := J.mp; rw [z, J.mr] at h0; cases h0)⟩
theorem write_p {a : Ad} {h c p o e rl : Addr} {xs cs part : List Int} {evs : List Ev} {rs : List (List Int)} {s en : Nat} {M : Mem} {Ψ : PsiE} {Χ : Exc} (J : JM a h c p o e rl xs cs evs rs s en M) (I : JI xs cs evs rs s en) (hev : evs.length ≤ 20000) (hpo : Oct part) (hpl : part.length ≤ 300)
    (kr : half xs.length < needs (rs ++ [part]) → Χ (.ref a.Refused) [("word", .str "room")] M)
    (kt : ∀ cs' ne s' en' M', JM a h c p o e rl xs cs' (evs ++ ne) (rs ++ [part]) s' en' M' → JI xs cs' (evs ++ ne) (rs ++ [part]) s' en' → CutP cs ne rs (rs ++ [part]) → ne.length ≤ part.length + 6 → (∀ b m, M b = some m → b ≠ p → b ≠ o → b ≠ e → b ≠ rl → M' b = some m) → Ψ .non M') : a_write a [.ref p, recD part] M Ψ Χ := by
  have hlen := I.len
  have hs1 := I.s1
  have hl1 := I.l1
  have hl2 := I.l2
  obtain ⟨hen, hen2, _, hnd⟩ := I.nd
  have hrsl := needs_len rs
  have hst := hstart_le (n := cs.length) (s := s + 1) (by omega) (by omega)
  obtain ⟨po, pe, pr⟩ := J.refused
  have hstep := hstart_step (n := cs.length) (s := s)
  have hh : half xs.length ≤ 1500 := by unfold half; omega
  refine ⟨p, o, e, rl, xs.map D.int, cs, part, evs, rs, s, en, rfl, J.mp, J.ds, J.mr, J.ro, J.re, by rw [List.length_map, hlen], by omega, by omega, hs1, by omega, by omega, by omega, by omega, ?_⟩
  by_cases hroom : en + 3 + part.length ≤ hstart cs.length (s + 1)
  · refine .inr ⟨hroom, fun M' mp' ds' mr' bt => ?_⟩
    obtain ⟨I', cut⟩ := I.write hpo (by omega) hroom
    have hR : Rng h c M' := J.R.of (bt h (Ne.symm J.ph) (Ne.symm J.oh) (Ne.symm J.eh) (Ne.symm J.rh)) (bt c (Ne.symm J.pc) (Ne.symm J.oc) (Ne.symm J.ec) (Ne.symm J.rc))
    exact kt _ _ s _ M' ⟨hR, mp', ds', mr', J.ro, J.re, J.ph, J.pc, J.oh, J.oc, J.eh, J.ec, J.rh, J.rc⟩ I' cut wrEv_len fun b m hb x y z u => by rw [bt b x y z u]; exact hb
  · refine .inl ⟨by omega, kr ?_⟩
    rw [needs_app, needs_cons]
    show half xs.length < needs rs + (3 + part.length + 0)
    rw [hlen] at hen hstep hroom
    omega
theorem renew_p {a : Ad} {h c p o e rl : Addr} {xs cs : List Int} {evs : List Ev} {rs new : List (List Int)} {s en : Nat} {M : Mem} {Ψ : PsiE} {Χ : Exc} (J : JM a h c p o e rl xs cs evs rs s en M) (I : JI xs cs evs rs s en) (hev : evs.length ≤ 20000)
    (hno : ∀ r ∈ new, Oct r ∧ r.length ≤ 20000) (hnl : new.length ≤ 2000)
    (kr : half xs.length < needs new → Χ (.ref a.Refused) [("word", .str "room")] M)
    (kt : ∀ rl' cs' ne s' en' M', JM a h c p o e rl' xs cs' (evs ++ ne) new s' en' M' → JI xs cs' (evs ++ ne) new s' en' → CutP cs ne rs new → ne.length ≤ 2000 → (∀ b m, M b = some m → b ≠ p → b ≠ o → b ≠ e → b ≠ rl → M' b = some m) → Ψ .non M') : a_renew a [.ref p, .tup (new.map recD)] M Ψ Χ := by
  have hlen := I.len
  have hs1 := I.s1
  have hl1 := I.l1
  have hl2 := I.l2
  obtain ⟨po, pe, pr⟩ := J.refused
  have hstep := hstart_step (n := cs.length) (s := 1 - s)
  have hh : half xs.length ≤ 1500 := by unfold half; omega
  rw [show 1 - s + 1 = 2 - s by omega, hlen] at hstep
  refine ⟨p, o, e, rl, xs.map D.int, cs, evs, new, s, en, rfl, J.mp, J.ds, by rw [List.length_map, hlen], by omega, by omega, hs1, by omega, by omega, ?_⟩
  rw [hlen]
  by_cases hroom : hstart xs.length (1 - s) + needs new ≤ hstart xs.length (2 - s)
  · refine .inr ⟨hroom, fun rl' M' hrl mp' ds' mr' bt => ?_⟩
    obtain ⟨I', cut⟩ := I.renew hno (by rw [hlen]; exact hroom)
    rw [hlen] at I' cut
    have n1 : rl' ≠ h := (J.R.fresh hrl).1
    have n2 : rl' ≠ c := (J.R.fresh hrl).2
    have n3 : rl' ≠ o := fun z => by rw [z, J.ds.mo] at hrl; cases hrl
    have n4 : rl' ≠ e := fun z => by rw [z, J.ds.me] at hrl; cases hrl
    have hR : Rng h c M' := J.R.of (bt h (Ne.symm J.ph) (Ne.symm J.oh) (Ne.symm J.eh) (Ne.symm n1)) (bt c (Ne.symm J.pc) (Ne.symm J.oc) (Ne.symm J.ec) (Ne.symm n2))
    exact kt rl' _ _ (1 - s) _ M' ⟨hR, mp', ds', mr', n3, n4, J.ph, J.pc, J.oh, J.oc, J.eh, J.ec, n1, n2⟩ I' cut (by have := rnEv_len (rs := new) (q := hstart xs.length (1 - s)) (stop := hstart xs.length (2 - s)) (s := 1 - s); omega) fun b m hb x y z u => by rw [bt b x y z (fun q => by rw [q, hrl] at hb; cases hb)]; exact hb
  · exact .inl ⟨by omega, kr (by omega)⟩
abbrev a_call (a : Ad) : ASp := fun ds M Ψ Χ => ∃ (h c p o e rl : Addr) (xs cs part : List Int) (evs : List Ev) (rs new : List (List Int)) (s en : Nat) (b : Bool), ds = [.ref h, .ref p, .bl b, .tup (new.map recD), recD part] ∧
  JM a h c p o e rl xs cs evs rs s en M ∧ JI xs cs evs rs s en ∧ evs.length ≤ 20000 ∧ Oct part ∧ part.length ≤ 300 ∧ (∀ r ∈ new, Oct r ∧ r.length ≤ 20000) ∧ new.length ≤ 2000 ∧ (b = false → new = rs ++ [part]) ∧
  (∀ M', JM a h c p o e rl xs cs evs rs s en M' → half xs.length < needs new → Ψ (.str "room") M') ∧
  (∀ rl' cs' ne s' en' M', JM a h c p o e rl' xs cs' (evs ++ ne) new s' en' M' → JI xs cs' (evs ++ ne) new s' en' → CutP cs ne rs new → ne.length ≤ 2000 → Ψ (.lst [.non]) M')
theorem ok__law_call (T : Txt P K mg a) (Df : Defs K a fd) : FnG P w K mg base 4 a._law_call fd._law_call ps__law_call (lift K (a_call a)) := by
  refine okG Df._law_call sc__law_call (fun ds M Ψ Χ ⟨_, _, _, _, _, _, _, _, _, _, _, _, _, _, _, h, _⟩ => by subst h; rfl) fun cdv A outer s H E hr hg => ?_
  refine ⟨_, (pss_one (ps_tryAs (i := 5) rfl rfl sc__law_call.nd rfl rfl ⟨rfl, by decide, Or.inl T.g_DeskError⟩ (takes_of rfl rfl rfl rfl)
      (fun W pn xe tkb _ => (pss_cons (ps_if (pt_val (pv 2))
      (pss_one (ps_ret (pe_lst (pa_cons (pe_ifExp (pt_cmpR op_eq (pg_call (ok__law_draw T Df) (hr.mono (by decide)) hg (by rfl) T.g__law_draw T.k__law_draw (bd__law_draw_2_ Df) tkb (pa_cons (pv 0) (pa_cons pe_int pa_nil)) pk_nil) pe_int (nomark _)) (pg_meth (pv 1) T.cl_Journal T.me_Journal_renew (ok_Journal_renew T Df) (hr.mono (by decide)) hg (bd_Journal_renew_2_ Df) tkb (pa_cons (pv 3) pa_nil) pk_nil) (pg_meth0 (pv 1) T.cl_Journal T.me_Journal_renew (ok_Journal_renew T Df) (hr.mono (by decide)) hg (bd_Journal_renew_1_records Df) tkb (pk_cons (pv 3) pk_nil))) pa_nil))))
      pss_nil)
      (pss_one (ps_ret (pe_lst (pa_cons (pe_ifExp (pt_cmpR op_eq (pg_call (ok__law_draw T Df) (hr.mono (by decide)) hg (by rfl) T.g__law_draw T.k__law_draw (bd__law_draw_2_ Df) tkb (pa_cons (pv 0) (pa_cons pe_int pa_nil)) pk_nil) pe_int (nomark _)) (pg_meth (pv 1) T.cl_Journal T.me_Journal_write (ok_Journal_write T Df) (hr.mono (by decide)) hg (bd_Journal_write_2_ Df) tkb (pa_cons (pv 4) pa_nil) pk_nil) (pg_meth0 (pv 1) T.cl_Journal T.me_Journal_write (ok_Journal_write T Df) (hr.mono (by decide)) hg (bd_Journal_write_1_record Df) tkb (pk_cons (pv 4) pk_nil))) pa_nil))))))
      (fun xa oe xcls xd pn hz hf => (pss_cons (ps_if (PW.pt (pw_or (pt_val (pe_callB (call_isX hz hf) (by rfl) T.n_isinstance (by decide +kernel) (pa_cons (pv 5) (pa_cons (pe_glob (v := .ref a.Broken) rfl T.g_Broken rfl) pa_nil)))) (pw_or (pt_not (pt_val (pe_callB (call_isX hz hf) (by rfl) T.n_isinstance (by decide +kernel) (pa_cons (pv 5) (pa_cons (pe_glob (v := .ref a.Refused) rfl T.g_Refused rfl) pa_nil))))) (pw_or1 (pt_cmpR op_ne (pe_xfA hz hf (pv 5)) pe_str (nomark _))))))
      (pss_one (ps_ret pe_str))
      pss_nil)
      (pss_one (ps_ret pe_str)))))), ?_⟩
  rintro ds M Ψ Χ ⟨h, c, p, o, e, rl, xs, cs, part, evs, rs, new, s, en, b, rfl, J, I, hev, hpo, hpl, hno, hnl, hb, kr, kt⟩
  refine as_tryAs fun W' => ?_
  repeat walk_at "st"
  refine ite3 (fun hbt => ?_) (fun hbf => ?_)
  · repeat walk_at "st"
    refine ae_lst ?_
    repeat walk_at "st"
    refine ⟨rfl, rfl, h, c, _, rfl, J.R, by decide, by decide, fun y M1 y0 y1 R1 b1 => ?_⟩
    have J1 := J.draw R1 b1
    repeat walk_at "st"
    refine ite3 (fun _ => ?_) (fun _ => ?_)
    · refine ae_methM ?_
      repeat walk_at "st"
      refine ⟨p, _, rfl, J1.mp, rfl, ?_⟩
      repeat walk_at "st"
      refine ⟨rfl, rfl, renew_p J1 I hev hno hnl (fun hroom => ?_) fun rl' cs' ne s' en' M' J' I' cut hn _ => ?_⟩
      · refine ⟨true, T.exm_Refused_DeskError, fun _ ea dd hea => ?_, fun z => by cases z⟩
        repeat walk_at "st"
        refine arl_isX T.ec_Refused T.kit_Refused_Broken ?_
        refine ⟨false, rfl, ite3 (fun z => by cases z) fun _ => ?_⟩
        repeat walk_at "st"
        refine arl_isX T.ec_Refused T.kit_Refused_Refused ?_
        refine ⟨true, rfl, ite3 (fun z => by cases z) fun _ => ?_⟩
        repeat walk_at "st"
        refine ae_xf T.xf_Refused T.xn_Refused ?_
        repeat walk_at "st"
        refine ⟨_, _, rfl, rfl, ?_⟩
        repeat walk_at "st"
        refine ar_neS ?_
        refine ⟨_, rfl, ite3 (fun z => by simp at z) fun _ => as_next ?_⟩
        repeat walk_at "st"
        exact kr M1 J1 hroom
      · repeat walk_at "st"
        exact ⟨by simp, kt rl' cs' ne s' en' M' J' I' cut (by omega)⟩
    · refine ae_methM ?_
      repeat walk_at "st"
      refine ⟨p, _, rfl, J1.mp, rfl, ?_⟩
      repeat walk_at "st"
      refine ⟨rfl, rfl, renew_p J1 I hev hno hnl (fun hroom => ?_) fun rl' cs' ne s' en' M' J' I' cut hn _ => ?_⟩
      · refine ⟨true, T.exm_Refused_DeskError, fun _ ea dd hea => ?_, fun z => by cases z⟩
        repeat walk_at "st"
        refine arl_isX T.ec_Refused T.kit_Refused_Broken ?_
        refine ⟨false, rfl, ite3 (fun z => by cases z) fun _ => ?_⟩
        repeat walk_at "st"
        refine arl_isX T.ec_Refused T.kit_Refused_Refused ?_
        refine ⟨true, rfl, ite3 (fun z => by cases z) fun _ => ?_⟩
        repeat walk_at "st"
        refine ae_xf T.xf_Refused T.xn_Refused ?_
        repeat walk_at "st"
        refine ⟨_, _, rfl, rfl, ?_⟩
        repeat walk_at "st"
        refine ar_neS ?_
        refine ⟨_, rfl, ite3 (fun z => by simp at z) fun _ => as_next ?_⟩
        repeat walk_at "st"
        exact kr M1 J1 hroom
      · repeat walk_at "st"
        exact ⟨by simp, kt rl' cs' ne s' en' M' J' I' cut (by omega)⟩
  · have hnew := hb hbf
    subst hnew
    refine as_next ?_
    repeat walk_at "st"
    refine ae_lst ?_
    repeat walk_at "st"
    refine ⟨rfl, rfl, h, c, _, rfl, J.R, by decide, by decide, fun y M1 y0 y1 R1 b1 => ?_⟩
    have J1 := J.draw R1 b1
    repeat walk_at "st"
    refine ite3 (fun _ => ?_) (fun _ => ?_)
    · refine ae_methM ?_
      repeat walk_at "st"
      refine ⟨p, _, rfl, J1.mp, rfl, ?_⟩
      repeat walk_at "st"
      refine ⟨rfl, rfl, write_p J1 I hev hpo hpl (fun hroom => ?_) fun cs' ne s' en' M' J' I' cut hn _ => ?_⟩
      · refine ⟨true, T.exm_Refused_DeskError, fun _ ea dd hea => ?_, fun z => by cases z⟩
        repeat walk_at "st"
        refine arl_isX T.ec_Refused T.kit_Refused_Broken ?_
        refine ⟨false, rfl, ite3 (fun z => by cases z) fun _ => ?_⟩
        repeat walk_at "st"
        refine arl_isX T.ec_Refused T.kit_Refused_Refused ?_
        refine ⟨true, rfl, ite3 (fun z => by cases z) fun _ => ?_⟩
        repeat walk_at "st"
        refine ae_xf T.xf_Refused T.xn_Refused ?_
        repeat walk_at "st"
        refine ⟨_, _, rfl, rfl, ?_⟩
        repeat walk_at "st"
        refine ar_neS ?_
        refine ⟨_, rfl, ite3 (fun z => by simp at z) fun _ => as_next ?_⟩
        repeat walk_at "st"
        exact kr M1 J1 hroom
      · repeat walk_at "st"
        exact ⟨by simp, kt rl cs' ne s' en' M' J' I' cut (by omega)⟩
    · refine ae_methM ?_
      repeat walk_at "st"
      refine ⟨p, _, rfl, J1.mp, rfl, ?_⟩
      repeat walk_at "st"
      refine ⟨rfl, rfl, write_p J1 I hev hpo hpl (fun hroom => ?_) fun cs' ne s' en' M' J' I' cut hn _ => ?_⟩
      · refine ⟨true, T.exm_Refused_DeskError, fun _ ea dd hea => ?_, fun z => by cases z⟩
        repeat walk_at "st"
        refine arl_isX T.ec_Refused T.kit_Refused_Broken ?_
        refine ⟨false, rfl, ite3 (fun z => by cases z) fun _ => ?_⟩
        repeat walk_at "st"
        refine arl_isX T.ec_Refused T.kit_Refused_Refused ?_
        refine ⟨true, rfl, ite3 (fun z => by cases z) fun _ => ?_⟩
        repeat walk_at "st"
        refine ae_xf T.xf_Refused T.xn_Refused ?_
        repeat walk_at "st"
        refine ⟨_, _, rfl, rfl, ?_⟩
        repeat walk_at "st"
        refine ar_neS ?_
        refine ⟨_, rfl, ite3 (fun z => by simp at z) fun _ => as_next ?_⟩
        repeat walk_at "st"
        exact kr M1 J1 hroom
      · repeat walk_at "st"
        exact ⟨by simp, kt rl cs' ne s' en' M' J' I' cut (by omega)⟩
end
end K60
namespace K60
open PySem PySem.Spec PyProof.Rows L2 RZ T2
local macro_rules | `(tactic| walk_at "st") => `(tactic| first
  | with_reducible refine as_seq ?_ | with_reducible refine as_if ?_ | with_reducible refine as_ret ?_ | with_reducible refine as_set ?_ | with_reducible refine as_drop ?_ | with_reducible refine as_next ?_
  | with_reducible refine as_asg ?_ | with_reducible refine as_retN ?_ | with_reducible refine as_brk ?_ | with_reducible refine as_cont ?_
  | with_reducible refine at_test ?_ | with_reducible refine at_B ?_ | with_reducible refine at_and ?_ | with_reducible refine at_or ?_ | with_reducible refine at_not ?_ | with_reducible refine at_yes ?_
  | with_reducible refine ae_op ?_ | with_reducible refine ae_un ?_ | with_reducible refine ae_cb ?_ | with_reducible refine aa_cons ?_ | with_reducible refine aa_nil ?_ | with_reducible refine ae_if ?_
  | with_reducible refine ae_andV ?_ | with_reducible refine ae_orV ?_ | with_reducible refine ae_notV ?_ | with_reducible refine ae_chain ?_
  | with_reducible refine ae_int ?_ | with_reducible refine ae_str ?_ | with_reducible refine ae_bl ?_ | with_reducible refine ae_non ?_ | with_reducible refine ae_ty ?_ | with_reducible refine ae_ref ?_
  | refine ae_varX rfl ?_ | refine ae_var rfl ?_
  | with_reducible refine ar_add ?_ | with_reducible refine ar_sub ?_ | with_reducible refine ar_lt ?_ | with_reducible refine ar_le ?_ | with_reducible refine ar_gt ?_ | with_reducible refine ar_ge ?_
  | with_reducible refine ar_eqI ?_ | with_reducible refine ar_neI ?_
  | with_reducible refine ⟨_, rfl, ?_⟩
  | refine ae_callG ?_ | refine ae_methG ?_ | refine ⟨(show List.lookup _ _ = none from rfl), ?_⟩)
section
variable {P : Program} {w : World} {K : PySem.W.Frag} {mg : Str → Option Value} {base : Heap} {a : Ad} {fd : Fds}

/-! ### a turn -/
theorem cut_from {xs : List D} {i : Int} (h : 0 ≤ i) : T2.cutD xs (some i) none = xs.drop i.toNat := by
  unfold T2.cutD
  show (xs.drop (if i < 0 then (i + (xs.length : Int)).toNat else min i.toNat xs.length)).take (xs.length - (if i < 0 then (i + (xs.length : Int)).toNat else min i.toNat xs.length)) = _
  rw [if_neg (by omega)]
  rw [List.take_of_length_le (by rw [List.length_drop]; omega)]
  by_cases hi : i.toNat ≤ xs.length
  · rw [Nat.min_eq_left hi]
  · rw [Nat.min_eq_right (by omega), List.drop_of_length_le (Nat.le_refl _), List.drop_of_length_le (by omega)]
theorem needs_sum : ∀ rs : List (List Int), (needs rs : Int) ≤ ((rs.map fun r => (r.length : Int) + 8)).sum
  | [] => by decide
  | r :: rs => by
    have := needs_sum rs
    rw [needs_cons, List.map_cons, List.sum_cons]
    omega
/-- what a cut of these events leaves -/
def CutQ (cs : List Int) (ne : List Ev) (old new : List (List Int)) : Prop := ∀ k cs', k ≤ ne.length → Left cs (ne.take k) cs' → ∃ en, Opn cs' old en ∨ Opn cs' new en
theorem CutP.q {cs : List Int} {ne : List Ev} {old new : List (List Int)} (h : CutP cs ne old new) : CutQ cs ne old new := fun k cs' hk L => by
  obtain ⟨en, z | z⟩ := h k cs' hk L
  · exact ⟨en, .inl z.1⟩
  · exact ⟨en, .inr z.1⟩
theorem CutQ.nil {cs : List Int} {rs : List (List Int)} {en : Nat} (h : Opn cs rs en) : CutQ cs [] rs rs := fun k cs' hk L => by
  rw [List.take_nil] at L
  have e : cs' = cs := List.ext_getElem? fun j => L.out j (fun z => by cases z)
  rw [e]
  exact ⟨en, .inl h⟩
abbrev a_turn (a : Ad) : ASp := fun ds M Ψ Χ => ∃ (h c p o e rl : Addr) (xs cs : List Int) (evs : List Ev) (rs : List (List Int)) (s en : Nat) (long : Bool) (cuts : Int), ds = [.ref h, .ref p, .tup (rs.map recD), .bl long, .int cuts] ∧
  JM a h c p o e rl xs cs evs rs s en M ∧ JI xs cs evs rs s en ∧ evs.length ≤ 18000 ∧ 0 ≤ cuts ∧ cuts ≤ 4 ∧
  (∀ rl' cs' ne rs' s' en' M', JM a h c p o e rl' xs cs' (evs ++ ne) rs' s' en' M' → JI xs cs' (evs ++ ne) rs' s' en' → CutQ cs ne rs rs' → ne.length ≤ 2000 → Ψ (.tup (rs'.map recD)) M')
theorem ok__law_turn (T : Txt P K mg a) (Df : Defs K a fd) : FnG P w K mg base 8 a._law_turn fd._law_turn ps__law_turn (lift K (a_turn a)) := by
  refine okG Df._law_turn sc__law_turn (fun ds M Ψ Χ ⟨_, _, _, _, _, _, _, _, _, _, _, _, _, _, h, _⟩ => by subst h; rfl) fun cdv A outer s H E hr hg => ?_
  refine ⟨_, (pss_cons (ps_par (i := 5) (j := 6) (by rfl) sc__law_turn.nd rfl rfl (by decide) rfl rfl (pa_cons (pe_fld (pv 1) rfl) (pa_cons (pe_cmpR op_eq (pg_call (ok__law_draw T Df) (hr.mono (by decide)) hg (by rfl) T.g__law_draw T.k__law_draw (bd__law_draw_2_ Df) (takes_of rfl rfl rfl rfl) (pa_cons (pv 0) (pa_cons pe_int pa_nil)) pk_nil) pe_int (nomark _)) pa_nil)) (by rfl))
      (pss_cons (ps_par (i := 7) (j := 8) (by rfl) sc__law_turn.nd rfl rfl (by decide) rfl rfl (pa_cons (pg_call (ok__law_record T Df) (hr.mono (by decide)) hg (by rfl) T.g__law_record T.k__law_record (bd__law_record_2_ Df) (takes_of rfl rfl rfl rfl) (pa_cons (pv 0) (pa_cons (pv 3) pa_nil)) pk_nil) (pa_cons (pe_callB call_len (by rfl) T.n_len (by decide +kernel) (pa_cons (pg_meth0 (pe_fld (pv 1) rfl) T.cl_Disk T.me_Disk_events (ok_Disk_events T Df) (hr.mono (by decide)) hg (bd_Disk_events_1_ Df) (takes_of rfl rfl rfl rfl) pk_nil) pa_nil)) pa_nil)) (by rfl))
      (pss_cons (ps_set (i := 9) sc__law_turn.nd rfl (Or.inl rfl) (pe_ifExp (pt_val (pv 6)) (pe_callTy call_tuple_of (by rfl) T.n_tuple (by decide +kernel) (pa_cons (pe_lc (own := [("_law_at", 11)]) rfl sc__law_turn.nd (pi_range1 (by rfl) T.n_range (pa_cons (pg_call (ok__law_draw T Df) (hr.mono (by decide)) hg (by rfl) T.g__law_draw T.k__law_draw (bd__law_draw_2_ Df) (takes_of rfl rfl rfl rfl) (pa_cons (pv 0) (pa_cons pe_int pa_nil)) pk_nil) pa_nil)) (blkOk_by (own := [("_law_at", 11)]) (N := N__law_turn) (sc := defScope s__law_turn) (by decide +kernel)) (fun _ _ _ _ _ => (pg_name (i := 11) sc__law_turn.nd rfl (Or.inl rfl))) (fun _ _ _ _ _ => pts_nil) (fun _ _ _ _ _ => (pg_call (ok__law_record T Df) (hr.mono (by decide)) hg (by rfl) T.g__law_record T.k__law_record (bd__law_record_2_ Df) takes0 (pa_cons (pv 0) (pa_cons (pv 3) pa_nil)) pk_nil))) pa_nil)) (pe_op op_catA (pv 2) (pe_tup (pa_cons (pv 7) pa_nil)))))
      (pss_cons (ps_if (PW.pt (pw_and (pt_val (pv 6)) (pw_and1 (pt_cmpR op_eq (pg_call (ok__law_draw T Df) (hr.mono (by decide)) hg (by rfl) T.g__law_draw T.k__law_draw (bd__law_draw_2_ Df) (takes_of rfl rfl rfl rfl) (pa_cons (pv 0) (pa_cons pe_int pa_nil)) pk_nil) pe_int (nomark _)))))
      (pss_one (ps_set (i := 9) sc__law_turn.nd rfl (Or.inl rfl) (pe_op op_catA (pe_slice sl_tupA (pv 2) (po_some (pg_call (ok__law_draw T Df) (hr.mono (by decide)) hg (by rfl) T.g__law_draw T.k__law_draw (bd__law_draw_2_ Df) (takes_of rfl rfl rfl rfl) (pa_cons (pv 0) (pa_cons (pe_op op_add (pe_callB call_len (by rfl) T.n_len (by decide +kernel) (pa_cons (pv 2) pa_nil)) pe_int) pa_nil)) pk_nil)) po_none) (pe_slice sl_tupA (pv 9) po_none (po_some pe_int)))))
      pss_nil)
      (pss_cons (ps_set (i := 10) sc__law_turn.nd rfl (Or.inl rfl) (pg_call (ok__law_call T Df) (hr.mono (by decide)) hg (by rfl) T.g__law_call T.k__law_call (bd__law_call_5_ Df) (takes_of rfl rfl rfl rfl) (pa_cons (pv 0) (pa_cons (pv 1) (pa_cons (pv 6) (pa_cons (pv 9) (pa_cons (pv 7) pa_nil))))) pk_nil))
      (pss_cons (ps_if (pt_cmpR (op_eqD (hun64 hr)) (pv 10) pe_str (nomark _))
      (pss_cons (ps_if (pt_cmpR op_le (pe_callB (cr_sum rfl) (by rfl) T.n_sum (by decide +kernel) (pa_cons (pe_lc (own := [("_law_record_here", 12)]) rfl sc__law_turn.nd (pi_tup (pv 9)) (blkOk_by (own := [("_law_record_here", 12)]) (N := N__law_turn) (sc := defScope s__law_turn) (by decide +kernel)) (fun _ _ _ _ _ => (pg_name (i := 12) sc__law_turn.nd rfl (Or.inl rfl))) (fun _ _ _ _ _ => pts_nil) (fun _ _ _ _ _ => (pe_op op_add (pe_callB (r := cLen K) call_len (by rfl) T.n_len (by decide +kernel) (pa_cons (pv 12) pa_nil)) pe_int))) pa_nil)) (pe_op op_sub (pe_op op_fdiv (pe_callB call_len (by rfl) T.n_len (by decide +kernel) (pa_cons (pe_fld (pv 5) rfl) pa_nil)) pe_int) pe_int) (nomark _))
      (pss_one (ps_ret pe_non))
      pss_nil)
      (pss_one (ps_ret (pe_ifExp (PW.pt (pw_and (pt_cmpR op_eq (pe_callB call_len (by rfl) T.n_len (by decide +kernel) (pa_cons (pg_meth0 (pv 5) T.cl_Disk T.me_Disk_events (ok_Disk_events T Df) (hr.mono (by decide)) hg (bd_Disk_events_1_ Df) (takes_of rfl rfl rfl rfl) pk_nil) pa_nil)) (pv 8) (nomark _)) (pw_and1 (pt_cmpR op_eq (pe_callB (cr_repr hg (hun150 hr)) (by rfl) T.n_repr (by decide +kernel) (pa_cons (pg_meth0 (pv 1) T.cl_Journal T.me_Journal_records (ok_Journal_records T Df) (hr.mono (by decide)) hg (bd_Journal_records_1_ Df) (takes_of rfl rfl rfl rfl) pk_nil) pa_nil)) (pe_callB (cr_repr hg (hun150 hr)) (by rfl) T.n_repr (by decide +kernel) (pa_cons (pv 2) pa_nil)) (nomark _))))) (pv 2) pe_non))))
      pss_nil)
      (pss_cons (ps_if (PW.pt (pw_or (pt_cmpR (op_neD (hun64 hr)) (pv 10) (pe_lst (pa_cons pe_non pa_nil)) (nomark _)) (pw_or1 (pt_cmpR op_ne (pe_callB (cr_repr hg (hun150 hr)) (by rfl) T.n_repr (by decide +kernel) (pa_cons (pg_meth0 (pv 1) T.cl_Journal T.me_Journal_records (ok_Journal_records T Df) (hr.mono (by decide)) hg (bd_Journal_records_1_ Df) (takes_of rfl rfl rfl rfl) pk_nil) pa_nil)) (pe_callB (cr_repr hg (hun150 hr)) (by rfl) T.n_repr (by decide +kernel) (pa_cons (pv 9) pa_nil)) (nomark _)))))
      (pss_one (ps_ret pe_non))
      pss_nil)
      (pss_one (ps_ret (pe_ifExp (pt_val (pg_call (ok__law_cuts_right T Df) (hr.mono (by decide)) hg (by rfl) T.g__law_cuts_right T.k__law_cuts_right (bd__law_cuts_right_6_ Df) (takes_of rfl rfl rfl rfl) (pa_cons (pv 0) (pa_cons (pv 5) (pa_cons (pv 8) (pa_cons (pv 2) (pa_cons (pv 9) (pa_cons (pv 4) pa_nil)))))) pk_nil)) (pv 9) pe_non)))))))))), ?_⟩
  rintro ds M Ψ Χ ⟨h, c, p, o, e, rl, xs, cs, evs, rs, s, en, long, cuts, rfl, J, I, hev, hq0, hq1, k⟩
  refine as_seq (as_par (aa_cons (ae_fldM T.cl_Journal T.nf_Journal_disk ?_)))
  repeat walk_at "st"
  refine ⟨p, _, _, rfl, J.mp, rfl, ?_⟩
  repeat walk_at "st"
  refine ⟨rfl, rfl, h, c, _, rfl, J.R, by decide, by decide, fun y M1 y0 y1 R1 b1 => ?_⟩
  have J1 := J.draw R1 b1
  repeat walk_at "st"
  refine ⟨_, _, rfl, ?_⟩
  generalize decide (y = 0) = renews
  refine as_seq (as_par (aa_cons ?_))
  repeat walk_at "st"
  refine ⟨rfl, rfl, h, c, long, rfl, J1.R, fun part M2 hpo hpl _ R2 b2 => ?_⟩
  have J2 := J1.draw R2 b2
  repeat walk_at "st"
  refine ae_fldM T.cl_Journal T.nf_Journal_disk ?_
  repeat walk_at "st"
  refine ⟨p, _, _, rfl, J2.mp, rfl, ?_⟩
  refine ⟨_, rfl, rfl, ?_⟩
  repeat walk_at "st"
  refine ⟨rfl, rfl, _, o, e, evs, rfl, J2.ds.me, ?_⟩
  repeat walk_at "st"
  refine arl_lenT ?_
  rw [List.length_map]
  repeat walk_at "st"
  refine ⟨_, _, rfl, ?_⟩
  obtain ⟨hen, hen2, hro, hnd⟩ := I.nd
  have hl2 := I.l2
  have hh : half xs.length ≤ 750 := by unfold half; omega
  have hrsl := needs_len rs
  have hrl : ∀ r ∈ rs, Oct r ∧ r.length ≤ 20000 := fun r hr => ⟨hro r hr, by have := needs_mem hr; omega⟩
  have hpart : Oct part ∧ part.length ≤ 20000 := ⟨hpo, by omega⟩
  refine as_seqP (fun Δ' M' => ∃ (new : List (List Int)) (u v : Option D), Δ' = [some (.ref h), some (.ref p), some (.tup (rs.map recD)), some (.bl long), some (.int cuts), some (dskO a (xs.map D.int) o e), some (.bl renews), some (recD part), some (.int (evs.length : Nat)), some (.tup (new.map recD)), none, u, v] ∧
    JM a h c p o e rl xs cs evs rs s en M' ∧ (∀ r ∈ new, Oct r ∧ r.length ≤ 20000) ∧ new.length ≤ 1000 ∧ (renews = false → new = rs ++ [part])) ?_ ?_
  · repeat walk_at "st"
    cases renews with
    | false =>
      refine ite3 (fun z => by cases z) fun _ => ?_
      repeat walk_at "st"
      refine ae_tup ?_
      repeat walk_at "st"
      refine ⟨by simp, ?_⟩
      refine ar_catT (by simp; omega) ?_
      have e1 : rs.map recD ++ [recD part] = (rs ++ [part]).map recD := by rw [List.map_append]; rfl
      rw [e1]
      refine ⟨rs ++ [part], _, _, rfl, J2, fun r hr => ?_, by simp; omega, fun _ => rfl⟩
      rcases List.mem_append.mp hr with hr | hr
      · exact hrl r hr
      · rw [List.mem_singleton] at hr
        rw [hr]; exact hpart
    | true =>
      refine ite3 (fun _ => ?_) fun z => by cases z
      repeat walk_at "st"
      refine ae_lcF (ai_rng1 ?_)
      repeat walk_at "st"
      refine ⟨rfl, rfl, h, c, _, rfl, J2.R, by decide, by decide, fun n M3 n0 n1 R3 b3 => ?_⟩
      have J3 := J2.draw R3 b3
      repeat walk_at "st"
      refine ⟨by omega, by rw [rngD_length]; omega, fun i acc M4 => ∃ new : List (List Int), acc = new.map recD ∧ new.length = i ∧ (∀ r ∈ new, Oct r ∧ r.length ≤ 20000) ∧ Rng h c M4 ∧ But2 h c M3 M4, ⟨[], rfl, rfl, (fun _ z => by cases z), R3, But2.refl⟩, ?_, ?_⟩
      · rintro i2 d2 acc2 M4 p2 hx2 ⟨new, rfl, hcl2, hns, R4, b4⟩ hp2 _
        obtain ⟨_, rfl⟩ := rngD_get hx2
        obtain ⟨m1, m2⟩ := R4.fresh hp2
        refine agc_name (by decide) (at_yes (ite3 (fun _ => ?_) fun z => by cases z))
        repeat walk_at "st"
        refine ⟨rfl, rfl, h, c, long, rfl, R4.set m1 m2, fun r M5 ro rl2 _ R5 b5 => ?_⟩
        obtain ⟨M6, e6, m6, R6, b6⟩ := turn b4 R4 hp2 R5 b5
        refine ⟨M6, e6, m6, new ++ [r], by rw [List.map_append]; rfl, by rw [List.length_append, hcl2]; rfl, fun r2 hr2 => ?_, R6, b6⟩
        rcases List.mem_append.mp hr2 with z | z
        · exact hns r2 z
        · rw [List.mem_singleton] at z
          rw [z]; exact ⟨ro, by omega⟩
      · rintro acc M4 ⟨new, rfl, hcl2, hns, R4, b4⟩
        rw [rngD_length] at hcl2
        repeat walk_at "st"
        refine arl_tupL ?_
        exact ⟨new, _, _, rfl, J3.draw R4 b4, hns, by omega, fun z => by cases z⟩
  rintro Δ' M3 ⟨new, u, v, rfl, J3, hno, hnl, hnb⟩
  refine as_seqP (fun Δ' M' => ∃ (new : List (List Int)) (u v : Option D), Δ' = [some (.ref h), some (.ref p), some (.tup (rs.map recD)), some (.bl long), some (.int cuts), some (dskO a (xs.map D.int) o e), some (.bl renews), some (recD part), some (.int (evs.length : Nat)), some (.tup (new.map recD)), none, u, v] ∧
    JM a h c p o e rl xs cs evs rs s en M' ∧ (∀ r ∈ new, Oct r ∧ r.length ≤ 20000) ∧ new.length ≤ 2000 ∧ (renews = false → new = rs ++ [part])) ?_ ?_
  · repeat walk_at "st"
    cases renews with
    | false =>
      refine ite3 (fun z => by cases z) fun _ => ?_
      rw [if_neg Bool.false_ne_true]
      exact as_next ⟨new, _, _, rfl, J3, hno, by omega, hnb⟩
    | true =>
      refine ite3 (fun _ => ?_) fun z => by cases z
      repeat walk_at "st"
      refine ⟨rfl, rfl, h, c, _, rfl, J3.R, by decide, by decide, fun z M4 z0 z1 R4 b4 => ?_⟩
      have J4 := J3.draw R4 b4
      repeat walk_at "st"
      refine ite3 (fun _ => ?_) fun _ => as_next ⟨new, _, _, rfl, J4, hno, by omega, hnb⟩
      repeat walk_at "st"
      refine ae_slT ?_
      repeat walk_at "st"
      refine ao_some ?_
      repeat walk_at "st"
      refine arl_lenT ?_
      rw [List.length_map]
      repeat walk_at "st"
      refine ⟨rfl, rfl, h, c, _, rfl, J4.R, by omega, by omega, fun z2 M5 z20 z21 R5 b5 => ?_⟩
      have J5 := J4.draw R5 b5
      repeat walk_at "st"
      refine ao_none ?_
      rw [cut_from z20]
      refine ae_slT ?_
      repeat walk_at "st"
      refine ao_none (ao_some ?_)
      repeat walk_at "st"
      rw [cut_to (by decide)]
      refine ar_catT (by simp; omega) ?_
      rw [← List.map_drop, ← List.map_take, ← List.map_append]
      refine ⟨_, _, _, rfl, J5, fun r hr => ?_, by simp; omega, fun z => by cases z⟩
      rcases List.mem_append.mp hr with hr | hr
      · exact hrl r (List.mem_of_mem_drop hr)
      · exact hno r (List.mem_of_mem_take hr)
  clear hno hnl hnb J3 M3 u v new
  rintro Δ' M3 ⟨new, u, v, rfl, J3, hno, hnl, hnb⟩
  repeat walk_at "st"
  refine ⟨rfl, rfl, h, c, p, o, e, rl, xs, cs, part, evs, rs, new, s, en, renews, rfl, J3, I, by omega, hpo, by omega, hno, hnl, hnb, fun M4 J4 hroom => ?_, fun rl' cs' ne s' en' M4 J4 I4 cut hne => ?_⟩
  · repeat walk_at "st"
    refine ar_eqD (n := 0) (m := 0) (by decide +kernel) (by decide +kernel) (by decide) (by decide) ?_
    refine ⟨_, rfl, ite3 (fun _ => ?_) fun z => by cases z⟩
    repeat walk_at "st"
    refine ae_lcP (ai_tup ?_)
    repeat walk_at "st"
    refine ⟨by rw [List.length_map]; omega, fun _ => true, fun d => .int ((dlen d : Int) + 8), fun d M' hd => ?_, ?_⟩
    · obtain ⟨r, _, rfl⟩ := List.mem_map.mp hd
      refine agc_name (by decide) ⟨rfl, ?_⟩
      repeat walk_at "st"
      refine ⟨rfl, rfl, fun _ => ?_⟩
      repeat walk_at "st"
      refine arl_lenT ?_
      repeat walk_at "st"
      exact ⟨rfl, rfl⟩
    rw [filter_true, List.map_map]
    have e0 : (new.map ((fun d => T2.D.int ((dlen d : Int) + 8)) ∘ recD)) = (new.map fun r => (r.length : Int) + 8).map T2.D.int := by
      rw [List.map_map]
      refine List.map_congr_left fun r _ => ?_
      show T2.D.int (((r.map T2.D.int).length : Int) + 8) = _
      rw [List.length_map]
      rfl
    rw [e0]
    repeat walk_at "st"
    refine arl_sum ?_
    repeat walk_at "st"
    refine ae_fldO T.cl_Disk T.nf_Disk_cells ?_
    repeat walk_at "st"
    refine ⟨_, _, rfl, rfl, ?_⟩
    repeat walk_at "st"
    refine arl_lenT ?_
    rw [List.length_map]
    repeat walk_at "st"
    refine ar_fdiv ⟨by decide, by decide⟩ ?_
    repeat walk_at "st"
    have hsum := needs_sum new
    refine ite3 (fun z => absurd (of_decide_eq_true z) (by unfold half at hroom; omega)) fun _ => ?_
    repeat walk_at "st"
    refine ⟨rfl, rfl, _, o, e, evs, rfl, J4.ds.me, ?_⟩
    repeat walk_at "st"
    refine arl_lenT ?_
    rw [List.length_map]
    repeat walk_at "st"
    refine ite3 (fun _ => ?_) fun z => absurd (of_decide_eq_false z) (by simp)
    refine at_test (ae_op (ae_cb (aa_cons (ae_methM ?_))))
    repeat walk_at "st"
    refine ⟨p, _, rfl, J4.mp, rfl, ?_⟩
    repeat walk_at "st"
    refine ⟨rfl, rfl, p, rl, _, s, en, rs, rfl, J4.mp, J4.mr, ?_⟩
    repeat walk_at "st"
    refine arl_reprR I.recs ?_
    repeat walk_at "st"
    refine arl_reprR I.recs ?_
    refine ar_eqS ?_
    refine ⟨_, rfl, ?_⟩
    rw [decide_eq_true rfl, if_pos rfl]
    repeat walk_at "st"
    exact k rl cs [] rs s en M4 (by rw [List.append_nil]; exact J4) (by rw [List.append_nil]; exact I) (CutQ.nil I.op) (by simp)
  · repeat walk_at "st"
    refine ar_eqD (n := 1) (m := 0) (by decide +kernel) (by decide +kernel) (by decide) (by decide) ?_
    refine ⟨_, rfl, ite3 (fun z => by cases z) fun _ => ?_⟩
    repeat walk_at "st"
    refine ae_lst ?_
    repeat walk_at "st"
    refine ⟨by simp, ?_⟩
    refine ar_neD (n := 1) (m := 1) (by decide) (by decide) (by decide) (by decide) ?_
    refine ⟨_, rfl, ite3 (fun z => by cases z) fun _ => ?_⟩
    refine at_test (ae_op (ae_cb (aa_cons (ae_methM ?_))))
    repeat walk_at "st"
    refine ⟨p, _, rfl, J4.mp, rfl, ?_⟩
    repeat walk_at "st"
    refine ⟨rfl, rfl, p, rl', _, s', en', new, rfl, J4.mp, J4.mr, ?_⟩
    repeat walk_at "st"
    refine arl_reprR I4.recs ?_
    repeat walk_at "st"
    refine arl_reprR I4.recs ?_
    refine ar_neS ?_
    refine ⟨_, rfl, ite3 (fun z => by simp at z) fun _ => ?_⟩
    repeat walk_at "st"
    have hl1 := I.l1
    refine ⟨rfl, rfl, h, c, o, e, xs, rs, new, evs, ne, cuts, rfl, J4.R, J4.ds.me, J4.eh, J4.ec, hl1, by omega, by omega, I.ox, I4.ok, I4.B, I.f0, hq0, hq1, I.recs, I4.recs, by rw [← I.e]; exact cut, fun M5 R5 b5 => ?_⟩
    repeat walk_at "st"
    exact k rl' cs' ne new s' en' M5 (J4.draw R5 b5) I4 cut.q hne
end
end K60
namespace K60
open PySem PySem.Spec PyProof.Rows L2 RZ T2
local macro_rules | `(tactic| walk_at "st") => `(tactic| first
  | with_reducible refine as_seq ?_ | with_reducible refine as_if ?_ | with_reducible refine as_ret ?_ | with_reducible refine as_set ?_ | with_reducible refine as_drop ?_ | with_reducible refine as_next ?_
  | with_reducible refine as_asg ?_ | with_reducible refine as_retN ?_ | with_reducible refine as_brk ?_ | with_reducible refine as_cont ?_
  | with_reducible refine at_test ?_ | with_reducible refine at_B ?_ | with_reducible refine at_and ?_ | with_reducible refine at_or ?_ | with_reducible refine at_not ?_ | with_reducible refine at_yes ?_
  | with_reducible refine ae_op ?_ | with_reducible refine ae_un ?_ | with_reducible refine ae_cb ?_ | with_reducible refine aa_cons ?_ | with_reducible refine aa_nil ?_ | with_reducible refine ae_if ?_
  | with_reducible refine ae_andV ?_ | with_reducible refine ae_orV ?_ | with_reducible refine ae_notV ?_ | with_reducible refine ae_chain ?_
  | with_reducible refine ae_int ?_ | with_reducible refine ae_str ?_ | with_reducible refine ae_bl ?_ | with_reducible refine ae_non ?_ | with_reducible refine ae_ty ?_ | with_reducible refine ae_ref ?_
  | refine ae_varX rfl ?_ | refine ae_var rfl ?_
  | with_reducible refine ar_add ?_ | with_reducible refine ar_sub ?_ | with_reducible refine ar_lt ?_ | with_reducible refine ar_le ?_ | with_reducible refine ar_gt ?_ | with_reducible refine ar_ge ?_
  | with_reducible refine ar_eqI ?_ | with_reducible refine ar_neI ?_
  | with_reducible refine ⟨_, rfl, ?_⟩
  | refine ae_callG ?_ | refine ae_methG ?_ | refine ⟨(show List.lookup _ _ = none from rfl), ?_⟩)
section
variable {P : Program} {w : World} {K : PySem.W.Frag} {mg : Str → Option Value} {base : Heap} {a : Ad} {fd : Fds}

/-! ### new journals -/
structure ND (o e : Addr) (cs : List Int) (M M' : Mem) : Prop where
  mo : M' o = some (.lst (cs.map T2.D.int))
  me : M' e = some (.lst [])
  no : M o = none
  ne : M e = none
  oe : o ≠ e
  bt : ∀ b, b ≠ o → b ≠ e → M' b = M b
theorem ae_disk {W : WX} {Χ : Exc} {Δ : Sls} {n l : Nat} {π : List Nat} {t tk : TA} {M : Mem} {Ψ : PsiE} (h : AA K W Χ Δ t M fun xs M1 => AA K W Χ Δ tk M1 fun ys M2 => xs.length + 1 = n ∧ ys.length = l ∧ ∃ cs : List Int, (∀ p, pick π ((.ref p :: xs) ++ ys) = [.ref p, .tup (cs.map D.int)]) ∧ Fine cs ∧
    ∀ o e M3, ND o e cs M2 M3 → Ψ (.obj a.Disk (dskF (cs.map D.int) o e)) M3) : AE K W Χ Δ (tMakeG a.Disk (lift K (a_init a)) n l π W t tk) M Ψ := by
  refine ae_frzI (ae_makeG ?_)
  refine fun σ H ok sl gx Q g => h σ H ok sl gx Q fun M1 H1 xs v s1 ok1 r1 h1 => g M1 H1 xs v s1 ok1 r1 ?_
  refine fun σ H ok sl gx Q g => h1 σ H ok sl gx Q fun M2 H2 ys v s2 ok2 r2 ⟨h2, h3, cs, h4, hf, k⟩ => g M2 H2 ys v s2 ok2 r2 ⟨h2, h3, fun q hq => ?_⟩
  rw [h4 q]
  refine ⟨q, _, rfl, Mem.set_same, .inr ⟨cs, rfl, hf, fun o e M3 mk3 => ⟨rfl, q, a.Disk, _, M3.del q, rfl, mk3.mp, ?_, Mem.del_same, k o e _ ?_⟩⟩⟩
  · intro b m hb
    by_cases hx : b = q
    · rw [hx, Mem.del_same] at hb; cases hb
    · rw [Mem.del_ne hx] at hb; exact hb
  · have oq : o ≠ q := fun z => by have h9 := mk3.no; rw [z, Mem.set_same] at h9; cases h9
    have eq : e ≠ q := fun z => by have h9 := mk3.ne; rw [z, Mem.set_same] at h9; cases h9
    refine ⟨(Mem.del_ne oq).trans mk3.mo, (Mem.del_ne eq).trans mk3.me, by have h9 := mk3.no; rwa [Mem.set_ne oq] at h9, by have h9 := mk3.ne; rwa [Mem.set_ne eq] at h9, mk3.oe, fun b x y => ?_⟩
    by_cases hx : b = q
    · rw [hx, Mem.del_same, hq]
    · rw [Mem.del_ne hx, mk3.bt b hx x y, Mem.set_ne hx]
theorem ae_jour {W : WX} {Χ : Exc} {Δ : Sls} {n l : Nat} {π : List Nat} {t tk : TA} {M : Mem} {Ψ : PsiE} (h : AA K W Χ Δ t M fun xs M1 => AA K W Χ Δ tk M1 fun ys M2 => xs.length + 1 = n ∧ ys.length = l ∧ ∃ (cs : List Int) (o e : Addr), (∀ p, pick π ((.ref p :: xs) ++ ys) = [.ref p, .obj a.Disk (dskF (cs.map D.int) o e)]) ∧
    M2 o = some (.lst (cs.map D.int)) ∧ Fine cs ∧ ((∃ rs en, Opn cs rs en ∧ ∀ p rl M3, M2 p = none → M2 rl = none → M3 p = some (.ins a.Journal (jF (dskO a (cs.map D.int) o e) (sideOf cs) rl en)) → M3 rl = some (.lst (rs.map recD)) → (∀ b, b ≠ p → b ≠ rl → M3 b = M2 b) → Ψ (.ref p) M3) ∨
      (Brk cs (hstart cs.length (sideOf cs + 1)) (hstart cs.length (sideOf cs)) ∧ ∀ M', Le M2 M' → Χ (.ref a.Broken) [("word", .str "journal")] M'))) : AE K W Χ Δ (tMakeG a.Journal (lift K (a_jinit a)) n l π W t tk) M Ψ := by
  refine ae_makeG ?_
  refine fun σ H ok sl gx Q g => h σ H ok sl gx Q fun M1 H1 xs v s1 ok1 r1 h1 => g M1 H1 xs v s1 ok1 r1 ?_
  refine fun σ H ok sl gx Q g => h1 σ H ok sl gx Q fun M2 H2 ys v s2 ok2 r2 ⟨h2, h3, cs, o, e, h4, mo, hf, k⟩ => g M2 H2 ys v s2 ok2 r2 ⟨h2, h3, fun q hq => ?_⟩
  rw [h4 q]
  have oq : o ≠ q := fun z => by rw [← z, mo] at hq; cases hq
  refine ⟨q, o, e, cs.map D.int, cs, rfl, Mem.set_same, (Mem.set_ne oq).trans mo, List.length_map .., hf.1, hf.2.1, hf.2.2, ?_⟩
  rcases k with ⟨rs, en, hop, k⟩ | ⟨hb, k⟩
  · refine .inl ⟨rs, en, hop, fun rl M3 hrl mp mr bt => ⟨rfl, ?_⟩⟩
    have rq : rl ≠ q := fun z => by rw [z, Mem.set_same] at hrl; cases hrl
    rw [Mem.set_ne rq] at hrl
    exact k q rl M3 hq hrl mp mr fun b x y => by rw [bt b x y, Mem.set_ne x]
  · refine .inr ⟨hb, fun M' bt => k M' fun b m hm => ?_⟩
    have bq : b ≠ q := fun z => by rw [z, hq] at hm; cases hm
    rw [bt b bq, Mem.set_ne bq]
    exact hm
/-- a new journal as it is -/
theorem new_jm {h c p o e rl : Addr} {cs : List Int} {rs : List (List Int)} {en : Nat} {M1 M2 M3 : Mem} (R : Rng h c M1) (nd : ND o e cs M1 M2) (hp : M2 p = none) (hrl : M2 rl = none) (mp : M3 p = some (.ins a.Journal (jF (dskO a (cs.map D.int) o e) (sideOf cs) rl en)))
    (mr : M3 rl = some (.lst (rs.map recD))) (bt : ∀ b, b ≠ p → b ≠ rl → M3 b = M2 b) : JM a h c p o e rl cs cs [] rs (sideOf cs) en M3 := by
  obtain ⟨n1, n2⟩ := R.fresh nd.no
  obtain ⟨n3, n4⟩ := R.fresh nd.ne
  have R2 : Rng h c M2 := R.of (nd.bt h (Ne.symm n1) (Ne.symm n3)) (nd.bt c (Ne.symm n2) (Ne.symm n4))
  obtain ⟨n5, n6⟩ := R2.fresh hp
  obtain ⟨n7, n8⟩ := R2.fresh hrl
  have op : o ≠ p := fun z => by rw [← z, nd.mo] at hp; cases hp
  have ep : e ≠ p := fun z => by rw [← z, nd.me] at hp; cases hp
  have orl : o ≠ rl := fun z => by rw [← z, nd.mo] at hrl; cases hrl
  have erl : e ≠ rl := fun z => by rw [← z, nd.me] at hrl; cases hrl
  exact ⟨R2.of (bt h (Ne.symm n5) (Ne.symm n7)) (bt c (Ne.symm n6) (Ne.symm n8)), mp, ⟨(bt o op orl).trans nd.mo, (bt e ep erl).trans nd.me, nd.oe⟩, mr, Ne.symm orl, Ne.symm erl, n5, n6, n1, n2, n3, n4, n7, n8⟩
theorem new_ji {cs : List Int} {rs : List (List Int)} {en : Nat} (hf : Fine cs) (hl : cs.length ≤ 1500) (h : Opn cs rs en) : JI cs cs [] rs (sideOf cs) en :=
  ⟨rfl, hf.2.2, hf.1, hl, (fun _ _ z => by cases z), (fun _ _ z => by cases z), rfl, rfl, h⟩
theorem opn_zero (n : Nat) : Opn (List.replicate n 0) [] (hstart n 0) := by
  have e : sideOf (List.replicate n (0 : Int)) = 0 := by
    unfold sideOf
    rw [List.getElem?_replicate]
    split <;> rfl
  unfold Opn
  rw [e, List.length_replicate]
  refine .done fun _ v hv => ?_
  rw [List.getElem?_replicate] at hv
  split at hv
  · cases hv; exact Int.le_refl _
  · cases hv
theorem fine_zero {n : Nat} (h1 : 1 ≤ n) (h2 : n ≤ 20000) : Fine (List.replicate n (0 : Int)) := ⟨by rw [List.length_replicate]; exact h1, by rw [List.length_replicate]; exact h2, fun c hc => by rw [(List.mem_replicate.mp hc).2]; decide⟩
theorem pend_fl : ∀ {es : List Ev}, fl es = es → pend es = [] := by
  intro es
  refine rev_ind (Q := fun es => fl es = es → pend es = []) (fun _ => rfl) (fun es e _ h => ?_) es
  cases e with
  | none => rw [pend_snoc]
  | some x =>
    rw [fl_some] at h
    have h1 := (fl_facts es).2.1
    rw [h, List.length_append] at h1
    simp at h1
    omega
theorem fl_app {es : List Ev} (h : fl es = es) : ∀ t : List Ev, fl (es ++ t) = es ++ fl t ∧ pend (es ++ t) = pend t := by
  refine rev_ind ?_ fun t e ih => ?_
  · rw [List.append_nil]
    exact ⟨h.trans (List.append_nil _).symm, pend_fl h⟩
  · rw [← List.append_assoc]
    cases e with
    | none => rw [fl_none, fl_none, pend_snoc, pend_snoc, List.append_assoc]; exact ⟨rfl, rfl⟩
    | some x => rw [fl_some, fl_some, pend_snoc, pend_snoc, ih.1, ih.2]; exact ⟨rfl, rfl⟩
theorem Left.app {xs cs' : List Int} {es t : List Ev} (h : fl es = es) (L : Left xs (es ++ t) cs') : Left (updE xs es) t cs' := by
  obtain ⟨h1, h2⟩ := fl_app h t
  refine ⟨by rw [L.len, updE_len], L.oct, fun j hj => ?_⟩
  rw [L.out j (by rw [h2]; exact hj), h1, updE_app]
theorem eqI : ∀ xs ys : List Int, eqD (.tup (xs.map D.int)) (.tup (ys.map D.int)) = decide (xs = ys)
  | [], [] => rfl
  | [], y :: ys => rfl
  | x :: xs, [] => rfl
  | x :: xs, y :: ys => by
    have ih := eqI xs ys
    unfold eqD at ih ⊢
    simp only [toP, toPs, List.map_cons, PyData.eqv, PyData.eqvAll] at ih ⊢
    rw [ih]
    by_cases h : x = y <;> simp [h]
theorem eqR : ∀ xs ys : List (List Int), eqD (.tup (xs.map recD)) (.tup (ys.map recD)) = decide (xs = ys)
  | [], [] => rfl
  | [], y :: ys => rfl
  | x :: xs, [] => rfl
  | x :: xs, y :: ys => by
    have ih := eqR xs ys
    have h0 := eqI x y
    unfold eqD at ih h0 ⊢
    simp only [toP, toPs, List.map_cons, PyData.eqv, PyData.eqvAll, recD] at ih h0 ⊢
    rw [ih, h0]
    by_cases h : x = y <;> simp [h]
end
end K60
namespace K60
open PySem PySem.Spec PyProof.Rows L2 RZ T2
local macro_rules | `(tactic| walk_at "st") => `(tactic| first
  | with_reducible refine as_seq ?_ | with_reducible refine as_if ?_ | with_reducible refine as_ret ?_ | with_reducible refine as_set ?_ | with_reducible refine as_drop ?_ | with_reducible refine as_next ?_
  | with_reducible refine as_asg ?_ | with_reducible refine as_retN ?_ | with_reducible refine as_brk ?_ | with_reducible refine as_cont ?_
  | with_reducible refine at_test ?_ | with_reducible refine at_B ?_ | with_reducible refine at_and ?_ | with_reducible refine at_or ?_ | with_reducible refine at_not ?_ | with_reducible refine at_yes ?_
  | with_reducible refine ae_op ?_ | with_reducible refine ae_un ?_ | with_reducible refine ae_cb ?_ | with_reducible refine aa_cons ?_ | with_reducible refine aa_nil ?_ | with_reducible refine ae_if ?_
  | with_reducible refine ae_andV ?_ | with_reducible refine ae_orV ?_ | with_reducible refine ae_notV ?_ | with_reducible refine ae_chain ?_
  | with_reducible refine ae_int ?_ | with_reducible refine ae_str ?_ | with_reducible refine ae_bl ?_ | with_reducible refine ae_non ?_ | with_reducible refine ae_ty ?_ | with_reducible refine ae_ref ?_
  | refine ae_varX rfl ?_ | refine ae_var rfl ?_
  | with_reducible refine ar_add ?_ | with_reducible refine ar_sub ?_ | with_reducible refine ar_lt ?_ | with_reducible refine ar_le ?_ | with_reducible refine ar_gt ?_ | with_reducible refine ar_ge ?_
  | with_reducible refine ar_eqI ?_ | with_reducible refine ar_neI ?_
  | with_reducible refine ⟨_, rfl, ?_⟩
  | refine ae_callG ?_ | refine ae_methG ?_ | refine ⟨(show List.lookup _ _ = none from rfl), ?_⟩)
section
variable {P : Program} {w : World} {K : PySem.W.Frag} {mg : Str → Option Value} {base : Heap} {a : Ad} {fd : Fds}

abbrev a_day : ASp := fun ds M Ψ Χ => ∃ (h c : Addr) (many turns cuts : Int), ds = [.ref h, .int many, .int turns, .int cuts] ∧ Rng h c M ∧ 1 ≤ many ∧ many ≤ 1500 ∧ 0 ≤ turns ∧ turns ≤ 7 ∧ 0 ≤ cuts ∧ cuts ≤ 4 ∧ ∀ M', Rng h c M' → Ψ (.bl true) M'
theorem ok__law_day_right (T : Txt P K mg a) (Df : Defs K a fd) : FnG P w K mg base 9 a._law_day_right fd._law_day_right ps__law_day_right (lift K a_day) := by
  refine okG Df._law_day_right sc__law_day_right (fun ds M Ψ Χ ⟨_, _, _, _, _, h, _⟩ => by subst h; rfl) fun cdv A outer s H E hr hg => ?_
  refine ⟨_, (pss_cons (ps_par (i := 4) (j := 5) (by rfl) sc__law_day_right.nd rfl rfl (by decide) rfl rfl (pa_cons (pg_make T.mk_Journal (ok_Journal___init__ T Df) (hr.mono (by decide)) hg (by rfl) T.g_Journal (bd_Journal___init___2_ Df) (takes_of rfl rfl rfl rfl) (pa_cons (pg_make T.mk_Disk (ok_Disk___init__ T Df) (hr.mono (by decide)) hg (by rfl) T.g_Disk (bd_Disk___init___2_ Df) (takes_of rfl rfl rfl rfl) (pa_cons (pe_op op_repA (pe_tup (pa_cons pe_int pa_nil)) (pv 1)) pa_nil) pk_nil) pa_nil) pk_nil) (pa_cons (pe_tup pa_nil) pa_nil)) (by rfl))
      (pss_cons (ps_if (PW.pt (pw_or (pt_cmpR (op_neD (hun64 hr)) (pg_meth0 (pv 4) T.cl_Journal T.me_Journal_records (ok_Journal_records T Df) (hr.mono (by decide)) hg (bd_Journal_records_1_ Df) (takes_of rfl rfl rfl rfl) pk_nil) (pe_tup pa_nil) (nomark _)) (pw_or1 (pt_cmpR (op_neD (hun64 hr)) (pg_meth0 (pe_fld (pv 4) rfl) T.cl_Disk T.me_Disk_events (ok_Disk_events T Df) (hr.mono (by decide)) hg (bd_Disk_events_1_ Df) (takes_of rfl rfl rfl rfl) pk_nil) (pe_tup pa_nil) (nomark _)))))
      (pss_one (ps_ret pe_bl))
      pss_nil)
      (pss_cons (ps_for (passes_of rfl) rfl (pi_range1 (by rfl) T.n_range (pa_cons (pv 2) pa_nil)) (pg_name (i := 6) sc__law_day_right.nd rfl (Or.inl rfl))
      (pss_cons (ps_set (i := 7) sc__law_day_right.nd rfl (Or.inl rfl) (pe_callB call_len (by rfl) T.n_len (by decide +kernel) (pa_cons (pg_meth0 (pe_fld (pv 4) rfl) T.cl_Disk T.me_Disk_events (ok_Disk_events T Df) (hr.mono (by decide)) hg (bd_Disk_events_1_ Df) (takes_of rfl rfl rfl rfl) pk_nil) pa_nil)))
      (pss_cons (ps_set (i := 8) sc__law_day_right.nd rfl (Or.inl rfl) (pg_call (ok__law_turn T Df) (hr.mono (by decide)) hg (by rfl) T.g__law_turn T.k__law_turn (bd__law_turn_5_ Df) (takes_of rfl rfl rfl rfl) (pa_cons (pv 0) (pa_cons (pv 4) (pa_cons (pv 5) (pa_cons (pe_cmpR op_gt (pv 1) pe_int (nomark _)) (pa_cons (pv 3) pa_nil))))) pk_nil))
      (pss_cons (ps_if (pt_cmpR op_isN (pv 8) pe_non (nomark _))
      (pss_one (ps_ret pe_bl))
      pss_nil)
      (pss_cons (ps_if (pt_cmpR op_eq (pg_call (ok__law_draw T Df) (hr.mono (by decide)) hg (by rfl) T.g__law_draw T.k__law_draw (bd__law_draw_2_ Df) (takes_of rfl rfl rfl rfl) (pa_cons (pv 0) (pa_cons pe_int pa_nil)) pk_nil) pe_int (nomark _))
      (pss_cons (ps_par (i := 9) (j := 10) (by rfl) sc__law_day_right.nd rfl rfl (by decide) rfl rfl (pa_cons (pe_fld (pv 4) rfl) (pa_cons (pe_callB call_len (by rfl) T.n_len (by decide +kernel) (pa_cons (pg_meth0 (pe_fld (pv 4) rfl) T.cl_Disk T.me_Disk_events (ok_Disk_events T Df) (hr.mono (by decide)) hg (bd_Disk_events_1_ Df) (takes_of rfl rfl rfl rfl) pk_nil) pa_nil)) pa_nil)) (by rfl))
      (pss_cons (ps_set (i := 11) sc__law_day_right.nd rfl (Or.inl rfl) (pg_call (ok__law_left T Df) (hr.mono (by decide)) hg (by rfl) T.g__law_left T.k__law_left (bd__law_left_3_ Df) (takes_of rfl rfl rfl rfl) (pa_cons (pv 0) (pa_cons (pe_fld (pv 9) rfl) (pa_cons (pe_slice sl_tupA (pg_meth0 (pv 9) T.cl_Disk T.me_Disk_events (ok_Disk_events T Df) (hr.mono (by decide)) hg (bd_Disk_events_1_ Df) (takes_of rfl rfl rfl rfl) pk_nil) po_none (po_some (pg_call (ok__law_pick T Df) (hr.mono (by decide)) hg (by rfl) T.g__law_pick T.k__law_pick (bd__law_pick_2_ Df) (takes_of rfl rfl rfl rfl) (pa_cons (pv 0) (pa_cons (pe_lst (pa_cons (pv 10) (pa_cons (pe_callB (call_max2 rfl) (by rfl) T.n_max (by decide +kernel) (pa_cons (pv 7) (pa_cons (pe_op op_sub (pe_op op_sub (pv 10) pe_int) (pg_call (ok__law_draw T Df) (hr.mono (by decide)) hg (by rfl) T.g__law_draw T.k__law_draw (bd__law_draw_2_ Df) (takes_of rfl rfl rfl rfl) (pa_cons (pv 0) (pa_cons pe_int pa_nil)) pk_nil)) pa_nil))) pa_nil))) pa_nil)) pk_nil))) pa_nil))) pk_nil))
      (pss_cons (ps_set (i := 12) sc__law_day_right.nd rfl (Or.inl rfl) (pg_make0 T.mk_Journal (ok_Journal___init__ T Df) (hr.mono (by decide)) hg (by rfl) T.g_Journal (bd_Journal___init___1_disk Df) (takes_of rfl rfl rfl rfl) (pk_cons (pg_make0 T.mk_Disk (ok_Disk___init__ T Df) (hr.mono (by decide)) hg (by rfl) T.g_Disk (bd_Disk___init___1_cells Df) (takes_of rfl rfl rfl rfl) (pk_cons (pv 11) pk_nil)) pk_nil)))
      (pss_cons (ps_if (PW.pt (pw_and (pt_cmpR op_ne (pe_callB (cr_repr hg (hun150 hr)) (by rfl) T.n_repr (by decide +kernel) (pa_cons (pg_meth0 (pv 12) T.cl_Journal T.me_Journal_records (ok_Journal_records T Df) (hr.mono (by decide)) hg (bd_Journal_records_1_ Df) (takes_of rfl rfl rfl rfl) pk_nil) pa_nil)) (pe_callB (cr_repr hg (hun150 hr)) (by rfl) T.n_repr (by decide +kernel) (pa_cons (pv 8) pa_nil)) (nomark _)) (pw_and1 (pt_cmpR op_ne (pe_callB (cr_repr hg (hun150 hr)) (by rfl) T.n_repr (by decide +kernel) (pa_cons (pg_meth0 (pv 12) T.cl_Journal T.me_Journal_records (ok_Journal_records T Df) (hr.mono (by decide)) hg (bd_Journal_records_1_ Df) (takes_of rfl rfl rfl rfl) pk_nil) pa_nil)) (pe_callB (cr_repr hg (hun150 hr)) (by rfl) T.n_repr (by decide +kernel) (pa_cons (pv 5) pa_nil)) (nomark _)))))
      (pss_one (ps_ret pe_bl))
      pss_nil)
      (pss_one (ps_par (i := 4) (j := 8) (by rfl) sc__law_day_right.nd rfl rfl (by decide) rfl rfl (pa_cons (pv 12) (pa_cons (pe_ifExp (pt_cmpR (op_eqD (hun64 hr)) (pg_meth0 (pv 12) T.cl_Journal T.me_Journal_records (ok_Journal_records T Df) (hr.mono (by decide)) hg (bd_Journal_records_1_ Df) (takes_of rfl rfl rfl rfl) pk_nil) (pv 8) (nomark _)) (pv 8) (pv 5)) pa_nil)) (by rfl)))))))
      pss_nil)
      (pss_one (ps_set (i := 5) sc__law_day_right.nd rfl (Or.inl rfl) (pv 8))))))))
      (pss_one (ps_ret pe_bl))))), ?_⟩
  rintro ds M Ψ Χ ⟨h, c, many, turns, cuts, rfl, R, m0, m1, t0, t1, q0, q1, k⟩
  obtain ⟨n, rfl⟩ : ∃ n : Nat, many = n := ⟨many.toNat, by omega⟩
  have hz := opn_zero n
  have hfz := fine_zero (n := n) (by omega) (by omega)
  refine as_seq (as_par (aa_cons (ae_jour ?_)))
  repeat walk_at "st"
  refine ae_disk ?_
  repeat walk_at "st"
  refine ae_tup ?_
  repeat walk_at "st"
  refine ⟨by simp, ?_⟩
  repeat walk_at "st"
  refine ar_repA m0 (by omega) ?_
  repeat walk_at "st"
  refine ⟨rfl, rfl, List.replicate n 0, fun p => by rw [List.map_replicate]; rfl, hfz, fun o e M1 nd => ?_⟩
  repeat walk_at "st"
  refine ⟨rfl, rfl, _, o, e, fun p => rfl, nd.mo, hfz, .inl ⟨[], _, hz, fun p rl M2 hp hrl mp mr bt => ?_⟩⟩
  have J2 := new_jm R nd hp hrl mp mr bt
  have I2 := new_ji hfz (by rw [List.length_replicate]; omega) hz
  have hxl : (List.replicate n (0 : Int)).length ≤ 1500 := by rw [List.length_replicate]; omega
  clear mp mr bt hp hrl nd
  generalize List.replicate n (0 : Int) = z0 at J2 I2 hxl
  repeat walk_at "st"
  refine ae_tup ?_
  repeat walk_at "st"
  refine ⟨by simp, ?_⟩
  repeat walk_at "st"
  refine ⟨_, _, rfl, ?_⟩
  refine as_seq (as_if (at_or ?_))
  refine at_test (ae_op (ae_methM ?_))
  repeat walk_at "st"
  refine ⟨p, _, rfl, J2.mp, rfl, ?_⟩
  repeat walk_at "st"
  refine ⟨rfl, rfl, p, rl, _, _, _, [], rfl, J2.mp, J2.mr, ?_⟩
  repeat walk_at "st"
  refine ae_tup ?_
  repeat walk_at "st"
  refine ⟨by simp, ?_⟩
  refine ar_neD (n := 1) (m := 1) rfl rfl (by decide) (by decide) ?_
  refine ⟨false, rfl, ite3 (fun z => by cases z) fun _ => ?_⟩
  refine at_test (ae_op (ae_methG (ae_fldM T.cl_Journal T.nf_Journal_disk ?_)))
  repeat walk_at "st"
  refine ⟨p, _, _, rfl, J2.mp, rfl, ?_⟩
  refine ⟨_, rfl, rfl, ?_⟩
  repeat walk_at "st"
  refine ⟨rfl, rfl, _, o, e, [], rfl, J2.ds.me, ?_⟩
  refine ae_tup (aa_nil ⟨by simp, ?_⟩)
  refine ar_neD (x := .tup []) (y := .tup []) (n := 1) (m := 1) rfl rfl (by decide) (by decide) ?_
  refine ⟨false, rfl, ite3 (fun z => by cases z) fun _ => as_next ?_⟩
  refine as_seqP (fun Δ' M' => Rng h c M') ?_ fun Δ' M' R' => by
    repeat walk_at "st"
    exact k M' R'
  refine as_for (ai_rng1 ?_)
  repeat walk_at "st"
  refine ⟨by omega, ?_⟩
  refine ⟨fun i Δ' M' => i ≤ 7 ∧ ∃ (p o e rl : Addr) (xs cs : List Int) (evs : List Ev) (rs : List (List Int)) (s en : Nat) (u6 u7 u8 u9 u10 u11 u12 : Option D), Δ' = [some (.ref h), some (.int (n : Nat)), some (.int turns), some (.int cuts), some (.ref p), some (.tup (rs.map recD)), u6, u7, u8, u9, u10, u11, u12] ∧
    JM a h c p o e rl xs cs evs rs s en M' ∧ JI xs cs evs rs s en ∧ evs.length ≤ 2000 * i, ⟨by decide, p, o, e, rl, _, _, [], [], _, _, _, _, _, _, _, _, _, rfl, J2, I2, by simp⟩, ?_, ?_⟩
  · clear J2 I2 hz hfz hxl z0 p o e rl
    rintro i d Δ' M' hx ⟨_, p, o, e, rl, xs, cs, evs, rs, s, en, u6, u7, u8, u9, u10, u11, u12, rfl, J, I, hev⟩
    obtain ⟨hi, rfl⟩ := rngD_get hx
    have hi7 : i < 7 := by omega
    refine ag_name ?_
    repeat walk_at "st"
    refine ae_fldM T.cl_Journal T.nf_Journal_disk ?_
    repeat walk_at "st"
    refine ⟨p, _, _, rfl, J.mp, rfl, ?_⟩
    refine ⟨_, rfl, rfl, ?_⟩
    repeat walk_at "st"
    refine ⟨rfl, rfl, _, o, e, evs, rfl, J.ds.me, ?_⟩
    repeat walk_at "st"
    refine arl_lenT ?_
    rw [List.length_map]
    repeat walk_at "st"
    refine ⟨rfl, rfl, h, c, p, o, e, rl, xs, cs, evs, rs, s, en, _, cuts, rfl, J, I, by omega, q0, q1, fun rl2 cs2 ne rs2 s2 en2 M2 J2 I2 cut hne => ?_⟩
    repeat walk_at "st"
    refine ar_isN ?_
    refine ⟨false, rfl, ite3 (fun z => by cases z) fun _ => as_next ?_⟩
    refine as_seqP (fun Δ' M' => ∃ (p o e rl : Addr) (xs cs : List Int) (evs : List Ev) (rs : List (List Int)) (s en : Nat) (u5 u6 u7 u9 u10 u11 u12 : Option D), Δ' = [some (.ref h), some (.int (n : Nat)), some (.int turns), some (.int cuts), some (.ref p), u5, u6, u7, some (.tup (rs.map recD)), u9, u10, u11, u12] ∧
      JM a h c p o e rl xs cs evs rs s en M' ∧ JI xs cs evs rs s en ∧ evs.length ≤ 2000 * (i + 1)) ?_ ?_
    · repeat walk_at "st"
      refine ⟨rfl, rfl, h, c, _, rfl, J2.R, by decide, by decide, fun y M3 y0 y1 R3 b3 => ?_⟩
      have J3 := J2.draw R3 b3
      have hnl : (evs ++ ne).length ≤ 2000 * (i + 1) := by rw [List.length_append]; omega
      repeat walk_at "st"
      refine ite3 (fun _ => ?_) fun _ => as_next ⟨p, o, e, rl2, xs, cs2, _, rs2, s2, en2, _, _, _, _, _, _, _, rfl, J3, I2, hnl⟩
      refine as_seq (as_par (aa_cons (ae_fldM T.cl_Journal T.nf_Journal_disk ?_)))
      repeat walk_at "st"
      refine ⟨p, _, _, rfl, J3.mp, rfl, ?_⟩
      repeat walk_at "st"
      refine ae_fldM T.cl_Journal T.nf_Journal_disk ?_
      repeat walk_at "st"
      refine ⟨p, _, _, rfl, J3.mp, rfl, ?_⟩
      refine ⟨_, rfl, rfl, ?_⟩
      repeat walk_at "st"
      refine ⟨rfl, rfl, _, o, e, _, rfl, J3.ds.me, ?_⟩
      repeat walk_at "st"
      refine arl_lenT ?_
      rw [List.length_map]
      repeat walk_at "st"
      refine ⟨_, _, rfl, ?_⟩
      repeat walk_at "st"
      refine ae_fldO T.cl_Disk T.nf_Disk_cells ?_
      repeat walk_at "st"
      refine ⟨_, _, rfl, rfl, ?_⟩
      repeat walk_at "st"
      refine ae_slT ?_
      repeat walk_at "st"
      refine ⟨rfl, rfl, _, o, e, _, rfl, J3.ds.me, ?_⟩
      repeat walk_at "st"
      refine ao_none (ao_some ?_)
      repeat walk_at "st"
      refine ae_lst ?_
      repeat walk_at "st"
      refine ⟨rfl, rfl, h, c, _, rfl, J3.R, by decide, by decide, fun v M4 v0 v1 R4 b4 => ?_⟩
      have J4 := J3.draw R4 b4
      repeat walk_at "st"
      refine arl_max2 ?_
      repeat walk_at "st"
      refine ⟨by simp, ?_⟩
      repeat walk_at "st"
      refine ⟨rfl, rfl, h, c, _, rfl, J4.R, by simp, by simp, fun d M5 hd R5 b5 => ?_⟩
      have J5 := J4.draw R5 b5
      obtain ⟨kk, hkk, rfl⟩ : ∃ kk : Nat, kk ≤ ne.length ∧ d = .int ((evs.length + kk : Nat) : Int) := by
        have hnl2 : (evs ++ ne).length = evs.length + ne.length := List.length_append
        simp only [List.mem_cons, List.mem_nil_iff, or_false] at hd
        rcases hd with rfl | rfl
        · exact ⟨ne.length, Nat.le_refl _, by rw [hnl2]⟩
        · rw [hnl2]
          refine ⟨((if ((evs.length + ne.length : Nat) : Int) - 1 - v > evs.length then ((evs.length + ne.length : Nat) : Int) - 1 - v else evs.length) - evs.length).toNat, ?_, ?_⟩
          · split <;> omega
          · congr 1
            split <;> omega
      repeat walk_at "st"
      rw [cut_to (by omega), Int.toNat_natCast, ← List.map_take, List.take_length_add_append]
      have hxl := I.l2
      have hx1 := I.l1
      refine ⟨rfl, rfl, h, c, xs, evs ++ ne.take kk, rfl, J5.R, by omega, by rw [List.length_append, List.length_take]; omega, fun y v z => ?_, fun y v z => ?_, I.ox, fun cs' M6 L R6 b6 => ?_⟩
      · rcases List.mem_append.mp z with z | z
        · exact I.ok y v z
        · exact I2.ok y v (List.mem_append_right _ (List.mem_of_mem_take z))
      · rcases List.mem_append.mp z with z | z
        · exact I.B y v z
        · exact I2.B y v (List.mem_append_right _ (List.mem_of_mem_take z))
      have J6 := J5.draw R6 b6
      have L2 := L.app I.f0
      rw [← I.e] at L2
      have hcl : cs'.length = xs.length := L.len
      have hfine : Fine cs' := ⟨by omega, by omega, L.oct⟩
      obtain ⟨en', hen'⟩ := cut kk cs' hkk L2
      obtain ⟨rsf, hrsf, hopf⟩ : ∃ rsf, (rsf = rs ∨ rsf = rs2) ∧ Opn cs' rsf en' := by
        rcases hen' with z | z
        · exact ⟨rs, .inl rfl, z⟩
        · exact ⟨rs2, .inr rfl, z⟩
      have I7 := new_ji hfine (by omega) hopf
      refine as_seq (as_set (ae_jour ?_))
      repeat walk_at "st"
      refine ae_disk ?_
      repeat walk_at "st"
      refine ⟨rfl, rfl, cs', fun p => rfl, hfine, fun o7 e7 M7 nd => ?_⟩
      repeat walk_at "st"
      refine ⟨rfl, rfl, cs', o7, e7, fun p => rfl, nd.mo, hfine, .inl ⟨rsf, en', hopf, fun p7 rl7 M8 hp hrl mp mr bt => ?_⟩⟩
      have J8 := new_jm J6.R nd hp hrl mp mr bt
      have hrec : ∀ (W : WX) (Χ : Exc) (Δ : Sls) (Ψ : PsiE), Δ[12]? = some (some (.ref p7)) → Ψ (.tup (rsf.map recD)) M8 → AE K W Χ Δ (tMethG a.Journal "records" (lift K (a_jrecords a)) 1 ([] : List Str).length [0] W (tVar 12) tNil tNil) M8 Ψ := fun W Χ Δ Ψ h0 h1 =>
        ae_methM (ae_var h0 ⟨p7, _, rfl, J8.mp, rfl, aa_nil (aa_nil ⟨rfl, rfl, p7, rl7, _, _, _, rsf, rfl, J8.mp, J8.mr, h1⟩)⟩)
      have fin : ∀ (Ψ' : PsiE), Ψ' (.tup (rsf.map recD)) M8 → AE K (fun cls d _ H => E cls d H) (fun c f M' => Χ c f M') [some (.ref h), some (.int (n : Nat)), some (.int turns), some (.int cuts), some (.ref p), some (.tup (rs.map recD)), some (.int (0 + (i : Int))), some (.int (evs.length : Nat)), some (.tup (rs2.map recD)), some (dskO a (xs.map D.int) o e), some (.int ((evs ++ ne).length : Nat)), some (.tup (cs'.map D.int)), some (.ref p7)]
          (tIf (tTest (tOp (rEqD K) (tMethG a.Journal "records" (lift K (a_jrecords a)) 1 ([] : List Str).length [0] (fun cls d _ H => E cls d H) (tVar 12) tNil tNil) (tVar 8))) (tVar 8) (tVar 5)) M8 Ψ' := by
        intro Ψ' h1
        refine ae_if (at_test (ae_op (hrec _ _ _ _ rfl ?_)))
        repeat walk_at "st"
        refine ar_eqD (n := 2) (m := 2) (by show goods 1 _ = true; exact good_recs 0 rsf) (by show goods 1 _ = true; exact good_recs 0 rs2) (by decide) (by decide) ?_
        rw [eqR]
        refine ⟨_, rfl, ite3 (fun hz => ?_) fun hz => ?_⟩
        · have := of_decide_eq_true hz
          subst this
          exact ae_var rfl h1
        · have := of_decide_eq_false hz
          rcases hrsf with hq | hq
          · subst hq
            exact ae_var rfl h1
          · exact absurd hq this
      have hrok : RecOk rsf := by
        rcases hrsf with hq | hq
        · rw [hq]; exact I.recs
        · rw [hq]; exact I2.recs
      refine as_seqP (fun Δ' M' => M' = M8 ∧ Δ' = [some (.ref h), some (.int (n : Nat)), some (.int turns), some (.int cuts), some (.ref p), some (.tup (rs.map recD)), some (.int (0 + (i : Int))), some (.int (evs.length : Nat)), some (.tup (rs2.map recD)), some (dskO a (xs.map D.int) o e), some (.int ((evs ++ ne).length : Nat)), some (.tup (cs'.map D.int)), some (.ref p7)]) ?_ ?_
      · refine as_if (at_and ?_)
        refine at_test (ae_op (ae_cb (aa_cons (hrec _ _ _ _ rfl ?_))))
        repeat walk_at "st"
        refine arl_reprR hrok ?_
        repeat walk_at "st"
        refine arl_reprR I2.recs ?_
        refine ar_neS ?_
        refine ⟨_, rfl, ite3 (fun hz => ?_) fun hz => ?_⟩
        · refine at_test (ae_op (ae_cb (aa_cons (hrec _ _ _ _ rfl ?_))))
          repeat walk_at "st"
          refine arl_reprR hrok ?_
          repeat walk_at "st"
          refine arl_reprR I.recs ?_
          refine ar_neS ?_
          rcases hrsf with hq | hq
          · subst hq
            refine ⟨_, rfl, ite3 (fun z => by simp at z) fun _ => as_next ⟨rfl, rfl⟩⟩
          · subst hq
            simp at hz
        · rw [if_neg Bool.false_ne_true]
          exact as_next ⟨rfl, rfl⟩
      · rintro Δ' M' ⟨rfl, rfl⟩
        refine as_par (aa_cons (ae_var rfl (aa_cons (fin _ (aa_nil ?_)))))
        refine ⟨_, _, rfl, ?_⟩
        exact ⟨p7, o7, e7, rl7, cs', cs', [], rsf, sideOf cs', en', _, _, _, _, _, _, _, rfl, J8, I7, by simp⟩
    · rintro Δ' M5 ⟨p, o, e, rl, xs, cs, evs, rs, s, en, u5, u6, u7, u9, u10, u11, u12, rfl, J5, I5, hl5⟩
      repeat walk_at "st"
      exact ⟨by omega, p, o, e, rl, xs, cs, evs, rs, s, en, _, _, _, _, _, _, _, rfl, J5, I5, hl5⟩
  · rintro Δ' M' ⟨_, p, o, e, rl, xs, cs, evs, rs, s, en, u6, u7, u8, u9, u10, u11, u12, rfl, J, I, hev⟩
    exact J.R
end
end K60
namespace K60
open PySem PySem.Spec PyProof.Rows L2 RZ T2
local macro_rules | `(tactic| walk_at "st") => `(tactic| first
  | with_reducible refine as_seq ?_ | with_reducible refine as_if ?_ | with_reducible refine as_ret ?_ | with_reducible refine as_set ?_ | with_reducible refine as_drop ?_ | with_reducible refine as_next ?_
  | with_reducible refine as_asg ?_ | with_reducible refine as_retN ?_ | with_reducible refine as_brk ?_ | with_reducible refine as_cont ?_
  | with_reducible refine at_test ?_ | with_reducible refine at_B ?_ | with_reducible refine at_and ?_ | with_reducible refine at_or ?_ | with_reducible refine at_not ?_ | with_reducible refine at_yes ?_
  | with_reducible refine ae_op ?_ | with_reducible refine ae_un ?_ | with_reducible refine ae_cb ?_ | with_reducible refine aa_cons ?_ | with_reducible refine aa_nil ?_ | with_reducible refine ae_if ?_
  | with_reducible refine ae_andV ?_ | with_reducible refine ae_orV ?_ | with_reducible refine ae_notV ?_ | with_reducible refine ae_chain ?_
  | with_reducible refine ae_int ?_ | with_reducible refine ae_str ?_ | with_reducible refine ae_bl ?_ | with_reducible refine ae_non ?_ | with_reducible refine ae_ty ?_ | with_reducible refine ae_ref ?_
  | refine ae_varX rfl ?_ | refine ae_var rfl ?_
  | with_reducible refine ar_add ?_ | with_reducible refine ar_sub ?_ | with_reducible refine ar_lt ?_ | with_reducible refine ar_le ?_ | with_reducible refine ar_gt ?_ | with_reducible refine ar_ge ?_
  | with_reducible refine ar_eqI ?_ | with_reducible refine ar_neI ?_
  | with_reducible refine ⟨_, rfl, ?_⟩
  | refine ae_callG ?_ | refine ae_methG ?_ | refine ⟨(show List.lookup _ _ = none from rfl), ?_⟩)
section
variable {P : Program} {w : World} {K : PySem.W.Frag} {mg : Str → Option Value} {base : Heap} {a : Ad} {fd : Fds}

theorem JM.keep {h c p o e rl : Addr} {xs cs : List Int} {evs : List Ev} {rs : List (List Int)} {s en : Nat} {M M' : Mem} (J : JM a h c p o e rl xs cs evs rs s en M) (R : Rng h c M') (h1 : M' p = M p) (h2 : M' o = M o) (h3 : M' e = M e) (h4 : M' rl = M rl) : JM a h c p o e rl xs cs evs rs s en M' :=
  ⟨R, h1.trans J.mp, J.ds.of h2 h3, h4.trans J.mr, J.ro, J.re, J.ph, J.pc, J.oh, J.oc, J.eh, J.ec, J.rh, J.rc⟩
theorem JM.there {h c p o e rl : Addr} {xs cs : List Int} {evs : List Ev} {rs : List (List Int)} {s en : Nat} {M : Mem} (J : JM a h c p o e rl xs cs evs rs s en M) {b : Addr} (hb : b = p ∨ b = o ∨ b = e ∨ b = rl) : ∃ m, M b = some m := by
  rcases hb with rfl | rfl | rfl | rfl
  · exact ⟨_, J.mp⟩
  · exact ⟨_, J.ds.mo⟩
  · exact ⟨_, J.ds.me⟩
  · exact ⟨_, J.mr⟩
/-- two journals stand apart -/
def Apart (p o e rl p2 o2 e2 rl2 : Addr) : Prop := ∀ b, (b = p2 ∨ b = o2 ∨ b = e2 ∨ b = rl2) → b ≠ p ∧ b ≠ o ∧ b ≠ e ∧ b ≠ rl
theorem JM.other {h c p o e rl p2 o2 e2 rl2 : Addr} {xs cs : List Int} {evs : List Ev} {rs : List (List Int)} {s en : Nat} {M M' : Mem} (J : JM a h c p2 o2 e2 rl2 xs cs evs rs s en M) (ap : Apart p o e rl p2 o2 e2 rl2) (R : Rng h c M')
    (fr : ∀ b m, M b = some m → b ≠ p → b ≠ o → b ≠ e → b ≠ rl → M' b = some m) : JM a h c p2 o2 e2 rl2 xs cs evs rs s en M' := by
  have g : ∀ b, (b = p2 ∨ b = o2 ∨ b = e2 ∨ b = rl2) → M' b = M b := fun b hb => by
    obtain ⟨m, hm⟩ := J.there hb
    obtain ⟨x, y, z, u⟩ := ap b hb
    rw [fr b m hm x y z u, hm]
  exact J.keep R (g _ (.inl rfl)) (g _ (.inr (.inl rfl))) (g _ (.inr (.inr (.inl rfl)))) (g _ (.inr (.inr (.inr rfl))))
theorem rep_recs (n : Nat) : List.replicate n (D.tup []) = (List.replicate n ([] : List Int)).map recD := by rw [List.map_replicate]; rfl
theorem needs_rep : ∀ n : Nat, needs (List.replicate n ([] : List Int)) = 3 * n
  | 0 => rfl
  | n + 1 => by rw [List.replicate_succ, needs_cons, needs_rep n]; simp; omega
abbrev a_many : ASp := fun ds M Ψ Χ => ds = [] ∧ ∃ (h c : Addr), Rng h c M ∧ ∀ M', Rng h c M' → Ψ (.bl true) M'
theorem ok__law_many_right (T : Txt P K mg a) (Df : Defs K a fd) : FnG P w K mg base 6 a._law_many_right fd._law_many_right ps__law_many_right (lift K a_many) := by
  refine okG Df._law_many_right sc__law_many_right (fun ds M Ψ Χ ⟨h, _⟩ => by subst h; rfl) fun cdv A outer s H E hr hg => ?_
  refine ⟨_, (pss_cons (ps_par (i := 0) (j := 1) (by rfl) sc__law_many_right.nd rfl rfl (by decide) rfl rfl (pa_cons (pg_make T.mk_Journal (ok_Journal___init__ T Df) (hr.mono (by decide)) hg (by rfl) T.g_Journal (bd_Journal___init___2_ Df) (takes_of rfl rfl rfl rfl) (pa_cons (pg_make T.mk_Disk (ok_Disk___init__ T Df) (hr.mono (by decide)) hg (by rfl) T.g_Disk (bd_Disk___init___2_ Df) (takes_of rfl rfl rfl rfl) (pa_cons (pe_op op_repA (pe_tup (pa_cons pe_int pa_nil)) pe_int) pa_nil) pk_nil) pa_nil) pk_nil) (pa_cons (pg_make T.mk_Journal (ok_Journal___init__ T Df) (hr.mono (by decide)) hg (by rfl) T.g_Journal (bd_Journal___init___2_ Df) (takes_of rfl rfl rfl rfl) (pa_cons (pg_make T.mk_Disk (ok_Disk___init__ T Df) (hr.mono (by decide)) hg (by rfl) T.g_Disk (bd_Disk___init___2_ Df) (takes_of rfl rfl rfl rfl) (pa_cons (pe_op op_repA (pe_tup (pa_cons pe_int pa_nil)) pe_int) pa_nil) pk_nil) pa_nil) pk_nil) pa_nil)) (by rfl))
      (pss_cons (ps_expr (pg_meth (pv 0) T.cl_Journal T.me_Journal_renew (ok_Journal_renew T Df) (hr.mono (by decide)) hg (bd_Journal_renew_2_ Df) (takes_of rfl rfl rfl rfl) (pa_cons (pe_op op_repA (pe_tup (pa_cons (pe_tup pa_nil) pa_nil)) pe_int) pa_nil) pk_nil))
      (pss_cons (ps_for (passes_of rfl) rfl (pi_range1 (by rfl) T.n_range (pa_cons pe_int pa_nil)) (pg_name (i := 2) sc__law_many_right.nd rfl (Or.inl rfl))
      (pss_one (ps_expr (pg_meth (pv 1) T.cl_Journal T.me_Journal_write (ok_Journal_write T Df) (hr.mono (by decide)) hg (bd_Journal_write_2_ Df) (takes_of rfl rfl rfl rfl) (pa_cons (pe_tup pa_nil) pa_nil) pk_nil))))
      (pss_one (ps_ret (pe_and (pe_cmpR (op_eqD (hun64 hr)) (pg_meth0 (pv 0) T.cl_Journal T.me_Journal_records (ok_Journal_records T Df) (hr.mono (by decide)) hg (bd_Journal_records_1_ Df) (takes_of rfl rfl rfl rfl) pk_nil) (pe_op op_repA (pe_tup (pa_cons (pe_tup pa_nil) pa_nil)) pe_int) (nomark _)) (pe_one (pe_cmpR (op_eqD (hun64 hr)) (pg_meth0 (pv 1) T.cl_Journal T.me_Journal_records (ok_Journal_records T Df) (hr.mono (by decide)) hg (bd_Journal_records_1_ Df) (takes_of rfl rfl rfl rfl) pk_nil) (pe_op op_repA (pe_tup (pa_cons (pe_tup pa_nil) pa_nil)) pe_int) (nomark _))))))))), ?_⟩
  rintro ds M Ψ Χ ⟨rfl, h, c, R, k⟩
  have hz := opn_zero 400
  have hfz := fine_zero (n := 400) (by decide) (by decide)
  have h4 : (List.replicate 400 (0 : Int)).length = 400 := List.length_replicate
  refine as_seq (as_par (aa_cons (ae_jour ?_)))
  repeat walk_at "st"
  refine ae_disk ?_
  repeat walk_at "st"
  refine ae_tup ?_
  repeat walk_at "st"
  refine ⟨by simp, ?_⟩
  repeat walk_at "st"
  refine ar_repA (by decide) (by decide) ?_
  repeat walk_at "st"
  refine ⟨rfl, rfl, List.replicate 400 0, fun p => by rw [List.map_replicate]; rfl, hfz, fun o e M1 nd => ?_⟩
  repeat walk_at "st"
  refine ⟨rfl, rfl, _, o, e, fun p => rfl, nd.mo, hfz, .inl ⟨[], _, hz, fun p rl M2 hp hrl mp mr bt => ?_⟩⟩
  have J2 := new_jm R nd hp hrl mp mr bt
  have I2 := new_ji hfz (by rw [h4]; decide) hz
  clear mp mr bt hp hrl nd
  refine aa_cons (ae_jour ?_)
  repeat walk_at "st"
  refine ae_disk ?_
  repeat walk_at "st"
  refine ae_tup ?_
  repeat walk_at "st"
  refine ⟨by simp, ?_⟩
  repeat walk_at "st"
  refine ar_repA (by decide) (by decide) ?_
  repeat walk_at "st"
  refine ⟨rfl, rfl, List.replicate 400 0, fun p => by rw [List.map_replicate]; rfl, hfz, fun o2 e2 M3 nd => ?_⟩
  repeat walk_at "st"
  refine ⟨rfl, rfl, _, o2, e2, fun p => rfl, nd.mo, hfz, .inl ⟨[], _, hz, fun p2 rl2 M4 hp hrl mp mr bt => ?_⟩⟩
  have K4 := new_jm J2.R nd hp hrl mp mr bt
  have fr : ∀ b m, M2 b = some m → M3 b = some m ∧ M4 b = some m ∧ b ≠ p2 ∧ b ≠ o2 ∧ b ≠ e2 ∧ b ≠ rl2 := fun b m hb => by
    have n1 : b ≠ o2 := fun z => by rw [z, nd.no] at hb; cases hb
    have n2 : b ≠ e2 := fun z => by rw [z, nd.ne] at hb; cases hb
    have h3 : M3 b = some m := by rw [nd.bt b n1 n2]; exact hb
    have n3 : b ≠ p2 := fun z => by rw [z, hp] at h3; cases h3
    have n4 : b ≠ rl2 := fun z => by rw [z, hrl] at h3; cases h3
    exact ⟨h3, by rw [bt b n3 n4]; exact h3, n3, n1, n2, n4⟩
  have J4 : JM a h c p o e rl _ _ _ _ _ _ M4 := J2.keep K4.R (by rw [(fr p _ J2.mp).2.1]; exact J2.mp.symm) (by rw [(fr o _ J2.ds.mo).2.1]; exact J2.ds.mo.symm) (by rw [(fr e _ J2.ds.me).2.1]; exact J2.ds.me.symm) (by rw [(fr rl _ J2.mr).2.1]; exact J2.mr.symm)
  have ap : Apart p o e rl p2 o2 e2 rl2 := by
    obtain ⟨_, _, a1, a2, a3, a4⟩ := fr p _ J2.mp
    obtain ⟨_, _, b1, b2, b3, b4⟩ := fr o _ J2.ds.mo
    obtain ⟨_, _, c1, c2, c3, c4⟩ := fr e _ J2.ds.me
    obtain ⟨_, _, d1, d2, d3, d4⟩ := fr rl _ J2.mr
    rintro b (rfl | rfl | rfl | rfl)
    · exact ⟨a1.symm, b1.symm, c1.symm, d1.symm⟩
    · exact ⟨a2.symm, b2.symm, c2.symm, d2.symm⟩
    · exact ⟨a3.symm, b3.symm, c3.symm, d3.symm⟩
    · exact ⟨a4.symm, b4.symm, c4.symm, d4.symm⟩
  have ap2 : Apart p2 o2 e2 rl2 p o e rl := by
    rintro b (rfl | rfl | rfl | rfl)
    · exact ⟨fun z => (ap _ (.inl rfl)).1 z.symm, fun z => (ap _ (.inr (.inl rfl))).1 z.symm, fun z => (ap _ (.inr (.inr (.inl rfl)))).1 z.symm, fun z => (ap _ (.inr (.inr (.inr rfl)))).1 z.symm⟩
    · exact ⟨fun z => (ap _ (.inl rfl)).2.1 z.symm, fun z => (ap _ (.inr (.inl rfl))).2.1 z.symm, fun z => (ap _ (.inr (.inr (.inl rfl)))).2.1 z.symm, fun z => (ap _ (.inr (.inr (.inr rfl)))).2.1 z.symm⟩
    · exact ⟨fun z => (ap _ (.inl rfl)).2.2.1 z.symm, fun z => (ap _ (.inr (.inl rfl))).2.2.1 z.symm, fun z => (ap _ (.inr (.inr (.inl rfl)))).2.2.1 z.symm, fun z => (ap _ (.inr (.inr (.inr rfl)))).2.2.1 z.symm⟩
    · exact ⟨fun z => (ap _ (.inl rfl)).2.2.2 z.symm, fun z => (ap _ (.inr (.inl rfl))).2.2.2 z.symm, fun z => (ap _ (.inr (.inr (.inl rfl)))).2.2.2 z.symm, fun z => (ap _ (.inr (.inr (.inr rfl)))).2.2.2 z.symm⟩
  clear fr mp mr bt hp hrl nd J2
  repeat walk_at "st"
  refine ⟨_, _, rfl, ?_⟩
  refine as_seq (as_drop (ae_methM ?_))
  repeat walk_at "st"
  refine ⟨p, _, rfl, J4.mp, rfl, ?_⟩
  repeat walk_at "st"
  refine ae_tup ?_
  repeat walk_at "st"
  refine ae_tup ?_
  repeat walk_at "st"
  refine ⟨by simp, ?_⟩
  repeat walk_at "st"
  refine ⟨by simp, ?_⟩
  repeat walk_at "st"
  refine ar_repA (by decide) (by decide) ?_
  repeat walk_at "st"
  have e24 : List.replicate (24 : Int).toNat (D.tup []) = (List.replicate 24 ([] : List Int)).map recD := rep_recs 24
  rw [e24]
  refine ⟨rfl, rfl, renew_p J4 I2 (by simp) (fun r hr => ?_) (by simp) (fun hroom => ?_) fun rl' cs' ne s' en' M5 J5 I5 _ _ fr => ?_⟩
  · rw [(List.mem_replicate.mp hr).2]
    exact ⟨(fun _ z => by cases z), by simp⟩
  · rw [needs_rep, h4] at hroom
    unfold half at hroom
    omega
  have K5 := K4.other ap J5.R fr
  have d24 : rl' ≠ p2 ∧ rl' ≠ o2 ∧ rl' ≠ e2 ∧ rl' ≠ rl2 := by
    refine ⟨fun z => ?_, fun z => ?_, fun z => ?_, fun z => ?_⟩
    · have h9 := J5.mr; rw [z, K5.mp] at h9; cases h9
    · have h9 := J5.mr; rw [z, K5.ds.mo] at h9
      injection h9 with h9; injection h9 with h9
      have := congrArg List.length h9
      rw [List.length_map, List.length_map, h4, List.length_replicate] at this
      omega
    · have h9 := J5.mr; rw [z, K5.ds.me] at h9
      injection h9 with h9; injection h9 with h9
      have := congrArg List.length h9
      rw [List.length_map, List.length_map, List.length_replicate] at this
      simp at this
    · have h9 := J5.mr; rw [z, K5.mr] at h9
      injection h9 with h9; injection h9 with h9
      have := congrArg List.length h9
      rw [List.length_map, List.length_map, List.length_replicate] at this
      simp at this
  have ap5 : Apart p2 o2 e2 rl2 p o e rl' := by
    rintro b (rfl | rfl | rfl | rfl)
    · exact ap2 _ (.inl rfl)
    · exact ap2 _ (.inr (.inl rfl))
    · exact ap2 _ (.inr (.inr (.inl rfl)))
    · exact d24
  clear fr
  refine as_seqP (fun Δ' M' => (∃ u, Δ' = [some (.ref p), some (.ref p2), u]) ∧ JM a h c p o e rl' (List.replicate 400 0) cs' ([] ++ ne) (List.replicate 24 []) s' en' M' ∧ ∃ cs2 evs2 s2 en2, JM a h c p2 o2 e2 rl2 (List.replicate 400 0) cs2 evs2 (List.replicate 24 []) s2 en2 M') ?_ ?_
  · refine as_for (ai_rng1 ?_)
    repeat walk_at "st"
    refine ⟨by decide, ?_⟩
    refine ⟨fun i Δ' M' => (∃ u, Δ' = [some (.ref p), some (.ref p2), u]) ∧ JM a h c p o e rl' (List.replicate 400 0) cs' ([] ++ ne) (List.replicate 24 []) s' en' M' ∧ ∃ cs2 evs2 s2 en2, JM a h c p2 o2 e2 rl2 (List.replicate 400 0) cs2 evs2 (List.replicate i []) s2 en2 M' ∧
      JI (List.replicate 400 0) cs2 evs2 (List.replicate i []) s2 en2 ∧ evs2.length ≤ 6 * i, ⟨⟨_, rfl⟩, J5, _, _, _, _, K5, I2, by simp⟩, ?_, ?_⟩
    · rintro i d Δ' M' hx ⟨⟨u, rfl⟩, Ja, cs2, evs2, s2, en2, Jb, Ib, hlb⟩
      obtain ⟨hi, rfl⟩ := rngD_get hx
      have hi : i < 24 := by simpa using hi
      refine ag_name ?_
      refine as_drop (ae_methM ?_)
      repeat walk_at "st"
      refine ⟨p2, _, rfl, Jb.mp, rfl, ?_⟩
      repeat walk_at "st"
      refine ae_tup ?_
      repeat walk_at "st"
      refine ⟨by simp, ?_⟩
      repeat walk_at "st"
      refine ⟨rfl, rfl, write_p (part := []) Jb Ib (by omega) (fun _ z => by cases z) (by simp) (fun hroom => ?_) fun cs3 ne3 s3 en3 M6 J6 I6 _ hn3 fr3 => ?_⟩
      · rw [needs_app, needs_rep, h4] at hroom
        unfold half at hroom
        have : needs [([] : List Int)] = 3 := rfl
        omega
      · have er : List.replicate i ([] : List Int) ++ [[]] = List.replicate (i + 1) [] := List.replicate_succ'.symm
        rw [er] at J6 I6
        exact ⟨⟨_, rfl⟩, Ja.other ap5 J6.R fr3, cs3, _, s3, en3, J6, I6, by rw [List.length_append]; simp at hn3; omega⟩
    · rintro Δ' M' ⟨hu, Ja, cs2, evs2, s2, en2, Jb, _⟩
      rw [rngD_length] at Jb
      exact ⟨hu, Ja, cs2, evs2, s2, en2, Jb⟩
  · rintro Δ' M' ⟨⟨u, rfl⟩, Ja, cs2, evs2, s2, en2, Jb⟩
    have g24 : good 2 (.tup ((List.replicate 24 ([] : List Int)).map recD)) = true := by show goods 1 _ = true; exact good_recs 0 _
    have eqt : ∀ (Ψ : PsiE) (M : Mem), Ψ (.bl true) M → AR2 K (rEqD K) (.tup ((List.replicate 24 ([] : List Int)).map recD)) (.tup ((List.replicate 24 ([] : List Int)).map recD)) M Ψ := fun Ψ M hk =>
      ar_eqD g24 g24 (by decide) (by decide) (by rw [eqD_self g24]; exact hk)
    refine as_ret (ae_andV (ae_op (ae_methM ?_)))
    repeat walk_at "st"
    refine ⟨p, _, rfl, Ja.mp, rfl, ?_⟩
    repeat walk_at "st"
    refine ⟨rfl, rfl, p, rl', _, _, _, _, rfl, Ja.mp, Ja.mr, ?_⟩
    repeat walk_at "st"
    refine ae_tup ?_
    repeat walk_at "st"
    refine ae_tup ?_
    repeat walk_at "st"
    refine ⟨by simp, ?_⟩
    repeat walk_at "st"
    refine ⟨by simp, ?_⟩
    repeat walk_at "st"
    refine ar_repA (by decide) (by decide) ?_
    rw [e24]
    refine eqt _ _ ?_
    refine ⟨_, rfl, ?_⟩
    rw [if_pos rfl]
    refine ae_op (ae_methM ?_)
    repeat walk_at "st"
    refine ⟨p2, _, rfl, Jb.mp, rfl, ?_⟩
    repeat walk_at "st"
    refine ⟨rfl, rfl, p2, rl2, _, _, _, _, rfl, Jb.mp, Jb.mr, ?_⟩
    repeat walk_at "st"
    refine ae_tup ?_
    repeat walk_at "st"
    refine ae_tup ?_
    repeat walk_at "st"
    refine ⟨by simp, ?_⟩
    repeat walk_at "st"
    refine ⟨by simp, ?_⟩
    repeat walk_at "st"
    refine ar_repA (by decide) (by decide) ?_
    rw [e24]
    refine eqt _ _ ?_
    exact k M' Ja.R
end
end K60
namespace K60
open PySem PySem.Spec PyProof.Rows L2 RZ T2
local macro_rules | `(tactic| walk_at "st") => `(tactic| first
  | with_reducible refine as_seq ?_ | with_reducible refine as_if ?_ | with_reducible refine as_ret ?_ | with_reducible refine as_set ?_ | with_reducible refine as_drop ?_ | with_reducible refine as_next ?_
  | with_reducible refine as_asg ?_ | with_reducible refine as_retN ?_ | with_reducible refine as_brk ?_ | with_reducible refine as_cont ?_
  | with_reducible refine at_test ?_ | with_reducible refine at_B ?_ | with_reducible refine at_and ?_ | with_reducible refine at_or ?_ | with_reducible refine at_not ?_ | with_reducible refine at_yes ?_
  | with_reducible refine ae_op ?_ | with_reducible refine ae_un ?_ | with_reducible refine ae_cb ?_ | with_reducible refine aa_cons ?_ | with_reducible refine aa_nil ?_ | with_reducible refine ae_if ?_
  | with_reducible refine ae_andV ?_ | with_reducible refine ae_orV ?_ | with_reducible refine ae_notV ?_ | with_reducible refine ae_chain ?_
  | with_reducible refine ae_int ?_ | with_reducible refine ae_str ?_ | with_reducible refine ae_bl ?_ | with_reducible refine ae_non ?_ | with_reducible refine ae_ty ?_ | with_reducible refine ae_ref ?_
  | refine ae_varX rfl ?_ | refine ae_var rfl ?_
  | with_reducible refine ar_add ?_ | with_reducible refine ar_sub ?_ | with_reducible refine ar_lt ?_ | with_reducible refine ar_le ?_ | with_reducible refine ar_gt ?_ | with_reducible refine ar_ge ?_
  | with_reducible refine ar_eqI ?_ | with_reducible refine ar_neI ?_
  | with_reducible refine ⟨_, rfl, ?_⟩
  | refine ae_callG ?_ | refine ae_methG ?_ | refine ⟨(show List.lookup _ _ = none from rfl), ?_⟩)
section
variable {P : Program} {w : World} {K : PySem.W.Frag} {mg : Str → Option Value} {base : Heap} {a : Ad} {fd : Fds}

/-- any octets are parsed, or break off -/
theorem par_tot {cs : List Int} {stop : Nat} (hco : Oct cs) (hl : stop ≤ cs.length) : ∀ n p, stop - p ≤ n → (∃ rs e, Par cs stop p rs e) ∨ Brk cs stop p
  | 0, p, h => .inl ⟨[], p, .done fun hp => absurd hp (by omega)⟩
  | n + 1, p, h => by
    by_cases hp : p < stop
    · obtain ⟨m, hm⟩ : ∃ m, cs[p]? = some m := ⟨_, List.getElem?_eq_getElem (by omega)⟩
      by_cases h0 : 0 < m
      · by_cases h3 : p + 3 ≤ stop
        · obtain ⟨hi, hhi⟩ : ∃ m, cs[p + 1]? = some m := ⟨_, List.getElem?_eq_getElem (by omega)⟩
          obtain ⟨lo, hlo⟩ : ∃ m, cs[p + 2]? = some m := ⟨_, List.getElem?_eq_getElem (by omega)⟩
          have b1 := oct_nn hco hhi
          have b2 := oct_nn hco hlo
          by_cases hs : (stop : Int) < p + 3 + hi * 256 + lo
          · exact .inr (.over hp hm h0 h3 hhi hlo hs)
          · obtain ⟨b, hb⟩ : ∃ b : Nat, (b : Int) = p + 3 + hi * 256 + lo := ⟨((p : Int) + 3 + hi * 256 + lo).toNat, by omega⟩
            rcases par_tot hco hl n b (by omega) with ⟨rs, e, z⟩ | z
            · exact .inl ⟨_, e, .step hp hm h0 h3 hhi hlo hb (by omega) z⟩
            · exact .inr (.step hp hm h0 h3 hhi hlo hb (by omega) z)
        · exact .inr (.head hp hm h0 (by omega))
      · exact .inl ⟨[], p, .done fun _ v hv => by rw [hm] at hv; cases hv; omega⟩
    · exact .inl ⟨[], p, .done fun z => absurd z hp⟩
abbrev a_strange : ASp := fun ds M Ψ Χ => ∃ (h c : Addr), ds = [.ref h] ∧ Rng h c M ∧ ∀ M', Rng h c M' → Ψ (.bl true) M'
theorem ok__law_strange_right (T : Txt P K mg a) (Df : Defs K a fd) : FnG P w K mg base 6 a._law_strange_right fd._law_strange_right ps__law_strange_right (lift K a_strange) := by
  refine okG Df._law_strange_right sc__law_strange_right (fun ds M Ψ Χ ⟨_, _, h, _⟩ => by subst h; rfl) fun cdv A outer s H E hr hg => ?_
  refine ⟨_, (pss_cons (ps_set (i := 1) sc__law_strange_right.nd rfl (Or.inl rfl) (pe_callTy call_tuple_of (by rfl) T.n_tuple (by decide +kernel) (pa_cons (pe_lc (own := [("_law_at", 5)]) rfl sc__law_strange_right.nd (pi_range1 (by rfl) T.n_range (pa_cons (pe_op op_add pe_int (pg_call (ok__law_draw T Df) (hr.mono (by decide)) hg (by rfl) T.g__law_draw T.k__law_draw (bd__law_draw_2_ Df) (takes_of rfl rfl rfl rfl) (pa_cons (pv 0) (pa_cons pe_int pa_nil)) pk_nil)) pa_nil)) (blkOk_by (own := [("_law_at", 5)]) (N := N__law_strange_right) (sc := defScope s__law_strange_right) (by decide +kernel)) (fun _ _ _ _ _ => (pg_name (i := 5) sc__law_strange_right.nd rfl (Or.inl rfl))) (fun _ _ _ _ _ => pts_nil) (fun _ _ _ _ _ => (pg_call (ok__law_pick T Df) (hr.mono (by decide)) hg (by rfl) T.g__law_pick T.k__law_pick (bd__law_pick_2_ Df) takes0 (pa_cons (pv 0) (pa_cons (pe_lst (pa_cons pe_int (pa_cons pe_int (pa_cons pe_int (pa_cons (pg_call (ok__law_octet T Df) (hr.mono (by decide)) hg (by rfl) T.g__law_octet T.k__law_octet (bd__law_octet_1_ Df) takes0 (pa_cons (pv 0) pa_nil) pk_nil) pa_nil))))) pa_nil)) pk_nil))) pa_nil)))
      (pss_cons (ps_tryAs (i := 3) rfl rfl sc__law_strange_right.nd rfl rfl ⟨rfl, by decide, Or.inl T.g_DeskError⟩ (takes_of rfl rfl rfl rfl)
      (fun W pn xe tkb _ => (pss_one (ps_set (i := 2) sc__law_strange_right.nd rfl (Or.inl rfl) (pg_make T.mk_Journal (ok_Journal___init__ T Df) (hr.mono (by decide)) hg (by rfl) T.g_Journal (bd_Journal___init___2_ Df) tkb (pa_cons (pg_make T.mk_Disk (ok_Disk___init__ T Df) (hr.mono (by decide)) hg (by rfl) T.g_Disk (bd_Disk___init___2_ Df) tkb (pa_cons (pv 1) pa_nil) pk_nil) pa_nil) pk_nil))))
      (fun xa oe xcls xd pn hz hf => (pss_one (ps_ret (pe_and (pe_callB (call_isX hz hf) (by rfl) T.n_isinstance (by decide +kernel) (pa_cons (pv 3) (pa_cons (pe_glob (v := .ref a.Broken) rfl T.g_Broken rfl) pa_nil))) (pe_and (pe_not (pe_callB (call_isX hz hf) (by rfl) T.n_isinstance (by decide +kernel) (pa_cons (pv 3) (pa_cons (pe_glob (v := .ref a.Refused) rfl T.g_Refused rfl) pa_nil)))) (pe_one (pe_cmpR op_eq (pe_xfA hz hf (pv 3)) pe_str (nomark _)))))))))
      (pss_cons (ps_set (i := 4) sc__law_strange_right.nd rfl (Or.inl rfl) (pg_meth0 (pv 2) T.cl_Journal T.me_Journal_records (ok_Journal_records T Df) (hr.mono (by decide)) hg (bd_Journal_records_1_ Df) (takes_of rfl rfl rfl rfl) pk_nil))
      (pss_one (ps_ret (pe_and (pe_callB call_isi (by rfl) T.n_isinstance (by decide +kernel) (pa_cons (pv 4) (pa_cons (pe_bltn (v := .ty "tuple") (by rfl) T.n_tuple (by decide +kernel) rfl) pa_nil))) (pe_one (pe_callB (cr_all rfl) (by rfl) T.n_all (by decide +kernel) (pa_cons (pe_lc (own := [("_law_record_here", 6)]) rfl sc__law_strange_right.nd (pi_tup (pv 4)) (blkOk_by (own := [("_law_record_here", 6)]) (N := N__law_strange_right) (sc := defScope s__law_strange_right) (by decide +kernel)) (fun _ _ _ _ _ => (pg_name (i := 6) sc__law_strange_right.nd rfl (Or.inl rfl))) (fun _ _ _ _ _ => pts_nil) (fun _ _ _ _ _ => (pe_callB (r := rIsi K) call_isi (by rfl) T.n_isinstance (by decide +kernel) (pa_cons (pv 6) (pa_cons (pe_bltn (v := .ty "tuple") (by rfl) T.n_tuple (by decide +kernel) rfl) pa_nil))))) pa_nil))))))))), ?_⟩
  rintro ds M Ψ Χ ⟨h, c, rfl, R, k⟩
  refine as_seqP (fun Δ' M1 => ∃ cs : List Int, Δ' = [some (.ref h), some (.tup (cs.map D.int)), none, none, none, none, none] ∧ Fine cs ∧ cs.length ≤ 1500 ∧ Rng h c M1) ?_ ?_
  · repeat walk_at "st"
    refine ae_lcF (ai_rng1 ?_)
    repeat walk_at "st"
    refine ⟨rfl, rfl, h, c, _, rfl, R, by decide, by decide, fun n M2 n0 n1 R2 b2 => ?_⟩
    repeat walk_at "st"
    refine ⟨by omega, by rw [rngD_length]; omega, fun i acc M3 => ∃ cs : List Int, acc = cs.map D.int ∧ cs.length = i ∧ Oct cs ∧ Rng h c M3 ∧ But2 h c M M3, ⟨[], rfl, rfl, (fun _ z => by cases z), R2, b2⟩, ?_, ?_⟩
    · rintro i2 d2 acc2 M3 p2 hx2 ⟨cs, rfl, hcl2, hco, R3, b3⟩ hp2 _
      obtain ⟨_, rfl⟩ := rngD_get hx2
      obtain ⟨m1, m2⟩ := R3.fresh hp2
      refine agc_name (by decide) (at_yes (ite3 (fun _ => ?_) fun z => by cases z))
      repeat walk_at "st"
      refine ae_lst ?_
      repeat walk_at "st"
      refine ⟨rfl, rfl, h, c, rfl, R3.set m1 m2, fun r M4 r0 r1 R4 b4 => ?_⟩
      repeat walk_at "st"
      refine ⟨by simp, ?_⟩
      repeat walk_at "st"
      refine ⟨rfl, rfl, h, c, _, rfl, R4, by simp, by simp, fun d M6 hd R6 b6 => ?_⟩
      have hv : ∃ v : Int, d = .int v ∧ 0 ≤ v ∧ v < 256 := by
        simp only [List.mem_cons, List.mem_nil_iff, or_false] at hd
        rcases hd with rfl | rfl | rfl | rfl
        · exact ⟨0, rfl, by decide, by decide⟩
        · exact ⟨0, rfl, by decide, by decide⟩
        · exact ⟨1, rfl, by decide, by decide⟩
        · exact ⟨r, rfl, r0, r1⟩
      obtain ⟨v, rfl, hv⟩ := hv
      obtain ⟨M5, e5, m5, R5, b5⟩ := turn b3 R3 hp2 R6 (b4.trans b6)
      refine ⟨M5, e5, m5, cs ++ [v], by rw [List.map_append]; rfl, by rw [List.length_append, hcl2]; rfl, fun c hc => ?_, R5, b5⟩
      rcases List.mem_append.mp hc with z | z
      · exact hco c z
      · rw [List.mem_singleton] at z
        rw [z]; exact hv
    · rintro acc2 M3 ⟨cs, rfl, hcl2, hco, R3, b3⟩
      rw [rngD_length] at hcl2
      repeat walk_at "st"
      refine arl_tupL ?_
      exact ⟨cs, rfl, ⟨by omega, by omega, hco⟩, by omega, R3⟩
  rintro Δ' M1 ⟨cs, rfl, hf, hl, R1⟩
  have tot := par_tot (stop := hstart cs.length (sideOf cs + 1)) hf.2.2 (hstart_le hf.1 (by have := sideOf_le (cs := cs); omega)) _ (hstart cs.length (sideOf cs)) (Nat.le_refl _)
  refine as_seqP (fun Δ' M2 => ∃ p o e rl rs en, Δ' = [some (.ref h), some (.tup (cs.map D.int)), some (.ref p), none, none, none, none] ∧ JM a h c p o e rl cs cs [] rs (sideOf cs) en M2 ∧ Opn cs rs en) ?_ ?_
  · refine as_tryAs fun W' => ?_
    refine as_set (ae_jour ?_)
    repeat walk_at "st"
    refine ae_disk ?_
    repeat walk_at "st"
    refine ⟨rfl, rfl, cs, fun p => rfl, hf, fun o e M2 nd => ?_⟩
    repeat walk_at "st"
    refine ⟨rfl, rfl, _, o, e, fun p => rfl, nd.mo, hf, ?_⟩
    rcases tot with ⟨rs, en, hop⟩ | hbr
    · exact .inl ⟨rs, en, hop, fun p rl M3 hp hrl mp mr bt => ⟨p, o, e, rl, rs, en, rfl, new_jm R1 nd hp hrl mp mr bt, hop⟩⟩
    · refine .inr ⟨hbr, fun M' le => ?_⟩
      have R' : Rng h c M' := by
        obtain ⟨n1, n2⟩ := R1.fresh nd.no
        obtain ⟨n3, n4⟩ := R1.fresh nd.ne
        obtain ⟨hc, dg, st, e1, e2, z⟩ := R1
        exact ⟨hc, dg, st, le _ _ (by rw [nd.bt h (Ne.symm n1) (Ne.symm n3)]; exact e1), le _ _ (by rw [nd.bt c (Ne.symm n2) (Ne.symm n4)]; exact e2), z⟩
      refine ⟨true, T.exm_Broken_DeskError, fun _ ea dd hea => ?_, fun z => by cases z⟩
      repeat walk_at "st"
      refine arl_isX T.ec_Broken T.kit_Broken_Broken ?_
      refine ⟨true, rfl, ite3 (fun _ => ?_) fun z => by cases z⟩
      repeat walk_at "st"
      refine arl_isX T.ec_Broken T.kit_Broken_Refused ?_
      refine ⟨false, rfl, ?_⟩
      refine ⟨true, rfl, ite3 (fun _ => ?_) fun z => by cases z⟩
      repeat walk_at "st"
      refine ae_xf T.xf_Broken T.xn_Broken ?_
      repeat walk_at "st"
      refine ⟨_, _, rfl, rfl, ?_⟩
      repeat walk_at "st"
      refine ar_eqS ?_
      rw [decide_eq_true rfl]
      exact k M' R'
  · rintro Δ' M2 ⟨p, o, e, rl, rs, en, rfl, J, hop⟩
    refine as_seq (as_set (ae_methM ?_))
    repeat walk_at "st"
    refine ⟨p, _, rfl, J.mp, rfl, ?_⟩
    repeat walk_at "st"
    refine ⟨rfl, rfl, p, rl, _, _, _, rs, rfl, J.mp, J.mr, ?_⟩
    repeat walk_at "st"
    refine arl_isi (t := "tuple") (b := true) rfl rfl ?_
    refine ⟨true, rfl, ite3 (fun _ => ?_) fun z => by cases z⟩
    repeat walk_at "st"
    refine ae_lcP (ai_tup ?_)
    repeat walk_at "st"
    have hrl : rs.length ≤ 2000 := by
      have h1 := (new_ji hf hl hop).recs
      have h2 := needs_len rs
      have h3 := h1.nd
      omega
    · refine ⟨by rw [List.length_map]; omega, fun _ => true, fun _ => .bl true, fun d M' hd => ?_, ?_⟩
      · obtain ⟨r, _, rfl⟩ := List.mem_map.mp hd
        refine agc_name (by decide) ⟨rfl, ?_⟩
        repeat walk_at "st"
        refine ⟨rfl, rfl, fun _ => ?_⟩
        repeat walk_at "st"
        refine arl_isi (t := "tuple") (b := true) rfl rfl ?_
        exact ⟨rfl, rfl⟩
      · rw [filter_true]
        repeat walk_at "st"
        have e1 : (rs.map recD).map (fun _ => D.bl true) = (rs.map fun _ => true).map D.bl := by rw [List.map_map, List.map_map]; rfl
        rw [e1]
        refine arl_all ?_
        have e2 : (rs.map fun _ => true).all id = true := by rw [List.all_map]; exact List.all_eq_true.mpr fun _ _ => rfl
        rw [e2]
        exact k M2 J.R
end
end K60
namespace K60
open PySem PySem.Spec PyProof.Rows L2 RZ T2
local macro_rules | `(tactic| walk_at "st") => `(tactic| first
  | with_reducible refine as_seq ?_ | with_reducible refine as_if ?_ | with_reducible refine as_ret ?_ | with_reducible refine as_set ?_ | with_reducible refine as_drop ?_ | with_reducible refine as_next ?_
  | with_reducible refine as_asg ?_ | with_reducible refine as_retN ?_ | with_reducible refine as_brk ?_ | with_reducible refine as_cont ?_
  | with_reducible refine at_test ?_ | with_reducible refine at_B ?_ | with_reducible refine at_and ?_ | with_reducible refine at_or ?_ | with_reducible refine at_not ?_ | with_reducible refine at_yes ?_
  | with_reducible refine ae_op ?_ | with_reducible refine ae_un ?_ | with_reducible refine ae_cb ?_ | with_reducible refine aa_cons ?_ | with_reducible refine aa_nil ?_ | with_reducible refine ae_if ?_
  | with_reducible refine ae_andV ?_ | with_reducible refine ae_orV ?_ | with_reducible refine ae_notV ?_ | with_reducible refine ae_chain ?_
  | with_reducible refine ae_int ?_ | with_reducible refine ae_str ?_ | with_reducible refine ae_bl ?_ | with_reducible refine ae_non ?_ | with_reducible refine ae_ty ?_ | with_reducible refine ae_ref ?_
  | refine ae_varX rfl ?_ | refine ae_var rfl ?_
  | with_reducible refine ar_add ?_ | with_reducible refine ar_sub ?_ | with_reducible refine ar_lt ?_ | with_reducible refine ar_le ?_ | with_reducible refine ar_gt ?_ | with_reducible refine ar_ge ?_
  | with_reducible refine ar_eqI ?_ | with_reducible refine ar_neI ?_
  | with_reducible refine ⟨_, rfl, ?_⟩
  | refine ae_callG ?_ | refine ae_methG ?_ | refine ⟨(show List.lookup _ _ = none from rfl), ?_⟩)
section
variable {P : Program} {w : World} {K : PySem.W.Frag} {mg : Str → Option Value} {base : Heap} {a : Ad} {fd : Fds}

theorem look_all {n : Nat} {cs : List Int} (h : cs.length = n) : (rngD 0 n).map (fun y => D.int ((cs[(iv y).toNat]?).getD 0)) = cs.map D.int := by
  have := slice_map (cs := cs) (q := 0) (n := n) (by omega)
  rw [List.drop_zero, ← h, List.take_length] at this
  rw [← h]
  exact this
abbrev a_law : ASp := fun ds M Ψ Χ => ∃ (ns : List Int), ds = [.lst (ns.map D.int)] ∧ ns.length ≤ 63 ∧ ∀ M', Ψ (.bl true) M'
theorem ok_law (T : Txt P K mg a) (Df : Defs K a fd) : FnG P w K mg base 10 a.law fd.law ps_law (lift K a_law) := by
  refine okG Df.law sc_law (fun ds M Ψ Χ ⟨_, h, _⟩ => by subst h; rfl) fun cdv A outer s H E hr hg => ?_
  refine ⟨_, (pss_cons (ps_set (i := 1) sc_law.nd rfl (Or.inl rfl) (pg_call (ok__law_heap T Df) (hr.mono (by decide)) hg (by rfl) T.g__law_heap T.k__law_heap (bd__law_heap_1_ Df) (takes_of rfl rfl rfl rfl) (pa_cons (pv 0) pa_nil) pk_nil))
      (pss_cons (ps_set (i := 2) sc_law.nd rfl (Or.inl rfl) (pe_ifExp (pt_cmpR op_gt (pe_callB call_len (by rfl) T.n_len (by decide +kernel) (pa_cons (pv 0) pa_nil)) pe_int (nomark _)) (pe_lst (pa_cons pe_int (pa_cons pe_int (pa_cons pe_int (pa_cons pe_int (pa_cons pe_int (pa_cons pe_int pa_nil))))))) (pe_lst (pa_cons pe_int (pa_cons pe_int (pa_cons pe_int pa_nil))))))
      (pss_cons (ps_if (pt_not (pt_val (pg_call (ok__law_day_right T Df) (hr.mono (by decide)) hg (by rfl) T.g__law_day_right T.k__law_day_right (bd__law_day_right_4_ Df) (takes_of rfl rfl rfl rfl) (pa_cons (pv 1) (pa_cons (pg_call (ok__law_pick T Df) (hr.mono (by decide)) hg (by rfl) T.g__law_pick T.k__law_pick (bd__law_pick_2_ Df) (takes_of rfl rfl rfl rfl) (pa_cons (pv 1) (pa_cons (pv 2) pa_nil)) pk_nil) (pa_cons (pe_op op_add pe_int (pe_op op_mul pe_int (pe_callTy call_int1 (by rfl) T.n_int (by decide +kernel) (pa_cons (pe_cmpR op_gt (pe_callB call_len (by rfl) T.n_len (by decide +kernel) (pa_cons (pv 0) pa_nil)) pe_int (nomark _)) pa_nil)))) (pa_cons (pe_op op_add pe_int (pe_op op_mul pe_int (pe_callTy call_int1 (by rfl) T.n_int (by decide +kernel) (pa_cons (pe_cmpR op_gt (pe_callB call_len (by rfl) T.n_len (by decide +kernel) (pa_cons (pv 0) pa_nil)) pe_int (nomark _)) pa_nil)))) pa_nil)))) pk_nil)))
      (pss_one (ps_ret pe_bl))
      pss_nil)
      (pss_cons (ps_if (pt_not (pt_val (pg_call (ok__law_day_right T Df) (hr.mono (by decide)) hg (by rfl) T.g__law_day_right T.k__law_day_right (bd__law_day_right_4_ Df) (takes_of rfl rfl rfl rfl) (pa_cons (pv 1) (pa_cons (pe_op op_add pe_int (pg_call (ok__law_draw T Df) (hr.mono (by decide)) hg (by rfl) T.g__law_draw T.k__law_draw (bd__law_draw_2_ Df) (takes_of rfl rfl rfl rfl) (pa_cons (pv 1) (pa_cons pe_int pa_nil)) pk_nil)) (pa_cons pe_int (pa_cons pe_int pa_nil)))) pk_nil)))
      (pss_one (ps_ret pe_bl))
      pss_nil)
      (pss_cons (ps_if (PW.pt (pw_and (pt_cmpR op_gt (pe_callB call_len (by rfl) T.n_len (by decide +kernel) (pa_cons (pv 0) pa_nil)) pe_int (nomark _)) (pw_and (pt_cmpR op_eq (pg_call (ok__law_draw T Df) (hr.mono (by decide)) hg (by rfl) T.g__law_draw T.k__law_draw (bd__law_draw_2_ Df) (takes_of rfl rfl rfl rfl) (pa_cons (pv 1) (pa_cons pe_int pa_nil)) pk_nil) pe_int (nomark _)) (pw_and1 (pt_not (pt_val (pg_call (ok__law_day_right T Df) (hr.mono (by decide)) hg (by rfl) T.g__law_day_right T.k__law_day_right (bd__law_day_right_4_ Df) (takes_of rfl rfl rfl rfl) (pa_cons (pv 1) (pa_cons (pe_op op_add pe_int (pg_call (ok__law_draw T Df) (hr.mono (by decide)) hg (by rfl) T.g__law_draw T.k__law_draw (bd__law_draw_2_ Df) (takes_of rfl rfl rfl rfl) (pa_cons (pv 1) (pa_cons pe_int pa_nil)) pk_nil)) (pa_cons pe_int (pa_cons pe_int pa_nil)))) pk_nil)))))))
      (pss_one (ps_ret pe_bl))
      pss_nil)
      (pss_cons (ps_if (PW.pt (pw_or (pt_not (pt_val (pg_call (ok__law_strange_right T Df) (hr.mono (by decide)) hg (by rfl) T.g__law_strange_right T.k__law_strange_right (bd__law_strange_right_1_ Df) (takes_of rfl rfl rfl rfl) (pa_cons (pv 1) pa_nil) pk_nil))) (pw_or1 (PW.pt (pw_and (pt_cmpR op_gt (pe_callB call_len (by rfl) T.n_len (by decide +kernel) (pa_cons (pv 0) pa_nil)) pe_int (nomark _)) (pw_and (pt_cmpR op_eq (pg_call (ok__law_draw T Df) (hr.mono (by decide)) hg (by rfl) T.g__law_draw T.k__law_draw (bd__law_draw_2_ Df) (takes_of rfl rfl rfl rfl) (pa_cons (pv 1) (pa_cons pe_int pa_nil)) pk_nil) pe_int (nomark _)) (pw_and1 (pt_not (pt_val (pg_call0 (ok__law_many_right T Df) (hr.mono (by decide)) hg (by rfl) T.g__law_many_right T.k__law_many_right (bd__law_many_right_0_ Df) (takes_of rfl rfl rfl rfl) pk_nil))))))))))
      (pss_one (ps_ret pe_bl))
      pss_nil)
      (pss_cons (ps_set (i := 3) sc_law.nd rfl (Or.inr rfl) (pg_make T.mk_Journal (ok_Journal___init__ T Df) (hr.mono (by decide)) hg (by rfl) T.g_Journal (bd_Journal___init___2_ Df) (takes_of rfl rfl rfl rfl) (pa_cons (pg_make T.mk_Disk (ok_Disk___init__ T Df) (hr.mono (by decide)) hg (by rfl) T.g_Disk (bd_Disk___init___2_ Df) (takes_of rfl rfl rfl rfl) (pa_cons (pe_op op_repA (pe_tup (pa_cons pe_int pa_nil)) pe_int) pa_nil) pk_nil) pa_nil) pk_nil))
      (pss_cons (ps_expr (pg_meth (pv 3) T.cl_Journal T.me_Journal_write (ok_Journal_write T Df) (hr.mono (by decide)) hg (bd_Journal_write_2_ Df) (takes_of rfl rfl rfl rfl) (pa_cons (pe_tup (pa_cons pe_int (pa_cons pe_int (pa_cons pe_int pa_nil)))) pa_nil) pk_nil))
      (pss_cons (ps_expr (pg_meth (pv 3) T.cl_Journal T.me_Journal_renew (ok_Journal_renew T Df) (hr.mono (by decide)) hg (bd_Journal_renew_2_ Df) (takes_of rfl rfl rfl rfl) (pa_cons (pe_tup (pa_cons (pe_tup pa_nil) (pa_cons (pe_tup (pa_cons pe_int pa_nil)) pa_nil))) pa_nil) pk_nil))
      (pss_cons (ps_expr (pg_meth (pv 3) T.cl_Journal T.me_Journal_write (ok_Journal_write T Df) (hr.mono (by decide)) hg (bd_Journal_write_2_ Df) (takes_of rfl rfl rfl rfl) (pa_cons (pe_tup (pa_cons pe_int pa_nil)) pa_nil) pk_nil))
      (pss_one (ps_ret (pe_and (pe_cmpR (op_eqD (hun64 hr)) (pg_meth0 (pv 3) T.cl_Journal T.me_Journal_records (ok_Journal_records T Df) (hr.mono (by decide)) hg (bd_Journal_records_1_ Df) (takes_of rfl rfl rfl rfl) pk_nil) (pe_tup (pa_cons (pe_tup pa_nil) (pa_cons (pe_tup (pa_cons pe_int pa_nil)) (pa_cons (pe_tup (pa_cons pe_int pa_nil)) pa_nil)))) (nomark _)) (pe_one (pe_cmpR (op_eqD (hun64 hr)) (pg_call (ok__law_opened T Df) (hr.mono (by decide)) hg (by rfl) T.g__law_opened T.k__law_opened (bd__law_opened_1_ Df) (takes_of rfl rfl rfl rfl) (pa_cons (pe_callTy call_tuple_of (by rfl) T.n_tuple (by decide +kernel) (pa_cons (pe_lc (own := [("_law_at", 4)]) rfl sc_law.nd (pi_range1 (by rfl) T.n_range (pa_cons pe_int pa_nil)) (blkOk_by (own := [("_law_at", 4)]) (N := N_law) (sc := defScope s_law) (by decide +kernel)) (fun _ _ _ _ _ => (pg_name (i := 4) sc_law.nd rfl (Or.inl rfl))) (fun _ _ _ _ _ => pts_nil) (fun _ _ _ _ _ => (pg_meth (pe_fldK (K := K) rfl (pv 3) rfl) T.cl_Disk T.me_Disk_look (ok_Disk_look T Df) (hr.mono (by decide)) hg (bd_Disk_look_2_ Df) takes0 (pa_cons (pv 4) pa_nil) pk_nil))) pa_nil)) pa_nil) pk_nil) (pe_tup (pa_cons (pe_tup pa_nil) (pa_cons (pe_tup (pa_cons pe_int pa_nil)) (pa_cons (pe_tup (pa_cons pe_int pa_nil)) pa_nil)))) (nomark _)))))))))))))))), ?_⟩
  rintro ds M Ψ Χ ⟨ns, rfl, hns, k⟩
  repeat walk_at "st"
  refine ⟨rfl, rfl, ns, rfl, fun h c M1 _ _ R1 _ => ?_⟩
  refine as_seqP (fun Δ' M' => ∃ vs : List Int, 0 < vs.length ∧ vs.length ≤ 6 ∧ (∀ v ∈ vs, 1 ≤ v ∧ v ≤ 300) ∧ Δ' = [some (.lst (ns.map D.int)), some (.ref h), some (.lst (vs.map D.int)), none, none] ∧ Rng h c M') ?_ ?_
  · repeat walk_at "st"
    refine arl_lenL ?_
    repeat walk_at "st"
    refine ite3 (fun _ => ?_) fun _ => ?_
    · refine ae_lst ?_
      repeat walk_at "st"
      exact ⟨by simp, [60, 90, 42, 120, 24, 61], by decide, by decide, by decide, rfl, R1⟩
    · refine ae_lst ?_
      repeat walk_at "st"
      exact ⟨by simp, [60, 43, 52], by decide, by decide, by decide, rfl, R1⟩
  rintro Δ' M2 ⟨vs, v0, v6, hv, rfl, R2⟩
  have h0 : ∀ b : Bool, (0 : Int) ≤ (if b = true then 1 else 0) ∧ (if b = true then (1 : Int) else 0) ≤ 1 := fun b => by cases b <;> decide
  -- the first day
  refine as_seqP (fun Δ' M' => Δ' = [some (.lst (ns.map D.int)), some (.ref h), some (.lst (vs.map D.int)), none, none] ∧ Rng h c M') ?_ ?_
  · repeat walk_at "st"
    refine ⟨rfl, rfl, h, c, _, rfl, R2, by rw [List.length_map]; exact v0, by rw [List.length_map]; omega, fun d M3 hd R3 b3 => ?_⟩
    obtain ⟨n, hn, rfl⟩ := List.mem_map.mp hd
    have hnv := hv n hn
    repeat walk_at "st"
    refine arl_lenL ?_
    repeat walk_at "st"
    refine arl_intB ?_
    have q1 := h0 (decide ((1 : Int) < ((ns.map D.int).length : Int)))
    generalize (if (decide ((1 : Int) < ((ns.map D.int).length : Int))) = true then (1 : Int) else 0) = x1 at q1
    refine ar_mul (.inl ⟨by decide, by decide⟩) ?_
    repeat walk_at "st"
    refine arl_lenL ?_
    repeat walk_at "st"
    refine arl_intB ?_
    have q2 := h0 (decide ((2 : Int) < ((ns.map D.int).length : Int)))
    generalize (if (decide ((2 : Int) < ((ns.map D.int).length : Int))) = true then (1 : Int) else 0) = x2 at q2
    refine ar_mul (.inl ⟨by decide, by decide⟩) ?_
    repeat walk_at "st"
    refine ⟨rfl, rfl, h, c, n, _, _, rfl, R3, by omega, by omega, by omega, by omega, by omega, by omega, fun M4 R4 => ?_⟩
    refine ⟨true, rfl, ite3 (fun z => by cases z) fun _ => as_next ⟨rfl, R4⟩⟩
  rintro Δ' M3 ⟨rfl, R3⟩
  refine as_seqP (fun Δ' M' => Δ' = [some (.lst (ns.map D.int)), some (.ref h), some (.lst (vs.map D.int)), none, none] ∧ Rng h c M') ?_ ?_
  · repeat walk_at "st"
    refine ⟨rfl, rfl, h, c, _, rfl, R3, by decide, by decide, fun n M4 n0 n1 R4 b4 => ?_⟩
    repeat walk_at "st"
    refine ⟨rfl, rfl, h, c, _, _, _, rfl, R4, by omega, by omega, by decide, by decide, by decide, by decide, fun M5 R5 => ?_⟩
    refine ⟨true, rfl, ite3 (fun z => by cases z) fun _ => as_next ⟨rfl, R5⟩⟩
  rintro Δ' M4 ⟨rfl, R4⟩
  refine as_seqP (fun Δ' M' => Δ' = [some (.lst (ns.map D.int)), some (.ref h), some (.lst (vs.map D.int)), none, none] ∧ Rng h c M') ?_ ?_
  · repeat walk_at "st"
    refine arl_lenL ?_
    repeat walk_at "st"
    refine ite3 (fun _ => ?_) fun _ => ?_
    · repeat walk_at "st"
      refine ⟨rfl, rfl, h, c, _, rfl, R4, by decide, by decide, fun n M5 n0 n1 R5 b5 => ?_⟩
      repeat walk_at "st"
      refine ite3 (fun _ => ?_) fun _ => ?_
      · repeat walk_at "st"
        refine ⟨rfl, rfl, h, c, _, rfl, R5, by decide, by decide, fun n2 M6 n20 n21 R6 b6 => ?_⟩
        repeat walk_at "st"
        refine ⟨rfl, rfl, h, c, _, _, _, rfl, R6, by omega, by omega, by decide, by decide, by decide, by decide, fun M7 R7 => ?_⟩
        refine ⟨true, rfl, ite3 (fun z => by cases z) fun _ => as_next ⟨rfl, R7⟩⟩
      · rw [if_neg Bool.false_ne_true]
        exact as_next ⟨rfl, R5⟩
    · rw [if_neg Bool.false_ne_true]
      exact as_next ⟨rfl, R4⟩
  rintro Δ' M5 ⟨rfl, R5⟩
  refine as_seqP (fun Δ' M' => Δ' = [some (.lst (ns.map D.int)), some (.ref h), some (.lst (vs.map D.int)), none, none] ∧ Rng h c M') ?_ ?_
  · repeat walk_at "st"
    refine ⟨rfl, rfl, h, c, rfl, R5, fun M6 R6 => ?_⟩
    refine ⟨true, rfl, ite3 (fun z => by cases z) fun _ => ?_⟩
    repeat walk_at "st"
    refine arl_lenL ?_
    repeat walk_at "st"
    refine ite3 (fun _ => ?_) fun _ => ?_
    · repeat walk_at "st"
      refine ⟨rfl, rfl, h, c, _, rfl, R6, by decide, by decide, fun n M7 n0 n1 R7 b7 => ?_⟩
      repeat walk_at "st"
      refine ite3 (fun _ => ?_) fun _ => ?_
      · repeat walk_at "st"
        refine ⟨rfl, rfl, rfl, h, c, R7, fun M8 R8 => ?_⟩
        refine ⟨true, rfl, ite3 (fun z => by cases z) fun _ => as_next ⟨rfl, R8⟩⟩
      · rw [if_neg Bool.false_ne_true]
        exact as_next ⟨rfl, R7⟩
    · rw [if_neg Bool.false_ne_true]
      exact as_next ⟨rfl, R6⟩
  rintro Δ' M6 ⟨rfl, R6⟩
  -- the last journal
  have hz := opn_zero 80
  have hfz := fine_zero (n := 80) (by decide) (by decide)
  have h80 : (List.replicate 80 (0 : Int)).length = 80 := List.length_replicate
  refine as_seq (as_set (ae_jour ?_))
  repeat walk_at "st"
  refine ae_disk ?_
  repeat walk_at "st"
  refine ae_tup ?_
  repeat walk_at "st"
  refine ⟨by simp, ?_⟩
  repeat walk_at "st"
  refine ar_repA (by decide) (by decide) ?_
  repeat walk_at "st"
  refine ⟨rfl, rfl, List.replicate 80 0, fun p => by rw [List.map_replicate]; rfl, hfz, fun o e M7 nd => ?_⟩
  repeat walk_at "st"
  refine ⟨rfl, rfl, _, o, e, fun p => rfl, nd.mo, hfz, .inl ⟨[], _, hz, fun p rl M8 hp hrl mp mr bt => ?_⟩⟩
  have J8 := new_jm R6 nd hp hrl mp mr bt
  have I8 := new_ji hfz (by rw [h80]; decide) hz
  clear mp mr bt hp hrl nd
  have hh : half 80 = 39 := by decide
  have o1 : Oct [9, 0, 255] := by unfold Oct; decide
  have o2 : Oct [255] := by unfold Oct; decide
  have o3 : ∀ r ∈ [[], [(0 : Int)]], Oct r ∧ r.length ≤ 20000 := by unfold Oct; decide
  refine as_seq (as_drop (ae_methM ?_))
  repeat walk_at "st"
  refine ⟨p, _, rfl, J8.mp, rfl, ?_⟩
  repeat walk_at "st"
  refine ae_tup ?_
  repeat walk_at "st"
  refine ⟨by simp, ?_⟩
  repeat walk_at "st"
  refine ⟨rfl, rfl, write_p (part := [9, 0, 255]) J8 I8 (by simp) o1 (by decide) (fun hroom => by rw [h80, hh] at hroom; exact absurd hroom (by decide)) fun cs9 ne9 s9 en9 M9 J9 I9 _ hn9 _ => ?_⟩
  refine as_seq (as_drop (ae_methM ?_))
  repeat walk_at "st"
  refine ⟨p, _, rfl, J9.mp, rfl, ?_⟩
  repeat walk_at "st"
  refine ae_tup (aa_cons (ae_tup (aa_nil ⟨by simp, aa_cons (ae_tup ?_)⟩)))
  repeat walk_at "st"
  refine ⟨by simp, ?_⟩
  repeat walk_at "st"
  refine ⟨by simp, ?_⟩
  repeat walk_at "st"
  refine ⟨rfl, rfl, renew_p (new := [[], [0]]) J9 I9 (by simp at hn9 ⊢; omega) o3 (by decide) (fun hroom => by rw [h80, hh] at hroom; exact absurd hroom (by decide)) fun rl10 cs10 ne10 s10 en10 M10 J10 I10 _ hn10 _ => ?_⟩
  refine as_seq (as_drop (ae_methM ?_))
  repeat walk_at "st"
  refine ⟨p, _, rfl, J10.mp, rfl, ?_⟩
  repeat walk_at "st"
  refine ae_tup ?_
  repeat walk_at "st"
  refine ⟨by simp, ?_⟩
  repeat walk_at "st"
  refine ⟨rfl, rfl, write_p (part := [255]) J10 I10 (by simp at hn9 hn10 ⊢; omega) o2 (by decide) (fun hroom => by rw [h80, hh] at hroom; exact absurd hroom (by decide)) fun cs11 ne11 s11 en11 M11 J11 I11 _ hn11 _ => ?_⟩
  have g3 : good 2 (.tup (([[], [0]] ++ [[255]] : List (List Int)).map recD)) = true := by show goods 1 _ = true; exact good_recs 0 _
  have eqt : ∀ (Ψ : PsiE) (M : Mem), Ψ (.bl true) M → AR2 K (rEqD K) (.tup (([[], [0]] ++ [[255]] : List (List Int)).map recD)) (.tup (([[], [0]] ++ [[255]] : List (List Int)).map recD)) M Ψ := fun Ψ M hk =>
    ar_eqD g3 g3 (by decide) (by decide) (by rw [eqD_self g3]; exact hk)
  have tupt : ∀ (W : WX) (Χ : Exc) (Δ : Sls) (M : Mem) (Ψ : PsiE), Ψ (.tup (([[], [0]] ++ [[255]] : List (List Int)).map recD)) M → AE K W Χ Δ (tTup (tCons (tTup tNil) (tCons (tTup (tCons (tC (.int 0)) tNil)) (tCons (tTup (tCons (tC (.int 255)) tNil)) tNil)))) M Ψ := fun W Χ Δ M Ψ hk =>
    ae_tup (aa_cons (ae_tup (aa_nil ⟨by simp, aa_cons (ae_tup (aa_cons (ae_int (aa_nil ⟨by simp, aa_cons (ae_tup (aa_cons (ae_int (aa_nil ⟨by simp, aa_nil ⟨by simp, hk⟩⟩))))⟩))))⟩)))
  refine as_ret (ae_andV (ae_op (ae_methM ?_)))
  repeat walk_at "st"
  refine ⟨p, _, rfl, J11.mp, rfl, ?_⟩
  repeat walk_at "st"
  refine ⟨rfl, rfl, p, rl10, _, _, _, _, rfl, J11.mp, J11.mr, ?_⟩
  refine tupt _ _ _ _ _ ?_
  refine eqt _ _ ?_
  refine ⟨true, rfl, ?_⟩
  rw [if_pos rfl]
  repeat walk_at "st"
  refine ae_lcR (ai_rng1 ?_)
  repeat walk_at "st"
  have hcl : cs11.length = 80 := by rw [I11.len, h80]
  refine ⟨by decide, by rw [rngD_length]; decide, fun y => .int ((cs11[(iv y).toNat]?).getD 0), fun j y acc q hy hq => ?_, ?_⟩
  · obtain ⟨hj, rfl⟩ := rngD_get hy
    have hj : j < 80 := by simpa using hj
    have pq : p ≠ q := fun z => by have h9 := J11.mp; rw [z, hq] at h9; cases h9
    have oq : o ≠ q := fun z => by have h9 := J11.ds.mo; rw [z, hq] at h9; cases h9
    refine agc_name (by decide) ⟨rfl, ?_⟩
    refine ae_methG (ae_fldM T.cl_Journal T.nf_Journal_disk ?_)
    repeat walk_at "st"
    refine ⟨p, _, _, rfl, (Mem.set_ne pq).trans J11.mp, rfl, ?_⟩
    refine ⟨_, rfl, rfl, ?_⟩
    repeat walk_at "st"
    refine ⟨rfl, rfl, _, o, e, cs11, _, cs11[j], rfl, (Mem.set_ne oq).trans J11.ds.mo, by omega, ?_, ?_, rfl⟩
    · rw [show ((0 : Int) + (j : Int)).toNat = j by omega]
      exact List.getElem?_eq_getElem (by omega)
    · show D.int _ = D.int ((cs11[((0 : Int) + (j : Int)).toNat]?).getD 0)
      rw [show ((0 : Int) + (j : Int)).toNat = j by omega, List.getElem?_eq_getElem (by omega)]
      rfl
  · rw [look_all (show cs11.length = (80 : Int).toNat by rw [hcl]; rfl)]
    repeat walk_at "st"
    refine arl_tupL ?_
    repeat walk_at "st"
    refine ⟨rfl, rfl, cs11, _, en11, rfl, ⟨by omega, by omega, I11.oct⟩, I11.op, ?_⟩
    refine tupt _ _ _ _ _ ?_
    refine eqt _ _ ?_
    exact k M11
end
end K60
namespace K60
open PySem PySem.Spec PyProof.Rows L2 RZ T2
abbrev s_Refused___init__ : Stmt := inClass (top 2) 0
theorem xt_of_Refused : XTxt s_Refused___init__ "word" := ⟨⟨_, _, rfl⟩, ⟨_, _, _, _, _, _, _, _, _, _, _, _, rfl, rfl⟩, rfl, rfl, rfl, rfl, by decide, by decide, by decide, fun _ _ _ _ _ _ _ _ _ _ _ _ _ => rfl⟩
abbrev s_Broken___init__ : Stmt := inClass (top 3) 0
theorem xt_of_Broken : XTxt s_Broken___init__ "word" := ⟨⟨_, _, rfl⟩, ⟨_, _, _, _, _, _, _, _, _, _, _, _, rfl, rfl⟩, rfl, rfl, rfl, rfl, by decide, by decide, by decide, fun _ _ _ _ _ _ _ _ _ _ _ _ _ => rfl⟩
theorem all_mk {w : World} {K : PySem.W.Frag} {h : Heap} {mg : Str → Option Value} {fa : Addr} (X : K.In h) (G : h.Ns mainGlobals mg) (hfa : mg "law" = some (.ref fa))
    {C_DeskError C_Refused C_Broken C_Disk C_Journal f_is_integer f_is_number f_is_octet f_Disk___init__ f_Disk_look f_Disk_put f_Disk_flush f_Disk_events f_half_start f_records_from f_needed_cells f_put_record f_put_end f_Journal___init__ f_Journal_records f_Journal_write f_Journal_renew f__law_heap f__law_draw f__law_pick f__law_octet f__law_record f__law_lasting f__law_left f__law_opened f__law_base f__law_cuts_right f__law_call f__law_turn f__law_day_right f__law_many_right f__law_strange_right f_law N_Refused_ f_Refused___init__ cda_Refused cc_Refused N_Broken_ f_Broken___init__ cda_Broken cc_Broken : Addr}
    {od_is_integer an_is_integer od_is_number an_is_number od_is_octet an_is_octet od_Disk___init__ an_Disk___init__ od_Disk_look an_Disk_look od_Disk_put an_Disk_put od_Disk_flush an_Disk_flush od_Disk_events an_Disk_events od_half_start an_half_start od_records_from an_records_from od_needed_cells an_needed_cells od_put_record an_put_record od_put_end an_put_end od_Journal___init__ an_Journal___init__ od_Journal_records an_Journal_records od_Journal_write an_Journal_write od_Journal_renew an_Journal_renew od__law_heap an__law_heap od__law_draw an__law_draw od__law_pick an__law_pick od__law_octet an__law_octet od__law_record an__law_record od__law_lasting an__law_lasting od__law_left an__law_left od__law_opened an__law_opened od__law_base an__law_base od__law_cuts_right an__law_cuts_right od__law_call an__law_call od__law_turn an__law_turn od__law_day_right an__law_day_right od__law_many_right an__law_many_right od__law_strange_right an__law_strange_right od_law an_law dd_Refused xod_Refused xan_Refused cdd_Refused cld_Refused dd_Broken xod_Broken xan_Broken cdd_Broken cld_Broken : Option Addr}
    {sl_is_integer sl_is_number sl_is_octet sl_Disk___init__ sl_Disk_look sl_Disk_put sl_Disk_flush sl_Disk_events sl_half_start sl_records_from sl_needed_cells sl_put_record sl_put_end sl_Journal___init__ sl_Journal_records sl_Journal_write sl_Journal_renew sl__law_heap sl__law_draw sl__law_pick sl__law_octet sl__law_record sl__law_lasting sl__law_left sl__law_opened sl__law_base sl__law_cuts_right sl__law_call sl__law_turn sl__law_day_right sl__law_many_right sl__law_strange_right sl_law xsl_Refused ccs_Refused csl_Refused xsl_Broken ccs_Broken csl_Broken : Array (Option Value)}
    {oc_is_integer kV_is_integer dc_is_integer pm_is_integer cd_is_integer ct_is_integer oc_is_number kV_is_number dc_is_number pm_is_number cd_is_number ct_is_number oc_is_octet kV_is_octet dc_is_octet pm_is_octet cd_is_octet ct_is_octet oc_Disk___init__ kV_Disk___init__ dc_Disk___init__ pm_Disk___init__ cd_Disk___init__ ct_Disk___init__ oc_Disk_look kV_Disk_look dc_Disk_look pm_Disk_look cd_Disk_look ct_Disk_look oc_Disk_put kV_Disk_put dc_Disk_put pm_Disk_put cd_Disk_put ct_Disk_put oc_Disk_flush kV_Disk_flush dc_Disk_flush pm_Disk_flush cd_Disk_flush ct_Disk_flush oc_Disk_events kV_Disk_events dc_Disk_events pm_Disk_events cd_Disk_events ct_Disk_events oc_half_start kV_half_start dc_half_start pm_half_start cd_half_start ct_half_start oc_records_from kV_records_from dc_records_from pm_records_from cd_records_from ct_records_from oc_needed_cells kV_needed_cells dc_needed_cells pm_needed_cells cd_needed_cells ct_needed_cells oc_put_record kV_put_record dc_put_record pm_put_record cd_put_record ct_put_record oc_put_end kV_put_end dc_put_end pm_put_end cd_put_end ct_put_end oc_Journal___init__ kV_Journal___init__ dc_Journal___init__ pm_Journal___init__ cd_Journal___init__ ct_Journal___init__ oc_Journal_records kV_Journal_records dc_Journal_records pm_Journal_records cd_Journal_records ct_Journal_records oc_Journal_write kV_Journal_write dc_Journal_write pm_Journal_write cd_Journal_write ct_Journal_write oc_Journal_renew kV_Journal_renew dc_Journal_renew pm_Journal_renew cd_Journal_renew ct_Journal_renew oc__law_heap kV__law_heap dc__law_heap pm__law_heap cd__law_heap ct__law_heap oc__law_draw kV__law_draw dc__law_draw pm__law_draw cd__law_draw ct__law_draw oc__law_pick kV__law_pick dc__law_pick pm__law_pick cd__law_pick ct__law_pick oc__law_octet kV__law_octet dc__law_octet pm__law_octet cd__law_octet ct__law_octet oc__law_record kV__law_record dc__law_record pm__law_record cd__law_record ct__law_record oc__law_lasting kV__law_lasting dc__law_lasting pm__law_lasting cd__law_lasting ct__law_lasting oc__law_left kV__law_left dc__law_left pm__law_left cd__law_left ct__law_left oc__law_opened kV__law_opened dc__law_opened pm__law_opened cd__law_opened ct__law_opened oc__law_base kV__law_base dc__law_base pm__law_base cd__law_base ct__law_base oc__law_cuts_right kV__law_cuts_right dc__law_cuts_right pm__law_cuts_right cd__law_cuts_right ct__law_cuts_right oc__law_call kV__law_call dc__law_call pm__law_call cd__law_call ct__law_call oc__law_turn kV__law_turn dc__law_turn pm__law_turn cd__law_turn ct__law_turn oc__law_day_right kV__law_day_right dc__law_day_right pm__law_day_right cd__law_day_right ct__law_day_right oc__law_many_right kV__law_many_right dc__law_many_right pm__law_many_right cd__law_many_right ct__law_many_right oc__law_strange_right kV__law_strange_right dc__law_strange_right pm__law_strange_right cd__law_strange_right ct__law_strange_right oc_law kV_law dc_law pm_law cd_law ct_law xoc_Refused ccl_Refused cl_Refused xkV_Refused xdc_Refused xpm_Refused xct_Refused xoc_Broken ccl_Broken cl_Broken xkV_Broken xdc_Broken xpm_Broken xct_Broken : Value}
    {t_HEAD t_MARK t_MOST_CELLS t_OCTETS tf_Refused tf_Broken : Tok}
    {nm_Refused qn_Refused fi_Refused nm_Broken qn_Broken fi_Broken : Str}
    {bs_Refused bm_Refused sub_Refused bs_Broken bm_Broken sub_Broken : List Value}
    {sn_Refused sn_Broken : List Str}
    {ab_Refused ab_Broken : Bool}
    {col_Refused col_Broken : Option Bool}
    {k0_Refused k1_Refused k2_Refused k3_Refused k5_Refused k0_Broken k1_Broken k2_Broken k3_Broken k5_Broken : Option Value}
    {vs_Refused vs_Broken : Array Value}
    (aC_DeskError : PySem.W.nsIn K mainGlobals "DeskError" = some (some (.ref C_DeskError)))
    (aC_Refused : PySem.W.nsIn K mainGlobals "Refused" = some (some (.ref C_Refused)))
    (aC_Broken : PySem.W.nsIn K mainGlobals "Broken" = some (some (.ref C_Broken)))
    (aC_Disk : PySem.W.nsIn K mainGlobals "Disk" = some (some (.ref C_Disk)))
    (aC_Journal : PySem.W.nsIn K mainGlobals "Journal" = some (some (.ref C_Journal)))
    (ac_HEAD : PySem.W.nsIn K mainGlobals "HEAD" = some (some (.int 3 t_HEAD)))
    (ac_MARK : PySem.W.nsIn K mainGlobals "MARK" = some (some (.int 1 t_MARK)))
    (ac_MOST_CELLS : PySem.W.nsIn K mainGlobals "MOST_CELLS" = some (some (.int 20000 t_MOST_CELLS)))
    (ac_OCTETS : PySem.W.nsIn K mainGlobals "OCTETS" = some (some (.int 256 t_OCTETS)))
    (nn_abs : PySem.W.nsIn K mainGlobals "abs" = some none)
    (nn_all : PySem.W.nsIn K mainGlobals "all" = some none)
    (nn_bool : PySem.W.nsIn K mainGlobals "bool" = some none)
    (nn_enumerate : PySem.W.nsIn K mainGlobals "enumerate" = some none)
    (nn_int : PySem.W.nsIn K mainGlobals "int" = some none)
    (nn_isinstance : PySem.W.nsIn K mainGlobals "isinstance" = some none)
    (nn_len : PySem.W.nsIn K mainGlobals "len" = some none)
    (nn_list : PySem.W.nsIn K mainGlobals "list" = some none)
    (nn_max : PySem.W.nsIn K mainGlobals "max" = some none)
    (nn_range : PySem.W.nsIn K mainGlobals "range" = some none)
    (nn_repr : PySem.W.nsIn K mainGlobals "repr" = some none)
    (nn_sum : PySem.W.nsIn K mainGlobals "sum" = some none)
    (nn_tuple : PySem.W.nsIn K mainGlobals "tuple" = some none)
    (at_is_integer : PySem.W.nsIn K mainGlobals "is_integer" = some (some (.ref f_is_integer)))
    (l_is_integer : K.lookup f_is_integer = some ⟨oc_is_integer, od_is_integer, .func (PySem.W.fnOf "is_integer" "is_integer" (defArgs s_is_integer) (defBody s_is_integer) (defScope s_is_integer) .none kV_is_integer dc_is_integer pm_is_integer an_is_integer cd_is_integer ct_is_integer), sl_is_integer⟩)
    (c_is_integer : PySem.W.codeIn K cd_is_integer "is_integer" = true)
    (k_is_integer : PySem.W.keepIn K (.ref f_is_integer) = true)
    (at_is_number : PySem.W.nsIn K mainGlobals "is_number" = some (some (.ref f_is_number)))
    (l_is_number : K.lookup f_is_number = some ⟨oc_is_number, od_is_number, .func (PySem.W.fnOf "is_number" "is_number" (defArgs s_is_number) (defBody s_is_number) (defScope s_is_number) .none kV_is_number dc_is_number pm_is_number an_is_number cd_is_number ct_is_number), sl_is_number⟩)
    (c_is_number : PySem.W.codeIn K cd_is_number "is_number" = true)
    (k_is_number : PySem.W.keepIn K (.ref f_is_number) = true)
    (at_is_octet : PySem.W.nsIn K mainGlobals "is_octet" = some (some (.ref f_is_octet)))
    (l_is_octet : K.lookup f_is_octet = some ⟨oc_is_octet, od_is_octet, .func (PySem.W.fnOf "is_octet" "is_octet" (defArgs s_is_octet) (defBody s_is_octet) (defScope s_is_octet) .none kV_is_octet dc_is_octet pm_is_octet an_is_octet cd_is_octet ct_is_octet), sl_is_octet⟩)
    (c_is_octet : PySem.W.codeIn K cd_is_octet "is_octet" = true)
    (k_is_octet : PySem.W.keepIn K (.ref f_is_octet) = true)
    (at_Disk___init__ : PySem.W.findIn K (.ref C_Disk) "__init__" = some (some (.ref f_Disk___init__)))
    (i_Disk___init__ : PySem.W.isFn K (.ref f_Disk___init__) = true)
    (l_Disk___init__ : K.lookup f_Disk___init__ = some ⟨oc_Disk___init__, od_Disk___init__, .func (PySem.W.fnOf "__init__" "Disk.__init__" (defArgs s_Disk___init__) (defBody s_Disk___init__) (defScope s_Disk___init__) .none kV_Disk___init__ dc_Disk___init__ pm_Disk___init__ an_Disk___init__ cd_Disk___init__ ct_Disk___init__), sl_Disk___init__⟩)
    (c_Disk___init__ : PySem.W.codeIn K cd_Disk___init__ "Disk.__init__" = true)
    (k_Disk___init__ : PySem.W.keepIn K (.ref f_Disk___init__) = true)
    (at_Disk_look : PySem.W.findIn K (.ref C_Disk) "look" = some (some (.ref f_Disk_look)))
    (i_Disk_look : PySem.W.isFn K (.ref f_Disk_look) = true)
    (l_Disk_look : K.lookup f_Disk_look = some ⟨oc_Disk_look, od_Disk_look, .func (PySem.W.fnOf "look" "Disk.look" (defArgs s_Disk_look) (defBody s_Disk_look) (defScope s_Disk_look) .none kV_Disk_look dc_Disk_look pm_Disk_look an_Disk_look cd_Disk_look ct_Disk_look), sl_Disk_look⟩)
    (c_Disk_look : PySem.W.codeIn K cd_Disk_look "Disk.look" = true)
    (k_Disk_look : PySem.W.keepIn K (.ref f_Disk_look) = true)
    (at_Disk_put : PySem.W.findIn K (.ref C_Disk) "put" = some (some (.ref f_Disk_put)))
    (i_Disk_put : PySem.W.isFn K (.ref f_Disk_put) = true)
    (l_Disk_put : K.lookup f_Disk_put = some ⟨oc_Disk_put, od_Disk_put, .func (PySem.W.fnOf "put" "Disk.put" (defArgs s_Disk_put) (defBody s_Disk_put) (defScope s_Disk_put) .none kV_Disk_put dc_Disk_put pm_Disk_put an_Disk_put cd_Disk_put ct_Disk_put), sl_Disk_put⟩)
    (c_Disk_put : PySem.W.codeIn K cd_Disk_put "Disk.put" = true)
    (k_Disk_put : PySem.W.keepIn K (.ref f_Disk_put) = true)
    (at_Disk_flush : PySem.W.findIn K (.ref C_Disk) "flush" = some (some (.ref f_Disk_flush)))
    (i_Disk_flush : PySem.W.isFn K (.ref f_Disk_flush) = true)
    (l_Disk_flush : K.lookup f_Disk_flush = some ⟨oc_Disk_flush, od_Disk_flush, .func (PySem.W.fnOf "flush" "Disk.flush" (defArgs s_Disk_flush) (defBody s_Disk_flush) (defScope s_Disk_flush) .none kV_Disk_flush dc_Disk_flush pm_Disk_flush an_Disk_flush cd_Disk_flush ct_Disk_flush), sl_Disk_flush⟩)
    (c_Disk_flush : PySem.W.codeIn K cd_Disk_flush "Disk.flush" = true)
    (k_Disk_flush : PySem.W.keepIn K (.ref f_Disk_flush) = true)
    (at_Disk_events : PySem.W.findIn K (.ref C_Disk) "events" = some (some (.ref f_Disk_events)))
    (i_Disk_events : PySem.W.isFn K (.ref f_Disk_events) = true)
    (l_Disk_events : K.lookup f_Disk_events = some ⟨oc_Disk_events, od_Disk_events, .func (PySem.W.fnOf "events" "Disk.events" (defArgs s_Disk_events) (defBody s_Disk_events) (defScope s_Disk_events) .none kV_Disk_events dc_Disk_events pm_Disk_events an_Disk_events cd_Disk_events ct_Disk_events), sl_Disk_events⟩)
    (c_Disk_events : PySem.W.codeIn K cd_Disk_events "Disk.events" = true)
    (k_Disk_events : PySem.W.keepIn K (.ref f_Disk_events) = true)
    (at_half_start : PySem.W.nsIn K mainGlobals "half_start" = some (some (.ref f_half_start)))
    (l_half_start : K.lookup f_half_start = some ⟨oc_half_start, od_half_start, .func (PySem.W.fnOf "half_start" "half_start" (defArgs s_half_start) (defBody s_half_start) (defScope s_half_start) .none kV_half_start dc_half_start pm_half_start an_half_start cd_half_start ct_half_start), sl_half_start⟩)
    (c_half_start : PySem.W.codeIn K cd_half_start "half_start" = true)
    (k_half_start : PySem.W.keepIn K (.ref f_half_start) = true)
    (at_records_from : PySem.W.nsIn K mainGlobals "records_from" = some (some (.ref f_records_from)))
    (l_records_from : K.lookup f_records_from = some ⟨oc_records_from, od_records_from, .func (PySem.W.fnOf "records_from" "records_from" (defArgs s_records_from) (defBody s_records_from) (defScope s_records_from) .none kV_records_from dc_records_from pm_records_from an_records_from cd_records_from ct_records_from), sl_records_from⟩)
    (c_records_from : PySem.W.codeIn K cd_records_from "records_from" = true)
    (k_records_from : PySem.W.keepIn K (.ref f_records_from) = true)
    (at_needed_cells : PySem.W.nsIn K mainGlobals "needed_cells" = some (some (.ref f_needed_cells)))
    (l_needed_cells : K.lookup f_needed_cells = some ⟨oc_needed_cells, od_needed_cells, .func (PySem.W.fnOf "needed_cells" "needed_cells" (defArgs s_needed_cells) (defBody s_needed_cells) (defScope s_needed_cells) .none kV_needed_cells dc_needed_cells pm_needed_cells an_needed_cells cd_needed_cells ct_needed_cells), sl_needed_cells⟩)
    (c_needed_cells : PySem.W.codeIn K cd_needed_cells "needed_cells" = true)
    (k_needed_cells : PySem.W.keepIn K (.ref f_needed_cells) = true)
    (at_put_record : PySem.W.nsIn K mainGlobals "put_record" = some (some (.ref f_put_record)))
    (l_put_record : K.lookup f_put_record = some ⟨oc_put_record, od_put_record, .func (PySem.W.fnOf "put_record" "put_record" (defArgs s_put_record) (defBody s_put_record) (defScope s_put_record) .none kV_put_record dc_put_record pm_put_record an_put_record cd_put_record ct_put_record), sl_put_record⟩)
    (c_put_record : PySem.W.codeIn K cd_put_record "put_record" = true)
    (k_put_record : PySem.W.keepIn K (.ref f_put_record) = true)
    (at_put_end : PySem.W.nsIn K mainGlobals "put_end" = some (some (.ref f_put_end)))
    (l_put_end : K.lookup f_put_end = some ⟨oc_put_end, od_put_end, .func (PySem.W.fnOf "put_end" "put_end" (defArgs s_put_end) (defBody s_put_end) (defScope s_put_end) .none kV_put_end dc_put_end pm_put_end an_put_end cd_put_end ct_put_end), sl_put_end⟩)
    (c_put_end : PySem.W.codeIn K cd_put_end "put_end" = true)
    (k_put_end : PySem.W.keepIn K (.ref f_put_end) = true)
    (at_Journal___init__ : PySem.W.findIn K (.ref C_Journal) "__init__" = some (some (.ref f_Journal___init__)))
    (i_Journal___init__ : PySem.W.isFn K (.ref f_Journal___init__) = true)
    (l_Journal___init__ : K.lookup f_Journal___init__ = some ⟨oc_Journal___init__, od_Journal___init__, .func (PySem.W.fnOf "__init__" "Journal.__init__" (defArgs s_Journal___init__) (defBody s_Journal___init__) (defScope s_Journal___init__) .none kV_Journal___init__ dc_Journal___init__ pm_Journal___init__ an_Journal___init__ cd_Journal___init__ ct_Journal___init__), sl_Journal___init__⟩)
    (c_Journal___init__ : PySem.W.codeIn K cd_Journal___init__ "Journal.__init__" = true)
    (k_Journal___init__ : PySem.W.keepIn K (.ref f_Journal___init__) = true)
    (at_Journal_records : PySem.W.findIn K (.ref C_Journal) "records" = some (some (.ref f_Journal_records)))
    (i_Journal_records : PySem.W.isFn K (.ref f_Journal_records) = true)
    (l_Journal_records : K.lookup f_Journal_records = some ⟨oc_Journal_records, od_Journal_records, .func (PySem.W.fnOf "records" "Journal.records" (defArgs s_Journal_records) (defBody s_Journal_records) (defScope s_Journal_records) .none kV_Journal_records dc_Journal_records pm_Journal_records an_Journal_records cd_Journal_records ct_Journal_records), sl_Journal_records⟩)
    (c_Journal_records : PySem.W.codeIn K cd_Journal_records "Journal.records" = true)
    (k_Journal_records : PySem.W.keepIn K (.ref f_Journal_records) = true)
    (at_Journal_write : PySem.W.findIn K (.ref C_Journal) "write" = some (some (.ref f_Journal_write)))
    (i_Journal_write : PySem.W.isFn K (.ref f_Journal_write) = true)
    (l_Journal_write : K.lookup f_Journal_write = some ⟨oc_Journal_write, od_Journal_write, .func (PySem.W.fnOf "write" "Journal.write" (defArgs s_Journal_write) (defBody s_Journal_write) (defScope s_Journal_write) .none kV_Journal_write dc_Journal_write pm_Journal_write an_Journal_write cd_Journal_write ct_Journal_write), sl_Journal_write⟩)
    (c_Journal_write : PySem.W.codeIn K cd_Journal_write "Journal.write" = true)
    (k_Journal_write : PySem.W.keepIn K (.ref f_Journal_write) = true)
    (at_Journal_renew : PySem.W.findIn K (.ref C_Journal) "renew" = some (some (.ref f_Journal_renew)))
    (i_Journal_renew : PySem.W.isFn K (.ref f_Journal_renew) = true)
    (l_Journal_renew : K.lookup f_Journal_renew = some ⟨oc_Journal_renew, od_Journal_renew, .func (PySem.W.fnOf "renew" "Journal.renew" (defArgs s_Journal_renew) (defBody s_Journal_renew) (defScope s_Journal_renew) .none kV_Journal_renew dc_Journal_renew pm_Journal_renew an_Journal_renew cd_Journal_renew ct_Journal_renew), sl_Journal_renew⟩)
    (c_Journal_renew : PySem.W.codeIn K cd_Journal_renew "Journal.renew" = true)
    (k_Journal_renew : PySem.W.keepIn K (.ref f_Journal_renew) = true)
    (at__law_heap : PySem.W.nsIn K mainGlobals "_law_heap" = some (some (.ref f__law_heap)))
    (l__law_heap : K.lookup f__law_heap = some ⟨oc__law_heap, od__law_heap, .func (PySem.W.fnOf "_law_heap" "_law_heap" (defArgs s__law_heap) (defBody s__law_heap) (defScope s__law_heap) .none kV__law_heap dc__law_heap pm__law_heap an__law_heap cd__law_heap ct__law_heap), sl__law_heap⟩)
    (c__law_heap : PySem.W.codeIn K cd__law_heap "_law_heap" = true)
    (k__law_heap : PySem.W.keepIn K (.ref f__law_heap) = true)
    (at__law_draw : PySem.W.nsIn K mainGlobals "_law_draw" = some (some (.ref f__law_draw)))
    (l__law_draw : K.lookup f__law_draw = some ⟨oc__law_draw, od__law_draw, .func (PySem.W.fnOf "_law_draw" "_law_draw" (defArgs s__law_draw) (defBody s__law_draw) (defScope s__law_draw) .none kV__law_draw dc__law_draw pm__law_draw an__law_draw cd__law_draw ct__law_draw), sl__law_draw⟩)
    (c__law_draw : PySem.W.codeIn K cd__law_draw "_law_draw" = true)
    (k__law_draw : PySem.W.keepIn K (.ref f__law_draw) = true)
    (at__law_pick : PySem.W.nsIn K mainGlobals "_law_pick" = some (some (.ref f__law_pick)))
    (l__law_pick : K.lookup f__law_pick = some ⟨oc__law_pick, od__law_pick, .func (PySem.W.fnOf "_law_pick" "_law_pick" (defArgs s__law_pick) (defBody s__law_pick) (defScope s__law_pick) .none kV__law_pick dc__law_pick pm__law_pick an__law_pick cd__law_pick ct__law_pick), sl__law_pick⟩)
    (c__law_pick : PySem.W.codeIn K cd__law_pick "_law_pick" = true)
    (k__law_pick : PySem.W.keepIn K (.ref f__law_pick) = true)
    (at__law_octet : PySem.W.nsIn K mainGlobals "_law_octet" = some (some (.ref f__law_octet)))
    (l__law_octet : K.lookup f__law_octet = some ⟨oc__law_octet, od__law_octet, .func (PySem.W.fnOf "_law_octet" "_law_octet" (defArgs s__law_octet) (defBody s__law_octet) (defScope s__law_octet) .none kV__law_octet dc__law_octet pm__law_octet an__law_octet cd__law_octet ct__law_octet), sl__law_octet⟩)
    (c__law_octet : PySem.W.codeIn K cd__law_octet "_law_octet" = true)
    (k__law_octet : PySem.W.keepIn K (.ref f__law_octet) = true)
    (at__law_record : PySem.W.nsIn K mainGlobals "_law_record" = some (some (.ref f__law_record)))
    (l__law_record : K.lookup f__law_record = some ⟨oc__law_record, od__law_record, .func (PySem.W.fnOf "_law_record" "_law_record" (defArgs s__law_record) (defBody s__law_record) (defScope s__law_record) .none kV__law_record dc__law_record pm__law_record an__law_record cd__law_record ct__law_record), sl__law_record⟩)
    (c__law_record : PySem.W.codeIn K cd__law_record "_law_record" = true)
    (k__law_record : PySem.W.keepIn K (.ref f__law_record) = true)
    (at__law_lasting : PySem.W.nsIn K mainGlobals "_law_lasting" = some (some (.ref f__law_lasting)))
    (l__law_lasting : K.lookup f__law_lasting = some ⟨oc__law_lasting, od__law_lasting, .func (PySem.W.fnOf "_law_lasting" "_law_lasting" (defArgs s__law_lasting) (defBody s__law_lasting) (defScope s__law_lasting) .none kV__law_lasting dc__law_lasting pm__law_lasting an__law_lasting cd__law_lasting ct__law_lasting), sl__law_lasting⟩)
    (c__law_lasting : PySem.W.codeIn K cd__law_lasting "_law_lasting" = true)
    (k__law_lasting : PySem.W.keepIn K (.ref f__law_lasting) = true)
    (at__law_left : PySem.W.nsIn K mainGlobals "_law_left" = some (some (.ref f__law_left)))
    (l__law_left : K.lookup f__law_left = some ⟨oc__law_left, od__law_left, .func (PySem.W.fnOf "_law_left" "_law_left" (defArgs s__law_left) (defBody s__law_left) (defScope s__law_left) .none kV__law_left dc__law_left pm__law_left an__law_left cd__law_left ct__law_left), sl__law_left⟩)
    (c__law_left : PySem.W.codeIn K cd__law_left "_law_left" = true)
    (k__law_left : PySem.W.keepIn K (.ref f__law_left) = true)
    (at__law_opened : PySem.W.nsIn K mainGlobals "_law_opened" = some (some (.ref f__law_opened)))
    (l__law_opened : K.lookup f__law_opened = some ⟨oc__law_opened, od__law_opened, .func (PySem.W.fnOf "_law_opened" "_law_opened" (defArgs s__law_opened) (defBody s__law_opened) (defScope s__law_opened) .none kV__law_opened dc__law_opened pm__law_opened an__law_opened cd__law_opened ct__law_opened), sl__law_opened⟩)
    (c__law_opened : PySem.W.codeIn K cd__law_opened "_law_opened" = true)
    (k__law_opened : PySem.W.keepIn K (.ref f__law_opened) = true)
    (at__law_base : PySem.W.nsIn K mainGlobals "_law_base" = some (some (.ref f__law_base)))
    (l__law_base : K.lookup f__law_base = some ⟨oc__law_base, od__law_base, .func (PySem.W.fnOf "_law_base" "_law_base" (defArgs s__law_base) (defBody s__law_base) (defScope s__law_base) .none kV__law_base dc__law_base pm__law_base an__law_base cd__law_base ct__law_base), sl__law_base⟩)
    (c__law_base : PySem.W.codeIn K cd__law_base "_law_base" = true)
    (k__law_base : PySem.W.keepIn K (.ref f__law_base) = true)
    (at__law_cuts_right : PySem.W.nsIn K mainGlobals "_law_cuts_right" = some (some (.ref f__law_cuts_right)))
    (l__law_cuts_right : K.lookup f__law_cuts_right = some ⟨oc__law_cuts_right, od__law_cuts_right, .func (PySem.W.fnOf "_law_cuts_right" "_law_cuts_right" (defArgs s__law_cuts_right) (defBody s__law_cuts_right) (defScope s__law_cuts_right) .none kV__law_cuts_right dc__law_cuts_right pm__law_cuts_right an__law_cuts_right cd__law_cuts_right ct__law_cuts_right), sl__law_cuts_right⟩)
    (c__law_cuts_right : PySem.W.codeIn K cd__law_cuts_right "_law_cuts_right" = true)
    (k__law_cuts_right : PySem.W.keepIn K (.ref f__law_cuts_right) = true)
    (at__law_call : PySem.W.nsIn K mainGlobals "_law_call" = some (some (.ref f__law_call)))
    (l__law_call : K.lookup f__law_call = some ⟨oc__law_call, od__law_call, .func (PySem.W.fnOf "_law_call" "_law_call" (defArgs s__law_call) (defBody s__law_call) (defScope s__law_call) .none kV__law_call dc__law_call pm__law_call an__law_call cd__law_call ct__law_call), sl__law_call⟩)
    (c__law_call : PySem.W.codeIn K cd__law_call "_law_call" = true)
    (k__law_call : PySem.W.keepIn K (.ref f__law_call) = true)
    (at__law_turn : PySem.W.nsIn K mainGlobals "_law_turn" = some (some (.ref f__law_turn)))
    (l__law_turn : K.lookup f__law_turn = some ⟨oc__law_turn, od__law_turn, .func (PySem.W.fnOf "_law_turn" "_law_turn" (defArgs s__law_turn) (defBody s__law_turn) (defScope s__law_turn) .none kV__law_turn dc__law_turn pm__law_turn an__law_turn cd__law_turn ct__law_turn), sl__law_turn⟩)
    (c__law_turn : PySem.W.codeIn K cd__law_turn "_law_turn" = true)
    (k__law_turn : PySem.W.keepIn K (.ref f__law_turn) = true)
    (at__law_day_right : PySem.W.nsIn K mainGlobals "_law_day_right" = some (some (.ref f__law_day_right)))
    (l__law_day_right : K.lookup f__law_day_right = some ⟨oc__law_day_right, od__law_day_right, .func (PySem.W.fnOf "_law_day_right" "_law_day_right" (defArgs s__law_day_right) (defBody s__law_day_right) (defScope s__law_day_right) .none kV__law_day_right dc__law_day_right pm__law_day_right an__law_day_right cd__law_day_right ct__law_day_right), sl__law_day_right⟩)
    (c__law_day_right : PySem.W.codeIn K cd__law_day_right "_law_day_right" = true)
    (k__law_day_right : PySem.W.keepIn K (.ref f__law_day_right) = true)
    (at__law_many_right : PySem.W.nsIn K mainGlobals "_law_many_right" = some (some (.ref f__law_many_right)))
    (l__law_many_right : K.lookup f__law_many_right = some ⟨oc__law_many_right, od__law_many_right, .func (PySem.W.fnOf "_law_many_right" "_law_many_right" (defArgs s__law_many_right) (defBody s__law_many_right) (defScope s__law_many_right) .none kV__law_many_right dc__law_many_right pm__law_many_right an__law_many_right cd__law_many_right ct__law_many_right), sl__law_many_right⟩)
    (c__law_many_right : PySem.W.codeIn K cd__law_many_right "_law_many_right" = true)
    (k__law_many_right : PySem.W.keepIn K (.ref f__law_many_right) = true)
    (at__law_strange_right : PySem.W.nsIn K mainGlobals "_law_strange_right" = some (some (.ref f__law_strange_right)))
    (l__law_strange_right : K.lookup f__law_strange_right = some ⟨oc__law_strange_right, od__law_strange_right, .func (PySem.W.fnOf "_law_strange_right" "_law_strange_right" (defArgs s__law_strange_right) (defBody s__law_strange_right) (defScope s__law_strange_right) .none kV__law_strange_right dc__law_strange_right pm__law_strange_right an__law_strange_right cd__law_strange_right ct__law_strange_right), sl__law_strange_right⟩)
    (c__law_strange_right : PySem.W.codeIn K cd__law_strange_right "_law_strange_right" = true)
    (k__law_strange_right : PySem.W.keepIn K (.ref f__law_strange_right) = true)
    (at_law : PySem.W.nsIn K mainGlobals "law" = some (some (.ref f_law)))
    (l_law : K.lookup f_law = some ⟨oc_law, od_law, .func (PySem.W.fnOf "law" "law" (defArgs s_law) (defBody s_law) (defScope s_law) .none kV_law dc_law pm_law an_law cd_law ct_law), sl_law⟩)
    (c_law : PySem.W.codeIn K cd_law "law" = true)
    (k_law : PySem.W.keepIn K (.ref f_law) = true)
    (pg_Disk : PySem.W.plainGet K C_Disk Str.empty = true)
    (hd_Disk : PySem.W.hasDictIn K C_Disk = true)
    (po_Disk : PySem.W.plainOver K C_Disk = true)
    (sa_Disk : PySem.W.findIn K (.ref C_Disk) "__setattr__" = some (some (.builtin "object.__setattr__")))
    (mk_Disk : PySem.W.makesIn K C_Disk = true)
    (kc_Disk : PySem.W.keepIn K (.ref C_Disk) = true)
    (nf_Disk_cells : PySem.W.findIn K (.ref C_Disk) "cells" = some none)
    (nf_Disk__octets : PySem.W.findIn K (.ref C_Disk) "_octets" = some none)
    (nf_Disk__events : PySem.W.findIn K (.ref C_Disk) "_events" = some none)
    (pg_Journal : PySem.W.plainGet K C_Journal Str.empty = true)
    (hd_Journal : PySem.W.hasDictIn K C_Journal = true)
    (po_Journal : PySem.W.plainOver K C_Journal = true)
    (sa_Journal : PySem.W.findIn K (.ref C_Journal) "__setattr__" = some (some (.builtin "object.__setattr__")))
    (mk_Journal : PySem.W.makesIn K C_Journal = true)
    (kc_Journal : PySem.W.keepIn K (.ref C_Journal) = true)
    (nf_Journal_disk : PySem.W.findIn K (.ref C_Journal) "disk" = some none)
    (nf_Journal__side : PySem.W.findIn K (.ref C_Journal) "_side" = some none)
    (nf_Journal__records : PySem.W.findIn K (.ref C_Journal) "_records" = some none)
    (nf_Journal__end : PySem.W.findIn K (.ref C_Journal) "_end" = some none)
    (op : PySem.W.nsIn K cStatics "thirdparty.any" = some none)
    (sup : PySem.W.nsIn K mainGlobals "super" = some none)
    (gn : PySem.W.specialIn K (.builtin "object.__class__") "__get__" = some (some (.builtin "getset_descriptor.__get__")))
    (gt : PySem.W.takesIn K (.builtin "object.__class__") = some true)
    (xl_Refused : K.lookup C_Refused = some (excClassObj nm_Refused qn_Refused C_Refused N_Refused_ bs_Refused bm_Refused true sn_Refused sub_Refused ab_Refused col_Refused dd_Refused k0_Refused k1_Refused k2_Refused k3_Refused k5_Refused "ValueError.__new__"))
    (xr_Refused : PySem.HandSPX.refsVE bm_Refused = true)
    (xa_Refused : PySem.W.alongIn K "__init__" bm_Refused = some (some (.builtin "ValueError.__init__")))
    (xs_Refused : PySem.W.findIn K (.ref C_Refused) "__setattr__" = some (some (.builtin "object.__setattr__")))
    (xno_Refused : PySem.W.findIn K (.ref C_Refused) "word" = some none)
    (xi_Refused : PySem.W.findIn K (.ref C_Refused) "__init__" = some (some (.ref f_Refused___init__)))
    (xt_Refused : PySem.W.typeIn K (.ref f_Refused___init__) = some (.type "function"))
    (xk_Refused : PySem.W.keepIn K (.ref C_Refused) = true)
    (xe_Refused : PySem.W.subIn K (.ref C_Refused) (.type "BaseException") = some true)
    (xv_Refused : PySem.W.subIn K (.ref C_Refused) (.type "ValueError") = some true)
    (xy_Refused : PySem.W.typeIn K (.ref C_Refused) = some (.type "type"))
    (xf_Refused : K.lookup f_Refused___init__ = some ⟨xoc_Refused, xod_Refused, .func (PySem.W.ksFn "__init__" "Refused.__init__" (defArgs s_Refused___init__) (defBody s_Refused___init__) (defScope s_Refused___init__) .none xkV_Refused xdc_Refused xpm_Refused xan_Refused (.ref cda_Refused) xct_Refused cc_Refused), xsl_Refused⟩)
    (xc_Refused : PySem.W.codeIn K (.ref cda_Refused) "Refused.__init__" = true)
    (xd_Refused : K.lookup cda_Refused = some ⟨ccl_Refused, cdd_Refused, .fields vs_Refused, ccs_Refused⟩)
    (xw_Refused : vs_Refused[2]? = some (.str fi_Refused tf_Refused))
    (xz_Refused : ((PySem.Challenge.pw_neverregret_k60_whole_journals_cut_anywh.main.file : Str) == fi_Refused) = true)
    (xq_Refused : K.lookup cc_Refused = some ⟨cl_Refused, cld_Refused, .cell (some (.ref C_Refused)), csl_Refused⟩)
    (xg_Refused : PySem.W.findIn K (.ref C_Refused) "__getattribute__" = some (some (.builtin "BaseException.__getattribute__")))
    (xgg_Refused : PySem.W.findIn K (.ref C_Refused) "__getattr__" = some none)
    (xh_Refused : PySem.W.hasDictIn K C_Refused = true)
    (xha_Refused : PySem.W.findIn K (.ref C_Refused) "__class__" = some (some (.builtin "object.__class__")))
    (xm_Refused : PySem.W.mroIn K C_Refused (.type "object") = some true)
    (ex_Refused_DeskError : PySem.W.subIn K (.ref C_Refused) (.ref C_DeskError) = some true)
    (kt_Refused_Broken : PySem.W.kitOne K (.ref C_Refused) (.ref C_Broken) = some false)
    (kt_Refused_Refused : PySem.W.kitOne K (.ref C_Refused) (.ref C_Refused) = some true)
    (xl_Broken : K.lookup C_Broken = some (excClassObj nm_Broken qn_Broken C_Broken N_Broken_ bs_Broken bm_Broken true sn_Broken sub_Broken ab_Broken col_Broken dd_Broken k0_Broken k1_Broken k2_Broken k3_Broken k5_Broken "ValueError.__new__"))
    (xr_Broken : PySem.HandSPX.refsVE bm_Broken = true)
    (xa_Broken : PySem.W.alongIn K "__init__" bm_Broken = some (some (.builtin "ValueError.__init__")))
    (xs_Broken : PySem.W.findIn K (.ref C_Broken) "__setattr__" = some (some (.builtin "object.__setattr__")))
    (xno_Broken : PySem.W.findIn K (.ref C_Broken) "word" = some none)
    (xi_Broken : PySem.W.findIn K (.ref C_Broken) "__init__" = some (some (.ref f_Broken___init__)))
    (xt_Broken : PySem.W.typeIn K (.ref f_Broken___init__) = some (.type "function"))
    (xk_Broken : PySem.W.keepIn K (.ref C_Broken) = true)
    (xe_Broken : PySem.W.subIn K (.ref C_Broken) (.type "BaseException") = some true)
    (xv_Broken : PySem.W.subIn K (.ref C_Broken) (.type "ValueError") = some true)
    (xy_Broken : PySem.W.typeIn K (.ref C_Broken) = some (.type "type"))
    (xf_Broken : K.lookup f_Broken___init__ = some ⟨xoc_Broken, xod_Broken, .func (PySem.W.ksFn "__init__" "Broken.__init__" (defArgs s_Broken___init__) (defBody s_Broken___init__) (defScope s_Broken___init__) .none xkV_Broken xdc_Broken xpm_Broken xan_Broken (.ref cda_Broken) xct_Broken cc_Broken), xsl_Broken⟩)
    (xc_Broken : PySem.W.codeIn K (.ref cda_Broken) "Broken.__init__" = true)
    (xd_Broken : K.lookup cda_Broken = some ⟨ccl_Broken, cdd_Broken, .fields vs_Broken, ccs_Broken⟩)
    (xw_Broken : vs_Broken[2]? = some (.str fi_Broken tf_Broken))
    (xz_Broken : ((PySem.Challenge.pw_neverregret_k60_whole_journals_cut_anywh.main.file : Str) == fi_Broken) = true)
    (xq_Broken : K.lookup cc_Broken = some ⟨cl_Broken, cld_Broken, .cell (some (.ref C_Broken)), csl_Broken⟩)
    (xg_Broken : PySem.W.findIn K (.ref C_Broken) "__getattribute__" = some (some (.builtin "BaseException.__getattribute__")))
    (xgg_Broken : PySem.W.findIn K (.ref C_Broken) "__getattr__" = some none)
    (xh_Broken : PySem.W.hasDictIn K C_Broken = true)
    (xha_Broken : PySem.W.findIn K (.ref C_Broken) "__class__" = some (some (.builtin "object.__class__")))
    (xm_Broken : PySem.W.mroIn K C_Broken (.type "object") = some true)
    (ex_Broken_DeskError : PySem.W.subIn K (.ref C_Broken) (.ref C_DeskError) = some true)
    (kt_Broken_Broken : PySem.W.kitOne K (.ref C_Broken) (.ref C_Broken) = some true)
    (kt_Broken_Refused : PySem.W.kitOne K (.ref C_Broken) (.ref C_Refused) = some false)
    (cb_DeskError : PySem.W.subIn K (.ref C_DeskError) (.type "BaseException") = some true)
    (ch_DeskError : PySem.W.hasDictIn K C_DeskError = true)
    (ct_DeskError : PySem.W.typeIn K (.ref C_DeskError) = some (.type "type"))
    : ∃ fd : FuncData, (∀ (s : Shared) (u : Value), BindsTo s fd ⟨[u], []⟩ [("_law_script", u)]) ∧ ∀ base : Heap, K.In base → base.Ns mainGlobals mg → FnG PySem.Challenge.pw_neverregret_k60_whole_journals_cut_anywh w K mg base 10 fa fd ["_law_script"] (lift K a_law) := by
  have e := hfa.symm.trans (PySem.W.mg_of X G at_law)
  have e2 : fa = f_law := by cases e; rfl
  rw [e2]
  let a : Ad := { DeskError := C_DeskError, Refused := C_Refused, Broken := C_Broken, Disk := C_Disk, Journal := C_Journal, Refused___init__ := f_Refused___init__, Broken___init__ := f_Broken___init__, is_integer := f_is_integer, is_number := f_is_number, is_octet := f_is_octet, Disk___init__ := f_Disk___init__, Disk_look := f_Disk_look, Disk_put := f_Disk_put, Disk_flush := f_Disk_flush, Disk_events := f_Disk_events, half_start := f_half_start, records_from := f_records_from, needed_cells := f_needed_cells, put_record := f_put_record, put_end := f_put_end, Journal___init__ := f_Journal___init__, Journal_records := f_Journal_records, Journal_write := f_Journal_write, Journal_renew := f_Journal_renew, _law_heap := f__law_heap, _law_draw := f__law_draw, _law_pick := f__law_pick, _law_octet := f__law_octet, _law_record := f__law_record, _law_lasting := f__law_lasting, _law_left := f__law_left, _law_opened := f__law_opened, _law_base := f__law_base, _law_cuts_right := f__law_cuts_right, _law_call := f__law_call, _law_turn := f__law_turn, _law_day_right := f__law_day_right, _law_many_right := f__law_many_right, _law_strange_right := f__law_strange_right, law := f_law }
  have T : Txt PySem.Challenge.pw_neverregret_k60_whole_journals_cut_anywh K mg a := { g_HEAD := ⟨t_HEAD, PySem.W.mg_of X G ac_HEAD⟩, g_MARK := ⟨t_MARK, PySem.W.mg_of X G ac_MARK⟩, g_MOST_CELLS := ⟨t_MOST_CELLS, PySem.W.mg_of X G ac_MOST_CELLS⟩, g_OCTETS := ⟨t_OCTETS, PySem.W.mg_of X G ac_OCTETS⟩, n_abs := PySem.W.mg_none_of X G nn_abs, n_all := PySem.W.mg_none_of X G nn_all, n_bool := PySem.W.mg_none_of X G nn_bool, n_enumerate := PySem.W.mg_none_of X G nn_enumerate, n_int := PySem.W.mg_none_of X G nn_int, n_isinstance := PySem.W.mg_none_of X G nn_isinstance, n_len := PySem.W.mg_none_of X G nn_len, n_list := PySem.W.mg_none_of X G nn_list, n_max := PySem.W.mg_none_of X G nn_max, n_range := PySem.W.mg_none_of X G nn_range, n_repr := PySem.W.mg_none_of X G nn_repr, n_sum := PySem.W.mg_none_of X G nn_sum, n_tuple := PySem.W.mg_none_of X G nn_tuple, g_DeskError := PySem.W.mg_of X G aC_DeskError, g_Refused := PySem.W.mg_of X G aC_Refused, g_Broken := PySem.W.mg_of X G aC_Broken, g_Disk := PySem.W.mg_of X G aC_Disk, g_Journal := PySem.W.mg_of X G aC_Journal, g_is_integer := PySem.W.mg_of X G at_is_integer, k_is_integer := k_is_integer, g_is_number := PySem.W.mg_of X G at_is_number, k_is_number := k_is_number, g_is_octet := PySem.W.mg_of X G at_is_octet, k_is_octet := k_is_octet, g_half_start := PySem.W.mg_of X G at_half_start, k_half_start := k_half_start, g_records_from := PySem.W.mg_of X G at_records_from, k_records_from := k_records_from, g_needed_cells := PySem.W.mg_of X G at_needed_cells, k_needed_cells := k_needed_cells, g_put_record := PySem.W.mg_of X G at_put_record, k_put_record := k_put_record, g_put_end := PySem.W.mg_of X G at_put_end, k_put_end := k_put_end, g__law_heap := PySem.W.mg_of X G at__law_heap, k__law_heap := k__law_heap, g__law_draw := PySem.W.mg_of X G at__law_draw, k__law_draw := k__law_draw, g__law_pick := PySem.W.mg_of X G at__law_pick, k__law_pick := k__law_pick, g__law_octet := PySem.W.mg_of X G at__law_octet, k__law_octet := k__law_octet, g__law_record := PySem.W.mg_of X G at__law_record, k__law_record := k__law_record, g__law_lasting := PySem.W.mg_of X G at__law_lasting, k__law_lasting := k__law_lasting, g__law_left := PySem.W.mg_of X G at__law_left, k__law_left := k__law_left, g__law_opened := PySem.W.mg_of X G at__law_opened, k__law_opened := k__law_opened, g__law_base := PySem.W.mg_of X G at__law_base, k__law_base := k__law_base, g__law_cuts_right := PySem.W.mg_of X G at__law_cuts_right, k__law_cuts_right := k__law_cuts_right, g__law_call := PySem.W.mg_of X G at__law_call, k__law_call := k__law_call, g__law_turn := PySem.W.mg_of X G at__law_turn, k__law_turn := k__law_turn, g__law_day_right := PySem.W.mg_of X G at__law_day_right, k__law_day_right := k__law_day_right, g__law_many_right := PySem.W.mg_of X G at__law_many_right, k__law_many_right := k__law_many_right, g__law_strange_right := PySem.W.mg_of X G at__law_strange_right, k__law_strange_right := k__law_strange_right, g_law := PySem.W.mg_of X G at_law, k_law := k_law, cl_Disk := ⟨pg_Disk, hd_Disk, po_Disk, sa_Disk⟩, mk_Disk := ⟨mk_Disk, at_Disk___init__, i_Disk___init__, kc_Disk⟩, nf_Disk_cells := nf_Disk_cells, nf_Disk__octets := nf_Disk__octets, nf_Disk__events := nf_Disk__events, me_Disk_look := ⟨at_Disk_look, i_Disk_look, k_Disk_look⟩, me_Disk_put := ⟨at_Disk_put, i_Disk_put, k_Disk_put⟩, me_Disk_flush := ⟨at_Disk_flush, i_Disk_flush, k_Disk_flush⟩, me_Disk_events := ⟨at_Disk_events, i_Disk_events, k_Disk_events⟩, cl_Journal := ⟨pg_Journal, hd_Journal, po_Journal, sa_Journal⟩, mk_Journal := ⟨mk_Journal, at_Journal___init__, i_Journal___init__, kc_Journal⟩, nf_Journal_disk := nf_Journal_disk, nf_Journal__side := nf_Journal__side, nf_Journal__records := nf_Journal__records, nf_Journal__end := nf_Journal__end, me_Journal_records := ⟨at_Journal_records, i_Journal_records, k_Journal_records⟩, me_Journal_write := ⟨at_Journal_write, i_Journal_write, k_Journal_write⟩, me_Journal_renew := ⟨at_Journal_renew, i_Journal_renew, k_Journal_renew⟩, x_Refused := { cls := ⟨_, _, _, _, _, _, _, _, _, _, _, _, _, _, _, xl_Refused, xr_Refused, xa_Refused⟩, sa := xs_Refused, noN := xno_Refused, iC := xi_Refused, tC := xt_Refused, kC := xk_Refused, exC := xe_Refused, veC := xv_Refused, tyC := xy_Refused, op := op, sup := PySem.W.mg_none_of X G sup, top := by decide +kernel, fn := ⟨s_Refused___init__, _, _, _, _, _, _, _, _, _, _, _, _, _, _, _, _, _, _, _, _, xt_of_Refused, xf_Refused, xc_Refused, xd_Refused, xw_Refused, xz_Refused, xq_Refused⟩ }, xf_Refused := ⟨xg_Refused, xgg_Refused, xe_Refused, xh_Refused⟩, xn_Refused := xno_Refused, ec_Refused := ⟨xg_Refused, xgg_Refused, xe_Refused, xh_Refused, xha_Refused, gn, gt, xm_Refused⟩, exm_Refused_DeskError := PySem.W.exm_ref cb_DeskError ch_DeskError ct_DeskError ex_Refused_DeskError, kit_Refused_Broken := kt_Refused_Broken, kit_Refused_Refused := kt_Refused_Refused, x_Broken := { cls := ⟨_, _, _, _, _, _, _, _, _, _, _, _, _, _, _, xl_Broken, xr_Broken, xa_Broken⟩, sa := xs_Broken, noN := xno_Broken, iC := xi_Broken, tC := xt_Broken, kC := xk_Broken, exC := xe_Broken, veC := xv_Broken, tyC := xy_Broken, op := op, sup := PySem.W.mg_none_of X G sup, top := by decide +kernel, fn := ⟨s_Broken___init__, _, _, _, _, _, _, _, _, _, _, _, _, _, _, _, _, _, _, _, _, xt_of_Broken, xf_Broken, xc_Broken, xd_Broken, xw_Broken, xz_Broken, xq_Broken⟩ }, xf_Broken := ⟨xg_Broken, xgg_Broken, xe_Broken, xh_Broken⟩, xn_Broken := xno_Broken, ec_Broken := ⟨xg_Broken, xgg_Broken, xe_Broken, xh_Broken, xha_Broken, gn, gt, xm_Broken⟩, exm_Broken_DeskError := PySem.W.exm_ref cb_DeskError ch_DeskError ct_DeskError ex_Broken_DeskError, kit_Broken_Broken := kt_Broken_Broken, kit_Broken_Refused := kt_Broken_Refused }
  let fd : Fds := { is_integer := PySem.W.fnOf "is_integer" "is_integer" (defArgs s_is_integer) (defBody s_is_integer) (defScope s_is_integer) .none kV_is_integer dc_is_integer pm_is_integer an_is_integer cd_is_integer ct_is_integer, is_number := PySem.W.fnOf "is_number" "is_number" (defArgs s_is_number) (defBody s_is_number) (defScope s_is_number) .none kV_is_number dc_is_number pm_is_number an_is_number cd_is_number ct_is_number, is_octet := PySem.W.fnOf "is_octet" "is_octet" (defArgs s_is_octet) (defBody s_is_octet) (defScope s_is_octet) .none kV_is_octet dc_is_octet pm_is_octet an_is_octet cd_is_octet ct_is_octet, Disk___init__ := PySem.W.fnOf "__init__" "Disk.__init__" (defArgs s_Disk___init__) (defBody s_Disk___init__) (defScope s_Disk___init__) .none kV_Disk___init__ dc_Disk___init__ pm_Disk___init__ an_Disk___init__ cd_Disk___init__ ct_Disk___init__, Disk_look := PySem.W.fnOf "look" "Disk.look" (defArgs s_Disk_look) (defBody s_Disk_look) (defScope s_Disk_look) .none kV_Disk_look dc_Disk_look pm_Disk_look an_Disk_look cd_Disk_look ct_Disk_look, Disk_put := PySem.W.fnOf "put" "Disk.put" (defArgs s_Disk_put) (defBody s_Disk_put) (defScope s_Disk_put) .none kV_Disk_put dc_Disk_put pm_Disk_put an_Disk_put cd_Disk_put ct_Disk_put, Disk_flush := PySem.W.fnOf "flush" "Disk.flush" (defArgs s_Disk_flush) (defBody s_Disk_flush) (defScope s_Disk_flush) .none kV_Disk_flush dc_Disk_flush pm_Disk_flush an_Disk_flush cd_Disk_flush ct_Disk_flush, Disk_events := PySem.W.fnOf "events" "Disk.events" (defArgs s_Disk_events) (defBody s_Disk_events) (defScope s_Disk_events) .none kV_Disk_events dc_Disk_events pm_Disk_events an_Disk_events cd_Disk_events ct_Disk_events, half_start := PySem.W.fnOf "half_start" "half_start" (defArgs s_half_start) (defBody s_half_start) (defScope s_half_start) .none kV_half_start dc_half_start pm_half_start an_half_start cd_half_start ct_half_start, records_from := PySem.W.fnOf "records_from" "records_from" (defArgs s_records_from) (defBody s_records_from) (defScope s_records_from) .none kV_records_from dc_records_from pm_records_from an_records_from cd_records_from ct_records_from, needed_cells := PySem.W.fnOf "needed_cells" "needed_cells" (defArgs s_needed_cells) (defBody s_needed_cells) (defScope s_needed_cells) .none kV_needed_cells dc_needed_cells pm_needed_cells an_needed_cells cd_needed_cells ct_needed_cells, put_record := PySem.W.fnOf "put_record" "put_record" (defArgs s_put_record) (defBody s_put_record) (defScope s_put_record) .none kV_put_record dc_put_record pm_put_record an_put_record cd_put_record ct_put_record, put_end := PySem.W.fnOf "put_end" "put_end" (defArgs s_put_end) (defBody s_put_end) (defScope s_put_end) .none kV_put_end dc_put_end pm_put_end an_put_end cd_put_end ct_put_end, Journal___init__ := PySem.W.fnOf "__init__" "Journal.__init__" (defArgs s_Journal___init__) (defBody s_Journal___init__) (defScope s_Journal___init__) .none kV_Journal___init__ dc_Journal___init__ pm_Journal___init__ an_Journal___init__ cd_Journal___init__ ct_Journal___init__, Journal_records := PySem.W.fnOf "records" "Journal.records" (defArgs s_Journal_records) (defBody s_Journal_records) (defScope s_Journal_records) .none kV_Journal_records dc_Journal_records pm_Journal_records an_Journal_records cd_Journal_records ct_Journal_records, Journal_write := PySem.W.fnOf "write" "Journal.write" (defArgs s_Journal_write) (defBody s_Journal_write) (defScope s_Journal_write) .none kV_Journal_write dc_Journal_write pm_Journal_write an_Journal_write cd_Journal_write ct_Journal_write, Journal_renew := PySem.W.fnOf "renew" "Journal.renew" (defArgs s_Journal_renew) (defBody s_Journal_renew) (defScope s_Journal_renew) .none kV_Journal_renew dc_Journal_renew pm_Journal_renew an_Journal_renew cd_Journal_renew ct_Journal_renew, _law_heap := PySem.W.fnOf "_law_heap" "_law_heap" (defArgs s__law_heap) (defBody s__law_heap) (defScope s__law_heap) .none kV__law_heap dc__law_heap pm__law_heap an__law_heap cd__law_heap ct__law_heap, _law_draw := PySem.W.fnOf "_law_draw" "_law_draw" (defArgs s__law_draw) (defBody s__law_draw) (defScope s__law_draw) .none kV__law_draw dc__law_draw pm__law_draw an__law_draw cd__law_draw ct__law_draw, _law_pick := PySem.W.fnOf "_law_pick" "_law_pick" (defArgs s__law_pick) (defBody s__law_pick) (defScope s__law_pick) .none kV__law_pick dc__law_pick pm__law_pick an__law_pick cd__law_pick ct__law_pick, _law_octet := PySem.W.fnOf "_law_octet" "_law_octet" (defArgs s__law_octet) (defBody s__law_octet) (defScope s__law_octet) .none kV__law_octet dc__law_octet pm__law_octet an__law_octet cd__law_octet ct__law_octet, _law_record := PySem.W.fnOf "_law_record" "_law_record" (defArgs s__law_record) (defBody s__law_record) (defScope s__law_record) .none kV__law_record dc__law_record pm__law_record an__law_record cd__law_record ct__law_record, _law_lasting := PySem.W.fnOf "_law_lasting" "_law_lasting" (defArgs s__law_lasting) (defBody s__law_lasting) (defScope s__law_lasting) .none kV__law_lasting dc__law_lasting pm__law_lasting an__law_lasting cd__law_lasting ct__law_lasting, _law_left := PySem.W.fnOf "_law_left" "_law_left" (defArgs s__law_left) (defBody s__law_left) (defScope s__law_left) .none kV__law_left dc__law_left pm__law_left an__law_left cd__law_left ct__law_left, _law_opened := PySem.W.fnOf "_law_opened" "_law_opened" (defArgs s__law_opened) (defBody s__law_opened) (defScope s__law_opened) .none kV__law_opened dc__law_opened pm__law_opened an__law_opened cd__law_opened ct__law_opened, _law_base := PySem.W.fnOf "_law_base" "_law_base" (defArgs s__law_base) (defBody s__law_base) (defScope s__law_base) .none kV__law_base dc__law_base pm__law_base an__law_base cd__law_base ct__law_base, _law_cuts_right := PySem.W.fnOf "_law_cuts_right" "_law_cuts_right" (defArgs s__law_cuts_right) (defBody s__law_cuts_right) (defScope s__law_cuts_right) .none kV__law_cuts_right dc__law_cuts_right pm__law_cuts_right an__law_cuts_right cd__law_cuts_right ct__law_cuts_right, _law_call := PySem.W.fnOf "_law_call" "_law_call" (defArgs s__law_call) (defBody s__law_call) (defScope s__law_call) .none kV__law_call dc__law_call pm__law_call an__law_call cd__law_call ct__law_call, _law_turn := PySem.W.fnOf "_law_turn" "_law_turn" (defArgs s__law_turn) (defBody s__law_turn) (defScope s__law_turn) .none kV__law_turn dc__law_turn pm__law_turn an__law_turn cd__law_turn ct__law_turn, _law_day_right := PySem.W.fnOf "_law_day_right" "_law_day_right" (defArgs s__law_day_right) (defBody s__law_day_right) (defScope s__law_day_right) .none kV__law_day_right dc__law_day_right pm__law_day_right an__law_day_right cd__law_day_right ct__law_day_right, _law_many_right := PySem.W.fnOf "_law_many_right" "_law_many_right" (defArgs s__law_many_right) (defBody s__law_many_right) (defScope s__law_many_right) .none kV__law_many_right dc__law_many_right pm__law_many_right an__law_many_right cd__law_many_right ct__law_many_right, _law_strange_right := PySem.W.fnOf "_law_strange_right" "_law_strange_right" (defArgs s__law_strange_right) (defBody s__law_strange_right) (defScope s__law_strange_right) .none kV__law_strange_right dc__law_strange_right pm__law_strange_right an__law_strange_right cd__law_strange_right ct__law_strange_right, law := PySem.W.fnOf "law" "law" (defArgs s_law) (defBody s_law) (defScope s_law) .none kV_law dc_law pm_law an_law cd_law ct_law }
  have Df : Defs K a fd := { is_integer := fun_mk (st := s_is_integer) l_is_integer c_is_integer k_is_integer, is_number := fun_mk (st := s_is_number) l_is_number c_is_number k_is_number, is_octet := fun_mk (st := s_is_octet) l_is_octet c_is_octet k_is_octet, Disk___init__ := fun_mk (st := s_Disk___init__) l_Disk___init__ c_Disk___init__ k_Disk___init__, Disk_look := fun_mk (st := s_Disk_look) l_Disk_look c_Disk_look k_Disk_look, Disk_put := fun_mk (st := s_Disk_put) l_Disk_put c_Disk_put k_Disk_put, Disk_flush := fun_mk (st := s_Disk_flush) l_Disk_flush c_Disk_flush k_Disk_flush, Disk_events := fun_mk (st := s_Disk_events) l_Disk_events c_Disk_events k_Disk_events, half_start := fun_mk (st := s_half_start) l_half_start c_half_start k_half_start, records_from := fun_mk (st := s_records_from) l_records_from c_records_from k_records_from, needed_cells := fun_mk (st := s_needed_cells) l_needed_cells c_needed_cells k_needed_cells, put_record := fun_mk (st := s_put_record) l_put_record c_put_record k_put_record, put_end := fun_mk (st := s_put_end) l_put_end c_put_end k_put_end, Journal___init__ := fun_mk (st := s_Journal___init__) l_Journal___init__ c_Journal___init__ k_Journal___init__, Journal_records := fun_mk (st := s_Journal_records) l_Journal_records c_Journal_records k_Journal_records, Journal_write := fun_mk (st := s_Journal_write) l_Journal_write c_Journal_write k_Journal_write, Journal_renew := fun_mk (st := s_Journal_renew) l_Journal_renew c_Journal_renew k_Journal_renew, _law_heap := fun_mk (st := s__law_heap) l__law_heap c__law_heap k__law_heap, _law_draw := fun_mk (st := s__law_draw) l__law_draw c__law_draw k__law_draw, _law_pick := fun_mk (st := s__law_pick) l__law_pick c__law_pick k__law_pick, _law_octet := fun_mk (st := s__law_octet) l__law_octet c__law_octet k__law_octet, _law_record := fun_mk (st := s__law_record) l__law_record c__law_record k__law_record, _law_lasting := fun_mk (st := s__law_lasting) l__law_lasting c__law_lasting k__law_lasting, _law_left := fun_mk (st := s__law_left) l__law_left c__law_left k__law_left, _law_opened := fun_mk (st := s__law_opened) l__law_opened c__law_opened k__law_opened, _law_base := fun_mk (st := s__law_base) l__law_base c__law_base k__law_base, _law_cuts_right := fun_mk (st := s__law_cuts_right) l__law_cuts_right c__law_cuts_right k__law_cuts_right, _law_call := fun_mk (st := s__law_call) l__law_call c__law_call k__law_call, _law_turn := fun_mk (st := s__law_turn) l__law_turn c__law_turn k__law_turn, _law_day_right := fun_mk (st := s__law_day_right) l__law_day_right c__law_day_right k__law_day_right, _law_many_right := fun_mk (st := s__law_many_right) l__law_many_right c__law_many_right k__law_many_right, _law_strange_right := fun_mk (st := s__law_strange_right) l__law_strange_right c__law_strange_right k__law_strange_right, law := fun_mk (st := s_law) l_law c_law k_law }
  exact ⟨fd.law, fun s u => .of_eq rfl, fun base _ _ => ok_law T Df⟩
theorem walk {q : Program} {loose : List Str} {XP : (Str → Option Value) → Heap → Prop} {YP : World → Heap → Prop} {d : DefRec} {K : Params → PySem.W.Frag} (hdf : d.params.defaults = []) (hnm : d.name = "law")
    (hY : ∀ (w : World) (h : Heap), YP w h → (K w.params).In h)
    (F : ∀ (w : World) (mg : Str → Option Value) (fa : Addr) (h : Heap), (K w.params).In h → h.Ns mainGlobals mg → mg "law" = some (.ref fa) →
      ∃ fd : FuncData, (∀ (s : Shared) (u : Value), BindsTo s fd ⟨[u], []⟩ [("_law_script", u)]) ∧ ∀ base : Heap, (K w.params).In base → base.Ns mainGlobals mg → FnG PySem.Challenge.pw_neverregret_k60_whole_journals_cut_anywh w (K w.params) mg base 10 fa fd ["_law_script"] (lift (K w.params) a_law)) :
    PySem.W.WalkO q loose XP YP PySem.Challenge.rw_neverregret_k60_whole_journals_cut_anywh.row.toRowW d [] (fun f vs => PySem.call f vs) :=
  walk_G (n := 63) (k := 10) (x := "_law_script") (a := fun _ => a_law) rfl (by decide) hdf ⟨rfl, by decide, by decide⟩ hY (fun w mg fa h KX G hm => F w mg fa h KX G (by rw [← hnm]; exact hm)) fun _ ns hl => ⟨ns, rfl, hl, fun _ => rfl⟩
end K60
open PySem PySem.W PyProof.Rows
set_option maxRecDepth 100000 in
set_option maxHeartbeats 0 in
theorem PySem.Challenge.cw_neverregret_k60_whole_journals_cut_anywh_holds : PySem.Challenge.rw_neverregret_k60_whole_journals_cut_anywh.Holds := by
  w_on; o_law; k_head; (case hw => w_witness2)
  k_fill
  refine K60.walk rfl rfl (fun w h Y => PySem.W.kIn_of Y) ?F
  case F =>
    intro w mg fa h KX G hmg
    refine' K60.all_mk KX G hmg ?aC_DeskError ?aC_Refused ?aC_Broken ?aC_Disk ?aC_Journal ?ac_HEAD ?ac_MARK ?ac_MOST_CELLS ?ac_OCTETS ?nn_abs ?nn_all ?nn_bool ?nn_enumerate ?nn_int ?nn_isinstance ?nn_len ?nn_list ?nn_max ?nn_range ?nn_repr ?nn_sum ?nn_tuple ?at_is_integer ?l_is_integer ?c_is_integer ?k_is_integer ?at_is_number ?l_is_number ?c_is_number ?k_is_number ?at_is_octet ?l_is_octet ?c_is_octet ?k_is_octet ?at_Disk___init__ ?i_Disk___init__ ?l_Disk___init__ ?c_Disk___init__ ?k_Disk___init__ ?at_Disk_look ?i_Disk_look ?l_Disk_look ?c_Disk_look ?k_Disk_look ?at_Disk_put ?i_Disk_put ?l_Disk_put ?c_Disk_put ?k_Disk_put ?at_Disk_flush ?i_Disk_flush ?l_Disk_flush ?c_Disk_flush ?k_Disk_flush ?at_Disk_events ?i_Disk_events ?l_Disk_events ?c_Disk_events ?k_Disk_events ?at_half_start ?l_half_start ?c_half_start ?k_half_start ?at_records_from ?l_records_from ?c_records_from ?k_records_from ?at_needed_cells ?l_needed_cells ?c_needed_cells ?k_needed_cells ?at_put_record ?l_put_record ?c_put_record ?k_put_record ?at_put_end ?l_put_end ?c_put_end ?k_put_end ?at_Journal___init__ ?i_Journal___init__ ?l_Journal___init__ ?c_Journal___init__ ?k_Journal___init__ ?at_Journal_records ?i_Journal_records ?l_Journal_records ?c_Journal_records ?k_Journal_records ?at_Journal_write ?i_Journal_write ?l_Journal_write ?c_Journal_write ?k_Journal_write ?at_Journal_renew ?i_Journal_renew ?l_Journal_renew ?c_Journal_renew ?k_Journal_renew ?at__law_heap ?l__law_heap ?c__law_heap ?k__law_heap ?at__law_draw ?l__law_draw ?c__law_draw ?k__law_draw ?at__law_pick ?l__law_pick ?c__law_pick ?k__law_pick ?at__law_octet ?l__law_octet ?c__law_octet ?k__law_octet ?at__law_record ?l__law_record ?c__law_record ?k__law_record ?at__law_lasting ?l__law_lasting ?c__law_lasting ?k__law_lasting ?at__law_left ?l__law_left ?c__law_left ?k__law_left ?at__law_opened ?l__law_opened ?c__law_opened ?k__law_opened ?at__law_base ?l__law_base ?c__law_base ?k__law_base ?at__law_cuts_right ?l__law_cuts_right ?c__law_cuts_right ?k__law_cuts_right ?at__law_call ?l__law_call ?c__law_call ?k__law_call ?at__law_turn ?l__law_turn ?c__law_turn ?k__law_turn ?at__law_day_right ?l__law_day_right ?c__law_day_right ?k__law_day_right ?at__law_many_right ?l__law_many_right ?c__law_many_right ?k__law_many_right ?at__law_strange_right ?l__law_strange_right ?c__law_strange_right ?k__law_strange_right ?at_law ?l_law ?c_law ?k_law ?pg_Disk ?hd_Disk ?po_Disk ?sa_Disk ?mk_Disk ?kc_Disk ?nf_Disk_cells ?nf_Disk__octets ?nf_Disk__events ?pg_Journal ?hd_Journal ?po_Journal ?sa_Journal ?mk_Journal ?kc_Journal ?nf_Journal_disk ?nf_Journal__side ?nf_Journal__records ?nf_Journal__end ?op ?sup ?gn ?gt ?xl_Refused ?xr_Refused ?xa_Refused ?xs_Refused ?xno_Refused ?xi_Refused ?xt_Refused ?xk_Refused ?xe_Refused ?xv_Refused ?xy_Refused ?xf_Refused ?xc_Refused ?xd_Refused ?xw_Refused ?xz_Refused ?xq_Refused ?xg_Refused ?xgg_Refused ?xh_Refused ?xha_Refused ?xm_Refused ?ex_Refused_DeskError ?kt_Refused_Broken ?kt_Refused_Refused ?xl_Broken ?xr_Broken ?xa_Broken ?xs_Broken ?xno_Broken ?xi_Broken ?xt_Broken ?xk_Broken ?xe_Broken ?xv_Broken ?xy_Broken ?xf_Broken ?xc_Broken ?xd_Broken ?xw_Broken ?xz_Broken ?xq_Broken ?xg_Broken ?xgg_Broken ?xh_Broken ?xha_Broken ?xm_Broken ?ex_Broken_DeskError ?kt_Broken_Broken ?kt_Broken_Refused ?cb_DeskError ?ch_DeskError ?ct_DeskError
    (case aC_DeskError => first | k_is | rfl | decide +kernel)
    (case aC_Refused => first | k_is | rfl | decide +kernel)
    (case aC_Broken => first | k_is | rfl | decide +kernel)
    (case aC_Disk => first | k_is | rfl | decide +kernel)
    (case aC_Journal => first | k_is | rfl | decide +kernel)
    (case ac_HEAD => first | k_is | rfl | decide +kernel)
    (case ac_MARK => first | k_is | rfl | decide +kernel)
    (case ac_MOST_CELLS => first | k_is | rfl | decide +kernel)
    (case ac_OCTETS => first | k_is | rfl | decide +kernel)
    (case nn_abs => first | k_is | rfl | decide +kernel)
    (case nn_all => first | k_is | rfl | decide +kernel)
    (case nn_bool => first | k_is | rfl | decide +kernel)
    (case nn_enumerate => first | k_is | rfl | decide +kernel)
    (case nn_int => first | k_is | rfl | decide +kernel)
    (case nn_isinstance => first | k_is | rfl | decide +kernel)
    (case nn_len => first | k_is | rfl | decide +kernel)
    (case nn_list => first | k_is | rfl | decide +kernel)
    (case nn_max => first | k_is | rfl | decide +kernel)
    (case nn_range => first | k_is | rfl | decide +kernel)
    (case nn_repr => first | k_is | rfl | decide +kernel)
    (case nn_sum => first | k_is | rfl | decide +kernel)
    (case nn_tuple => first | k_is | rfl | decide +kernel)
    (case at_is_integer => first | k_is | rfl | decide +kernel)
    (case l_is_integer => first | k_is | rfl | decide +kernel)
    (case c_is_integer => first | k_is | rfl | decide +kernel)
    (case k_is_integer => first | k_is | rfl | decide +kernel)
    (case at_is_number => first | k_is | rfl | decide +kernel)
    (case l_is_number => first | k_is | rfl | decide +kernel)
    (case c_is_number => first | k_is | rfl | decide +kernel)
    (case k_is_number => first | k_is | rfl | decide +kernel)
    (case at_is_octet => first | k_is | rfl | decide +kernel)
    (case l_is_octet => first | k_is | rfl | decide +kernel)
    (case c_is_octet => first | k_is | rfl | decide +kernel)
    (case k_is_octet => first | k_is | rfl | decide +kernel)
    (case at_Disk___init__ => first | k_is | rfl | decide +kernel)
    (case i_Disk___init__ => first | k_is | rfl | decide +kernel)
    (case l_Disk___init__ => first | k_is | rfl | decide +kernel)
    (case c_Disk___init__ => first | k_is | rfl | decide +kernel)
    (case k_Disk___init__ => first | k_is | rfl | decide +kernel)
    (case at_Disk_look => first | k_is | rfl | decide +kernel)
    (case i_Disk_look => first | k_is | rfl | decide +kernel)
    (case l_Disk_look => first | k_is | rfl | decide +kernel)
    (case c_Disk_look => first | k_is | rfl | decide +kernel)
    (case k_Disk_look => first | k_is | rfl | decide +kernel)
    (case at_Disk_put => first | k_is | rfl | decide +kernel)
    (case i_Disk_put => first | k_is | rfl | decide +kernel)
    (case l_Disk_put => first | k_is | rfl | decide +kernel)
    (case c_Disk_put => first | k_is | rfl | decide +kernel)
    (case k_Disk_put => first | k_is | rfl | decide +kernel)
    (case at_Disk_flush => first | k_is | rfl | decide +kernel)
    (case i_Disk_flush => first | k_is | rfl | decide +kernel)
    (case l_Disk_flush => first | k_is | rfl | decide +kernel)
    (case c_Disk_flush => first | k_is | rfl | decide +kernel)
    (case k_Disk_flush => first | k_is | rfl | decide +kernel)
    (case at_Disk_events => first | k_is | rfl | decide +kernel)
    (case i_Disk_events => first | k_is | rfl | decide +kernel)
    (case l_Disk_events => first | k_is | rfl | decide +kernel)
    (case c_Disk_events => first | k_is | rfl | decide +kernel)
    (case k_Disk_events => first | k_is | rfl | decide +kernel)
    (case at_half_start => first | k_is | rfl | decide +kernel)
    (case l_half_start => first | k_is | rfl | decide +kernel)
    (case c_half_start => first | k_is | rfl | decide +kernel)
    (case k_half_start => first | k_is | rfl | decide +kernel)
    (case at_records_from => first | k_is | rfl | decide +kernel)
    (case l_records_from => first | k_is | rfl | decide +kernel)
    (case c_records_from => first | k_is | rfl | decide +kernel)
    (case k_records_from => first | k_is | rfl | decide +kernel)
    (case at_needed_cells => first | k_is | rfl | decide +kernel)
    (case l_needed_cells => first | k_is | rfl | decide +kernel)
    (case c_needed_cells => first | k_is | rfl | decide +kernel)
    (case k_needed_cells => first | k_is | rfl | decide +kernel)
    (case at_put_record => first | k_is | rfl | decide +kernel)
    (case l_put_record => first | k_is | rfl | decide +kernel)
    (case c_put_record => first | k_is | rfl | decide +kernel)
    (case k_put_record => first | k_is | rfl | decide +kernel)
    (case at_put_end => first | k_is | rfl | decide +kernel)
    (case l_put_end => first | k_is | rfl | decide +kernel)
    (case c_put_end => first | k_is | rfl | decide +kernel)
    (case k_put_end => first | k_is | rfl | decide +kernel)
    (case at_Journal___init__ => first | k_is | rfl | decide +kernel)
    (case i_Journal___init__ => first | k_is | rfl | decide +kernel)
    (case l_Journal___init__ => first | k_is | rfl | decide +kernel)
    (case c_Journal___init__ => first | k_is | rfl | decide +kernel)
    (case k_Journal___init__ => first | k_is | rfl | decide +kernel)
    (case at_Journal_records => first | k_is | rfl | decide +kernel)
    (case i_Journal_records => first | k_is | rfl | decide +kernel)
    (case l_Journal_records => first | k_is | rfl | decide +kernel)
    (case c_Journal_records => first | k_is | rfl | decide +kernel)
    (case k_Journal_records => first | k_is | rfl | decide +kernel)
    (case at_Journal_write => first | k_is | rfl | decide +kernel)
    (case i_Journal_write => first | k_is | rfl | decide +kernel)
    (case l_Journal_write => first | k_is | rfl | decide +kernel)
    (case c_Journal_write => first | k_is | rfl | decide +kernel)
    (case k_Journal_write => first | k_is | rfl | decide +kernel)
    (case at_Journal_renew => first | k_is | rfl | decide +kernel)
    (case i_Journal_renew => first | k_is | rfl | decide +kernel)
    (case l_Journal_renew => first | k_is | rfl | decide +kernel)
    (case c_Journal_renew => first | k_is | rfl | decide +kernel)
    (case k_Journal_renew => first | k_is | rfl | decide +kernel)
    (case at__law_heap => first | k_is | rfl | decide +kernel)
    (case l__law_heap => first | k_is | rfl | decide +kernel)
    (case c__law_heap => first | k_is | rfl | decide +kernel)
    (case k__law_heap => first | k_is | rfl | decide +kernel)
    (case at__law_draw => first | k_is | rfl | decide +kernel)
    (case l__law_draw => first | k_is | rfl | decide +kernel)
    (case c__law_draw => first | k_is | rfl | decide +kernel)
    (case k__law_draw => first | k_is | rfl | decide +kernel)
    (case at__law_pick => first | k_is | rfl | decide +kernel)
    (case l__law_pick => first | k_is | rfl | decide +kernel)
    (case c__law_pick => first | k_is | rfl | decide +kernel)
    (case k__law_pick => first | k_is | rfl | decide +kernel)
    (case at__law_octet => first | k_is | rfl | decide +kernel)
    (case l__law_octet => first | k_is | rfl | decide +kernel)
    (case c__law_octet => first | k_is | rfl | decide +kernel)
    (case k__law_octet => first | k_is | rfl | decide +kernel)
    (case at__law_record => first | k_is | rfl | decide +kernel)
    (case l__law_record => first | k_is | rfl | decide +kernel)
    (case c__law_record => first | k_is | rfl | decide +kernel)
    (case k__law_record => first | k_is | rfl | decide +kernel)
    (case at__law_lasting => first | k_is | rfl | decide +kernel)
    (case l__law_lasting => first | k_is | rfl | decide +kernel)
    (case c__law_lasting => first | k_is | rfl | decide +kernel)
    (case k__law_lasting => first | k_is | rfl | decide +kernel)
    (case at__law_left => first | k_is | rfl | decide +kernel)
    (case l__law_left => first | k_is | rfl | decide +kernel)
    (case c__law_left => first | k_is | rfl | decide +kernel)
    (case k__law_left => first | k_is | rfl | decide +kernel)
    (case at__law_opened => first | k_is | rfl | decide +kernel)
    (case l__law_opened => first | k_is | rfl | decide +kernel)
    (case c__law_opened => first | k_is | rfl | decide +kernel)
    (case k__law_opened => first | k_is | rfl | decide +kernel)
    (case at__law_base => first | k_is | rfl | decide +kernel)
    (case l__law_base => first | k_is | rfl | decide +kernel)
    (case c__law_base => first | k_is | rfl | decide +kernel)
    (case k__law_base => first | k_is | rfl | decide +kernel)
    (case at__law_cuts_right => first | k_is | rfl | decide +kernel)
    (case l__law_cuts_right => first | k_is | rfl | decide +kernel)
    (case c__law_cuts_right => first | k_is | rfl | decide +kernel)
    (case k__law_cuts_right => first | k_is | rfl | decide +kernel)
    (case at__law_call => first | k_is | rfl | decide +kernel)
    (case l__law_call => first | k_is | rfl | decide +kernel)
    (case c__law_call => first | k_is | rfl | decide +kernel)
    (case k__law_call => first | k_is | rfl | decide +kernel)
    (case at__law_turn => first | k_is | rfl | decide +kernel)
    (case l__law_turn => first | k_is | rfl | decide +kernel)
    (case c__law_turn => first | k_is | rfl | decide +kernel)
    (case k__law_turn => first | k_is | rfl | decide +kernel)
    (case at__law_day_right => first | k_is | rfl | decide +kernel)
    (case l__law_day_right => first | k_is | rfl | decide +kernel)
    (case c__law_day_right => first | k_is | rfl | decide +kernel)
    (case k__law_day_right => first | k_is | rfl | decide +kernel)
    (case at__law_many_right => first | k_is | rfl | decide +kernel)
    (case l__law_many_right => first | k_is | rfl | decide +kernel)
    (case c__law_many_right => first | k_is | rfl | decide +kernel)
    (case k__law_many_right => first | k_is | rfl | decide +kernel)
    (case at__law_strange_right => first | k_is | rfl | decide +kernel)
    (case l__law_strange_right => first | k_is | rfl | decide +kernel)
    (case c__law_strange_right => first | k_is | rfl | decide +kernel)
    (case k__law_strange_right => first | k_is | rfl | decide +kernel)
    (case at_law => first | k_is | rfl | decide +kernel)
    (case l_law => first | k_is | rfl | decide +kernel)
    (case c_law => first | k_is | rfl | decide +kernel)
    (case k_law => first | k_is | rfl | decide +kernel)
    (case pg_Disk => first | k_is | rfl | decide +kernel)
    (case hd_Disk => first | k_is | rfl | decide +kernel)
    (case po_Disk => first | k_is | rfl | decide +kernel)
    (case sa_Disk => first | k_is | rfl | decide +kernel)
    (case mk_Disk => first | k_is | rfl | decide +kernel)
    (case kc_Disk => first | k_is | rfl | decide +kernel)
    (case nf_Disk_cells => first | k_is | rfl | decide +kernel)
    (case nf_Disk__octets => first | k_is | rfl | decide +kernel)
    (case nf_Disk__events => first | k_is | rfl | decide +kernel)
    (case pg_Journal => first | k_is | rfl | decide +kernel)
    (case hd_Journal => first | k_is | rfl | decide +kernel)
    (case po_Journal => first | k_is | rfl | decide +kernel)
    (case sa_Journal => first | k_is | rfl | decide +kernel)
    (case mk_Journal => first | k_is | rfl | decide +kernel)
    (case kc_Journal => first | k_is | rfl | decide +kernel)
    (case nf_Journal_disk => first | k_is | rfl | decide +kernel)
    (case nf_Journal__side => first | k_is | rfl | decide +kernel)
    (case nf_Journal__records => first | k_is | rfl | decide +kernel)
    (case nf_Journal__end => first | k_is | rfl | decide +kernel)
    (case op => first | k_is | rfl | decide +kernel)
    (case sup => first | k_is | rfl | decide +kernel)
    (case gn => first | k_is | rfl | decide +kernel)
    (case gt => first | k_is | rfl | decide +kernel)
    (case xl_Refused => first | k_is | rfl | decide +kernel)
    (case xr_Refused => first | rfl | rfl | decide +kernel)
    (case xa_Refused => first | k_is | rfl | decide +kernel)
    (case xs_Refused => first | k_is | rfl | decide +kernel)
    (case xno_Refused => first | k_is | rfl | decide +kernel)
    (case xi_Refused => first | k_is | rfl | decide +kernel)
    (case xt_Refused => first | k_is | rfl | decide +kernel)
    (case xk_Refused => first | k_is | rfl | decide +kernel)
    (case xe_Refused => first | k_is | rfl | decide +kernel)
    (case xv_Refused => first | k_is | rfl | decide +kernel)
    (case xy_Refused => first | k_is | rfl | decide +kernel)
    (case xf_Refused => first | k_is | rfl | decide +kernel)
    (case xc_Refused => first | k_is | rfl | decide +kernel)
    (case xd_Refused => first | k_is | rfl | decide +kernel)
    (case xw_Refused => first | rfl | rfl | decide +kernel)
    (case xz_Refused => first | rfl | rfl | decide +kernel)
    (case xq_Refused => first | k_is | rfl | decide +kernel)
    (case xg_Refused => first | k_is | rfl | decide +kernel)
    (case xgg_Refused => first | k_is | rfl | decide +kernel)
    (case xh_Refused => first | k_is | rfl | decide +kernel)
    (case xha_Refused => first | k_is | rfl | decide +kernel)
    (case xm_Refused => first | k_is | rfl | decide +kernel)
    (case ex_Refused_DeskError => first | k_is | rfl | decide +kernel)
    (case kt_Refused_Broken => first | k_is | rfl | decide +kernel)
    (case kt_Refused_Refused => first | k_is | rfl | decide +kernel)
    (case xl_Broken => first | k_is | rfl | decide +kernel)
    (case xr_Broken => first | rfl | rfl | decide +kernel)
    (case xa_Broken => first | k_is | rfl | decide +kernel)
    (case xs_Broken => first | k_is | rfl | decide +kernel)
    (case xno_Broken => first | k_is | rfl | decide +kernel)
    (case xi_Broken => first | k_is | rfl | decide +kernel)
    (case xt_Broken => first | k_is | rfl | decide +kernel)
    (case xk_Broken => first | k_is | rfl | decide +kernel)
    (case xe_Broken => first | k_is | rfl | decide +kernel)
    (case xv_Broken => first | k_is | rfl | decide +kernel)
    (case xy_Broken => first | k_is | rfl | decide +kernel)
    (case xf_Broken => first | k_is | rfl | decide +kernel)
    (case xc_Broken => first | k_is | rfl | decide +kernel)
    (case xd_Broken => first | k_is | rfl | decide +kernel)
    (case xw_Broken => first | rfl | rfl | decide +kernel)
    (case xz_Broken => first | rfl | rfl | decide +kernel)
    (case xq_Broken => first | k_is | rfl | decide +kernel)
    (case xg_Broken => first | k_is | rfl | decide +kernel)
    (case xgg_Broken => first | k_is | rfl | decide +kernel)
    (case xh_Broken => first | k_is | rfl | decide +kernel)
    (case xha_Broken => first | k_is | rfl | decide +kernel)
    (case xm_Broken => first | k_is | rfl | decide +kernel)
    (case ex_Broken_DeskError => first | k_is | rfl | decide +kernel)
    (case kt_Broken_Broken => first | k_is | rfl | decide +kernel)
    (case kt_Broken_Refused => first | k_is | rfl | decide +kernel)
    (case cb_DeskError => first | k_is | rfl | decide +kernel)
    (case ch_DeskError => first | k_is | rfl | decide +kernel)
    (case ct_DeskError => first | k_is | rfl | decide +kernel)
