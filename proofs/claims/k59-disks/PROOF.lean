import PyProof.Rows.All
import Wide.All
import OpenK.AllK
import Wide.FinOn
import HandS.ForMost
import HandS.ForExc
import HandS.Evl
import HandS.IsInst
import HandS.Wide
import HandS.TupAny
import HandS.TupMul
import HandS.Style
import HandS.Zip
import HandS.Exc
import HandS.SortInts
import HandS.Strs
import HandS.ExcField
import HandS.ExcIs
import HandS.SetFor
import HandS.RaiseMore
import KE.KExcSuper
import HandS.ExcInit
import HandS.ExcSuper
import HandS.WordsExc
import HandS.Ends
import PySem.Challenge.RW_neverregret_k59_whole_disks_and_cuts
set_option Elab.async false
set_option linter.all false
set_option maxRecDepth 100000
set_option maxHeartbeats 4000000
namespace T2
open PySem L2

/-- values as trees: tuples, lists that no longer change, instances that no longer change -/
inductive D where
  | non | bl (b : Bool) | int (i : Int) | str (x : Str) | ref (a : Addr) | ty (n : String)
  | tup (ds : List D) | lst (ds : List D) | obj (C : Addr) (fs : List (Str × D)) | raw (f : Addr → HO) | xtup (ds : List D) | exc (a dd : Addr) (fs : List (Str × D))

mutual
inductive Rep (K : PySem.W.Frag) (F : Hp) : D → V → Prop
  | non : Rep K F .non .non
  | bl (b : Bool) : Rep K F (.bl b) (.bl b)
  | int (i : Int) : Rep K F (.int i) (.int i)
  | str (x : Str) : Rep K F (.str x) (.str x)
  | ref (a : Addr) : Rep K F (.ref a) (.ref a)
  | ty (n : String) : Rep K F (.ty n) (.ty n)
  | tup {a : Addr} {vs : List V} {ds : List D} : SqT K F a vs → RepL K F ds vs → Rep K F (.tup ds) (.ref a)
  | lst {a : Addr} {vs : List V} {ds : List D} : SqL K F a vs → RepL K F ds vs → Rep K F (.lst ds) (.ref a)
  | obj {a dx C : Addr} {vs : List (Str × V)} {fs : List (Str × D)} : F a = some (.ins C dx vs) → RepF K F fs vs → Rep K F (.obj C fs) (.ref a)
  | raw {a : Addr} {f : Addr → HO} : F a = some (f a) → Rep K F (.raw f) (.ref a)
  | xtup {a : Addr} {vs : List V} {ds : List D} {o : Obj} : F a = some (.frz o (.tup vs)) → o.dict = none → RepL K F ds vs → Rep K F (.xtup ds) (.ref a)
  | exc {a dd : Addr} {vs : List (Str × V)} {fs : List (Str × D)} : F dd = some (.xd vs) → RepF K F fs vs → Rep K F (.exc a dd fs) (.ref a)
inductive RepL (K : PySem.W.Frag) (F : Hp) : List D → List V → Prop
  | nil : RepL K F [] []
  | cons {d : D} {v : V} {ds : List D} {vs : List V} : Rep K F d v → RepL K F ds vs → RepL K F (d :: ds) (v :: vs)
inductive RepF (K : PySem.W.Frag) (F : Hp) : List (Str × D) → List (Str × V) → Prop
  | nil : RepF K F [] []
  | cons {x : Str} {d : D} {v : V} {ds : List (Str × D)} {vs : List (Str × V)} : Rep K F d v → RepF K F ds vs → RepF K F ((x, d) :: ds) ((x, v) :: vs)
end

section
variable {K : PySem.W.Frag} {F F' : Hp}
theorem rd_mono {a : Addr} {u : HO} (e : Same F F') (h : Rd F a u) : Rd F' a u := by
  rcases h with h | ⟨o, h⟩
  · exact .inl (e _ _ h)
  · exact .inr ⟨o, e _ _ h⟩
theorem sqL_mono {a : Addr} {xs : List V} (e : Same F F') (h : SqL K F a xs) : SqL K F' a xs := h.elim (fun h => .inl (rd_mono e h)) .inr
theorem sqT_mono {a : Addr} {xs : List V} (e : Same F F') (h : SqT K F a xs) : SqT K F' a xs := h.elim (fun h => .inl (rd_mono e h)) .inr
mutual
theorem Rep.mono (e : Same F F') : ∀ (d : D) (v : V), Rep K F d v → Rep K F' d v
  | .non, _, h => by cases h; exact .non
  | .bl _, _, h => by cases h; exact .bl _
  | .int _, _, h => by cases h; exact .int _
  | .str _, _, h => by cases h; exact .str _
  | .ref _, _, h => by cases h; exact .ref _
  | .ty _, _, h => by cases h; exact .ty _
  | .tup ds, _, h => by
    cases h with
    | tup s r => exact .tup (sqT_mono e s) (RepL.mono e ds _ r)
  | .lst ds, _, h => by
    cases h with
    | lst s r => exact .lst (sqL_mono e s) (RepL.mono e ds _ r)
  | .obj C fs, _, h => by
    cases h with
    | obj s r => exact .obj (e _ _ s) (RepF.mono e fs _ r)
  | .raw f, _, h => by
    cases h with
    | raw s => exact .raw (e _ _ s)
  | .xtup ds, _, h => by
    cases h with
    | xtup s d r => exact .xtup (e _ _ s) d (RepL.mono e ds _ r)
  | .exc a dd fs, _, h => by
    cases h with
    | exc s r => exact .exc (e _ _ s) (RepF.mono e fs _ r)
theorem RepL.mono (e : Same F F') : ∀ (ds : List D) (vs : List V), RepL K F ds vs → RepL K F' ds vs
  | [], _, h => by cases h; exact .nil
  | d :: ds, _, h => by
    cases h with
    | cons h1 h2 => exact .cons (Rep.mono e d _ h1) (RepL.mono e ds _ h2)
theorem RepF.mono (e : Same F F') : ∀ (ds : List (Str × D)) (vs : List (Str × V)), RepF K F ds vs → RepF K F' ds vs
  | [], _, h => by cases h; exact .nil
  | (x, d) :: ds, _, h => by
    cases h with
    | cons h1 h2 => exact .cons (Rep.mono e d _ h1) (RepF.mono e ds _ h2)
end
theorem Rep.ofX {ds : List D} {v : V} (h : Rep K F (.xtup ds) v) : Rep K F (.tup ds) v := by
  cases h with
  | xtup s d r => exact .tup (.inl (.inr ⟨_, s⟩)) r
theorem RepL.length : ∀ {ds : List D} {vs : List V}, RepL K F ds vs → ds.length = vs.length
  | [], _, h => by cases h; rfl
  | d :: ds, _, h => by
    cases h with
    | cons h1 h2 => simp [RepL.length h2]
theorem RepL.get : ∀ {ds : List D} {vs : List V} {i : Nat} {d : D}, RepL K F ds vs → ds[i]? = some d → ∃ v, vs[i]? = some v ∧ Rep K F d v
  | [], _, i, d, h, e => by simp at e
  | d :: ds, _, 0, d', h, e => by
    cases h with
    | cons h1 h2 =>
      obtain rfl : d = d' := by simpa using e
      exact ⟨_, rfl, h1⟩
  | d :: ds, _, i + 1, d', h, e => by
    cases h with
    | cons h1 h2 =>
      obtain ⟨v, a, b⟩ := RepL.get (i := i) h2 (by simpa using e)
      exact ⟨v, by simpa using a, b⟩
theorem RepL.getV : ∀ {ds : List D} {vs : List V} {i : Nat} {v : V}, RepL K F ds vs → vs[i]? = some v → ∃ d, ds[i]? = some d ∧ Rep K F d v
  | _, [], i, d, h, e => by simp at e
  | _, v :: vs, 0, v', h, e => by
    cases h with
    | cons h1 h2 =>
      obtain rfl : v = v' := by simpa using e
      exact ⟨_, rfl, h1⟩
  | _, v :: vs, i + 1, v', h, e => by
    cases h with
    | cons h1 h2 =>
      obtain ⟨d, a, b⟩ := RepL.getV (i := i) h2 (by simpa using e)
      exact ⟨d, by simpa using a, b⟩
theorem RepL.append : ∀ {ds es : List D} {vs ws : List V}, RepL K F ds vs → RepL K F es ws → RepL K F (ds ++ es) (vs ++ ws)
  | [], _, _, _, h, h' => by cases h; exact h'
  | d :: ds, _, _, _, h, h' => by
    cases h with
    | cons h1 h2 => exact .cons h1 (RepL.append h2 h')
theorem RepL.set : ∀ {ds : List D} {vs : List V} {i : Nat} {d : D} {v : V}, RepL K F ds vs → Rep K F d v → RepL K F (ds.set i d) (vs.set i v)
  | [], _, i, d, v, h, e => by cases h; exact .nil
  | d :: ds, _, 0, d', v, h, e => by
    cases h with
    | cons h1 h2 => exact .cons e h2
  | d :: ds, _, i + 1, d', v, h, e => by
    cases h with
    | cons h1 h2 => exact .cons h1 (RepL.set h2 e)
theorem RepL.take : ∀ {ds : List D} {vs : List V} (n : Nat), RepL K F ds vs → RepL K F (ds.take n) (vs.take n)
  | _, _, 0, _ => by simp; exact .nil
  | [], _, n + 1, h => by cases h; exact .nil
  | d :: ds, _, n + 1, h => by
    cases h with
    | cons h1 h2 => exact .cons h1 (RepL.take n h2)
theorem RepL.drop : ∀ {ds : List D} {vs : List V} (n : Nat), RepL K F ds vs → RepL K F (ds.drop n) (vs.drop n)
  | _, _, 0, h => by simpa using h
  | [], _, n + 1, h => by cases h; exact .nil
  | d :: ds, _, n + 1, h => by
    cases h with
    | cons h1 h2 => exact RepL.drop n h2
theorem RepL.reverse : ∀ {ds : List D} {vs : List V}, RepL K F ds vs → RepL K F ds.reverse vs.reverse
  | [], _, h => by cases h; exact .nil
  | d :: ds, _, h => by
    cases h with
    | cons h1 h2 =>
      rw [List.reverse_cons, List.reverse_cons]
      exact (RepL.reverse h2).append (.cons h1 .nil)
theorem RepL.eraseIdx : ∀ {ds : List D} {vs : List V} (n : Nat), RepL K F ds vs → RepL K F (ds.eraseIdx n) (vs.eraseIdx n)
  | [], _, _, h => by cases h; exact .nil
  | d :: ds, _, 0, h => by
    cases h with
    | cons h1 h2 => exact h2
  | d :: ds, _, n + 1, h => by
    cases h with
    | cons h1 h2 => exact .cons h1 (RepL.eraseIdx n h2)
theorem RepF.lookup : ∀ {fs : List (Str × D)} {vs : List (Str × V)} {x : Str} {d : D}, RepF K F fs vs → fs.lookup x = some d → ∃ v, vs.lookup x = some v ∧ Rep K F d v
  | [], _, x, d, h, e => by simp at e
  | (y, d) :: fs, _, x, d', h, e => by
    cases h with
    | cons h1 h2 =>
      by_cases q : (x == y) = true
      · simp only [List.lookup, q] at e ⊢
        obtain rfl : d = d' := by simpa using e
        exact ⟨_, rfl, h1⟩
      · have q' : (x == y) = false := by simpa using q
        simp only [List.lookup, q'] at e ⊢
        exact RepF.lookup h2 e
theorem RepF.none : ∀ {fs : List (Str × D)} {vs : List (Str × V)} {x : Str}, RepF K F fs vs → fs.lookup x = none → vs.lookup x = none
  | [], _, x, h, e => by cases h; rfl
  | (y, d) :: fs, _, x, h, e => by
    cases h with
    | cons h1 h2 =>
      by_cases q : (x == y) = true
      · simp only [List.lookup, q] at e
        cases e
      · have q' : (x == y) = false := by simpa using q
        simp only [List.lookup, q'] at e ⊢
        exact RepF.none h2 e
theorem RepF.length : ∀ {ds : List (Str × D)} {vs : List (Str × V)}, RepF K F ds vs → ds.length = vs.length
  | [], _, h => by cases h; rfl
  | d :: ds, _, h => by
    cases h with
    | cons h1 h2 => simp [RepF.length h2]
/-- putF over trees -/
def putD (f : Str) (d : D) : List (Str × D) → List (Str × D)
  | [] => [(f, d)]
  | (g, e) :: r => if g = f then (g, d) :: r else (g, e) :: putD f d r
theorem RepF.put {f : Str} {d : D} {v : V} (h : Rep K F d v) : ∀ {fs : List (Str × D)} {vs : List (Str × V)}, RepF K F fs vs → RepF K F (putD f d fs) (putF f v vs)
  | [], _, r => by cases r; exact .cons h .nil
  | (g, e) :: fs, _, r => by
    cases r with
    | cons h1 h2 =>
      by_cases q : g = f
      · simp only [putD, putF, if_pos q]
        first
          | exact .cons h h2
          | (subst q; exact .cons h h2)
      · simp only [putD, putF, if_neg q]
        exact .cons h1 (RepF.put h h2)
end

/-- what stands at the address of a thing that may change -/
inductive MO where
  | lst (ds : List D)
  | ins (C : Addr) (fs : List (Str × D))
abbrev Mem := Addr → Option MO
/-- the heap without what may change -/
def Fz (M : Mem) (H : Hp) : Hp := fun a => match M a with
  | none => H a
  | some _ => none
def RepO (K : PySem.W.Frag) (F H : Hp) (a : Addr) : MO → Prop
  | .lst ds => ∃ vs, H a = some (.lst vs) ∧ RepL K F ds vs
  | .ins C fs => ∃ dx vs, H a = some (.ins C dx vs) ∧ RepF K F fs vs
def Ok (K : PySem.W.Frag) (M : Mem) (H : Hp) : Prop := ∀ a m, M a = some m → RepO K (Fz M H) H a m
/-- what a step leaves: all that may not change -/
def Stp (M : Mem) (H : Hp) (M' : Mem) (H' : Hp) : Prop := ∀ a o, M a = none → H a = some o → M' a = none ∧ H' a = some o
theorem Stp.refl (M : Mem) (H : Hp) : Stp M H M H := fun _ _ m h => ⟨m, h⟩
theorem Stp.trans {M M1 M2 : Mem} {H H1 H2 : Hp} (a : Stp M H M1 H1) (b : Stp M1 H1 M2 H2) : Stp M H M2 H2 := fun x o m h =>
  let ⟨m1, h1⟩ := a x o m h
  b x o m1 h1
theorem fz_of {M : Mem} {H : Hp} {a : Addr} {o : HO} (m : M a = none) (h : H a = some o) : Fz M H a = some o := by
  unfold Fz; rw [m]; exact h
theorem of_fz {M : Mem} {H : Hp} {a : Addr} {o : HO} (h : Fz M H a = some o) : M a = none ∧ H a = some o := by
  unfold Fz at h
  cases q : M a with
  | none => rw [q] at h; exact ⟨rfl, h⟩
  | some _ => rw [q] at h; cases h
theorem Stp.same {M M' : Mem} {H H' : Hp} (s : Stp M H M' H') : Same (Fz M H) (Fz M' H') := fun a o h =>
  let ⟨m, e⟩ := of_fz h
  let ⟨m', e'⟩ := s a o m e
  fz_of m' e'
theorem RepO.mono {K : PySem.W.Frag} {F F' H H' : Hp} {a : Addr} {m : MO} (e : Same F F') (h : H' a = H a) (r : RepO K F H a m) : RepO K F' H' a m := by
  cases m with
  | lst ds => obtain ⟨vs, q, r⟩ := r; exact ⟨vs, h.trans q, RepL.mono e _ _ r⟩
  | ins C fs => obtain ⟨dx, vs, q, r⟩ := r; exact ⟨dx, vs, h.trans q, RepF.mono e _ _ r⟩
theorem Ok.there {K : PySem.W.Frag} {M : Mem} {H : Hp} (ok : Ok K M H) {a : Addr} {m : MO} (h : M a = some m) : ∃ o, H a = some o := by
  have r := ok a m h
  cases m with
  | lst ds => obtain ⟨vs, q, _⟩ := r; exact ⟨_, q⟩
  | ins C fs => obtain ⟨dx, vs, q, _⟩ := r; exact ⟨_, q⟩
theorem Ok.fresh {K : PySem.W.Frag} {M : Mem} {H : Hp} (ok : Ok K M H) {a : Addr} (h : H a = none) : M a = none := by
  cases q : M a with
  | none => rfl
  | some m =>
    obtain ⟨o, e⟩ := ok.there q
    rw [h] at e; cases e

def Mem.set (M : Mem) (a : Addr) (m : MO) : Mem := fun b => if b = a then some m else M b
def Mem.del (M : Mem) (a : Addr) : Mem := fun b => if b = a then none else M b
theorem Mem.set_same {M : Mem} {a : Addr} {m : MO} : M.set a m a = some m := if_pos rfl
theorem Mem.set_ne {M : Mem} {a b : Addr} {m : MO} (h : b ≠ a) : M.set a m b = M b := if_neg h
theorem Mem.del_same {M : Mem} {a : Addr} : M.del a a = none := if_pos rfl
theorem Mem.del_ne {M : Mem} {a b : Addr} (h : b ≠ a) : M.del a b = M b := if_neg h
theorem Mem.set_set {M : Mem} {a : Addr} {m m' : MO} : (M.set a m).set a m' = M.set a m' := by
  funext b; unfold Mem.set; by_cases h : b = a <;> simp [h]
theorem Mem.set_comm {M : Mem} {a b : Addr} {m m' : MO} (h : a ≠ b) : (M.set a m).set b m' = (M.set b m').set a m := by
  funext c; unfold Mem.set
  by_cases h1 : c = a
  · have h2 : c ≠ b := fun e => h (h1.symm.trans e)
    rw [if_neg h2, if_pos h1, if_pos h1]
  · rw [if_neg h1]
    by_cases h2 : c = b
    · rw [if_pos h2, if_neg h1]
    · rw [if_neg h2, if_neg h1]
theorem Mem.ne_of {M : Mem} {a b : Addr} {m : MO} (h : M a = some m) (h' : M b = none) : a ≠ b := by
  rintro rfl; rw [h] at h'; cases h'

/-! ### steps of the heap -/
section
variable {K : PySem.W.Frag} {M : Mem} {H : Hp} {p : Addr}
/-- a new thing that does not change -/
theorem stp_new {o : HO} (h : H p = none) : Stp M H M (upd H p o) := fun a u m e => ⟨m, by rw [upd_ne (ne_of_none e h)]; exact e⟩
theorem ok_new {o : HO} (ok : Ok K M H) (h : H p = none) : Ok K M (upd H p o) := fun a m e => by
  obtain ⟨u, q⟩ := ok.there e
  exact (ok a m e).mono (stp_new h).same (upd_ne (ne_of_none q h))
/-- a new thing that may change -/
theorem stp_newM {o : HO} {m : MO} (h : H p = none) : Stp M H (M.set p m) (upd H p o) := fun a u q e => by
  have n := ne_of_none e h
  exact ⟨by rw [Mem.set_ne n]; exact q, by rw [upd_ne n]; exact e⟩
theorem ok_set {o : HO} {m : MO} (ok : Ok K M H) (s : Stp M H (M.set p m) (upd H p o)) (r : RepO K (Fz (M.set p m) (upd H p o)) (upd H p o) p m) : Ok K (M.set p m) (upd H p o) := fun a m' e => by
  by_cases q : a = p
  · subst q
    rw [Mem.set_same] at e
    cases e
    exact r
  · rw [Mem.set_ne q] at e
    exact (ok a m' e).mono s.same (upd_ne q)
/-- a thing that may change is changed -/
theorem stp_mut {o : HO} {m m0 : MO} (h : M p = some m0) : Stp M H (M.set p m) (upd H p o) := fun a u q e => by
  have n : a ≠ p := by rintro rfl; rw [q] at h; cases h
  exact ⟨by rw [Mem.set_ne n]; exact q, by rw [upd_ne n]; exact e⟩
/-- what may change no longer changes -/
theorem stp_less {M' : Mem} (h : ∀ a m, M' a = some m → M a = some m) : Stp M H M' H := fun a o m e => by
  refine ⟨?_, e⟩
  cases q : M' a with
  | none => rfl
  | some m' => rw [h a m' q] at m; cases m
theorem ok_less {M' : Mem} (ok : Ok K M H) (h : ∀ a m, M' a = some m → M a = some m) : Ok K M' H := fun a m e => (ok a m (h a m e)).mono (stp_less h).same rfl
end

/-! ### slots -/
abbrev Sls := List (Option D)
structure Slots (K : PySem.W.Frag) (F : Hp) (Δ : Sls) (σ : St) : Prop where
  len : Δ.length = σ.length
  get : ∀ (i : Nat) (d : D), Δ[i]? = some (some d) → ∃ v, σ[i]? = some (some v) ∧ Rep K F d v
theorem Slots.mono {K : PySem.W.Frag} {F F' : Hp} {Δ : Sls} {σ : St} (e : Same F F') (s : Slots K F Δ σ) : Slots K F' Δ σ :=
  ⟨s.len, fun i d h => let ⟨v, a, b⟩ := s.get i d h; ⟨v, a, Rep.mono e _ _ b⟩⟩
theorem Slots.set {K : PySem.W.Frag} {F : Hp} {Δ : Sls} {σ : St} {i : Nat} {d : D} {v : V} (s : Slots K F Δ σ) (r : Rep K F d v) : Slots K F (Δ.set i (some d)) (σ.set i (some v)) := by
  refine ⟨by simp [s.len], fun j d' h => ?_⟩
  by_cases q : j = i
  · subst q
    by_cases hl : j < Δ.length
    · rw [List.getElem?_set_self hl] at h
      have e : d = d' := by simpa using h
      subst e
      exact ⟨v, List.getElem?_set_self (by rw [← s.len]; exact hl), r⟩
    · rw [List.getElem?_eq_none (by simpa using hl)] at h
      cases h
  · rw [List.getElem?_set_ne (Ne.symm q)] at h
    obtain ⟨v', a, b⟩ := s.get j d' h
    exact ⟨v', by rw [List.getElem?_set_ne (Ne.symm q)]; exact a, b⟩
/-- forgetting slots -/
theorem Slots.weak {K : PySem.W.Frag} {F : Hp} {Δ Δ' : Sls} {σ : St} (s : Slots K F Δ σ) (hl : Δ'.length = Δ.length) (w : ∀ (i : Nat) (d : D), Δ'[i]? = some (some d) → Δ[i]? = some (some d)) : Slots K F Δ' σ :=
  ⟨hl.trans s.len, fun i d h => s.get i d (w i d h)⟩

/-! ### weakest preconditions over trees -/
/-- an own exception: its class, its fields -/
abbrev Exc := Value → List (Str × D) → Mem → Prop
abbrev PsiE := D → Mem → Prop
/-- what is wanted of a value -/
def GoodV (K : PySem.W.Frag) (M : Mem) (H : Hp) (Ψ : PsiE) (Q : VK) : Prop := ∀ M' H' d v, Stp M H M' H' → Ok K M' H' → Rep K (Fz M' H') d v → Ψ d M' → Q v H'
def GoodX (K : PySem.W.Frag) (W : WX) (M : Mem) (H : Hp) (σ : St) (Χ : Exc) : Prop :=
  ∀ M' H' cls d fs vs, Stp M H M' H' → Ok K M' H' → H' d = some (.xd vs) → M' d = none → RepF K (Fz M' H') fs vs → Χ cls fs M' → W cls (some d) σ H'
def GoodL (K : PySem.W.Frag) (M : Mem) (H : Hp) (Ψ : List D → Mem → Prop) (Q : List V → Hp → Prop) : Prop := ∀ M' H' d v, Stp M H M' H' → Ok K M' H' → RepL K (Fz M' H') d v → Ψ d M' → Q v H'
def GoodT (K : PySem.W.Frag) (M : Mem) (H : Hp) (Ψ : Bool → Mem → Prop) (Q : Bool → Hp → Prop) : Prop := ∀ M' H' b, Stp M H M' H' → Ok K M' H' → Ψ b M' → Q b H'
def AE (K : PySem.W.Frag) (W : WX) (Χ : Exc) (Δ : Sls) (te : TE) (M : Mem) (Ψ : PsiE) : Prop :=
  ∀ σ H, Ok K M H → Slots K (Fz M H) Δ σ → GoodX K W M H σ Χ → ∀ Q : VK, GoodV K M H Ψ Q → te σ H Q
def AA (K : PySem.W.Frag) (W : WX) (Χ : Exc) (Δ : Sls) (ta : TA) (M : Mem) (Ψ : List D → Mem → Prop) : Prop :=
  ∀ σ H, Ok K M H → Slots K (Fz M H) Δ σ → GoodX K W M H σ Χ → ∀ Q : List V → Hp → Prop, GoodL K M H Ψ Q → ta σ H Q
def AT (K : PySem.W.Frag) (W : WX) (Χ : Exc) (Δ : Sls) (tt : TT) (M : Mem) (Ψ : Bool → Mem → Prop) : Prop :=
  ∀ σ H, Ok K M H → Slots K (Fz M H) Δ σ → GoodX K W M H σ Χ → ∀ Q : Bool → Hp → Prop, GoodT K M H Ψ Q → tt σ H Q
/-- an operation upon values -/
def AR1 (K : PySem.W.Frag) (r : V → Hp → VK → Prop) (x : D) (M : Mem) (Ψ : PsiE) : Prop := ∀ H v, Ok K M H → Rep K (Fz M H) x v → ∀ Q : VK, GoodV K M H Ψ Q → r v H Q
def AR2 (K : PySem.W.Frag) (r : R2) (x y : D) (M : Mem) (Ψ : PsiE) : Prop := ∀ H v u, Ok K M H → Rep K (Fz M H) x v → Rep K (Fz M H) y u → ∀ Q : VK, GoodV K M H Ψ Q → r v u H Q
def ARL (K : PySem.W.Frag) (r : List V → Hp → VK → Prop) (xs : List D) (M : Mem) (Ψ : PsiE) : Prop := ∀ H vs, Ok K M H → RepL K (Fz M H) xs vs → ∀ Q : VK, GoodV K M H Ψ Q → r vs H Q

section
variable {K : PySem.W.Frag} {W : WX} {Χ : Exc} {Δ : Sls} {M : Mem} {H : Hp} {σ : St}
theorem GoodV.step {M1 : Mem} {H1 : Hp} {Ψ : PsiE} {Q : VK} (s : Stp M H M1 H1) (g : GoodV K M H Ψ Q) : GoodV K M1 H1 Ψ Q := fun M' H' d v s' ok r p => g M' H' d v (s.trans s') ok r p
theorem GoodL.step {M1 : Mem} {H1 : Hp} {Ψ : List D → Mem → Prop} {Q : List V → Hp → Prop} (s : Stp M H M1 H1) (g : GoodL K M H Ψ Q) : GoodL K M1 H1 Ψ Q := fun M' H' d v s' ok r p => g M' H' d v (s.trans s') ok r p
theorem GoodT.step {M1 : Mem} {H1 : Hp} {Ψ : Bool → Mem → Prop} {Q : Bool → Hp → Prop} (s : Stp M H M1 H1) (g : GoodT K M H Ψ Q) : GoodT K M1 H1 Ψ Q := fun M' H' b s' ok p => g M' H' b (s.trans s') ok p
theorem GoodX.step {M1 : Mem} {H1 : Hp} (s : Stp M H M1 H1) (g : GoodX K W M H σ Χ) : GoodX K W M1 H1 σ Χ := fun M' H' cls d fs vs s' ok a b c p => g M' H' cls d fs vs (s.trans s') ok a b c p
theorem GoodV.here {Ψ : PsiE} {Q : VK} {d : D} {v : V} (g : GoodV K M H Ψ Q) (ok : Ok K M H) (r : Rep K (Fz M H) d v) (p : Ψ d M) : Q v H := g M H d v (Stp.refl M H) ok r p
theorem GoodT.here {Ψ : Bool → Mem → Prop} {Q : Bool → Hp → Prop} {b : Bool} (g : GoodT K M H Ψ Q) (ok : Ok K M H) (p : Ψ b M) : Q b H := g M H b (Stp.refl M H) ok p

theorem AE.mono {te : TE} {Ψ Ψ' : PsiE} (h : AE K W Χ Δ te M Ψ) (f : ∀ d M', Ψ d M' → Ψ' d M') : AE K W Χ Δ te M Ψ' := fun σ H ok sl gx Q g => h σ H ok sl gx Q fun M' H' d v s o r p => g M' H' d v s o r (f d M' p)
theorem ae_var {i : Nat} {d : D} {Ψ : PsiE} (h : Δ[i]? = some (some d)) (k : Ψ d M) : AE K W Χ Δ (tVar i) M Ψ := fun σ H ok sl gx Q g => by
  obtain ⟨v, a, b⟩ := sl.get i d h
  exact ⟨v, a, g.here ok b k⟩
theorem ae_varX {i : Nat} {ds : List D} {Ψ : PsiE} (h : Δ[i]? = some (some (.xtup ds))) (k : Ψ (.tup ds) M) : AE K W Χ Δ (tVar i) M Ψ := fun σ H ok sl gx Q g => by
  obtain ⟨v, a, b⟩ := sl.get i _ h
  exact ⟨v, a, g.here ok b.ofX k⟩
/-- a constant -/
theorem ae_c {v : V} {d : D} {Ψ : PsiE} (h : ∀ F, Rep K F d v) (k : Ψ d M) : AE K W Χ Δ (tC v) M Ψ := fun σ H ok sl gx Q g => g.here ok (h _) k
theorem ae_int {i : Int} {Ψ : PsiE} (k : Ψ (.int i) M) : AE K W Χ Δ (tC (.int i)) M Ψ := ae_c (fun _ => .int i) k
theorem ae_str {i : Str} {Ψ : PsiE} (k : Ψ (.str i) M) : AE K W Χ Δ (tC (.str i)) M Ψ := ae_c (fun _ => .str i) k
theorem ae_bl {i : Bool} {Ψ : PsiE} (k : Ψ (.bl i) M) : AE K W Χ Δ (tC (.bl i)) M Ψ := ae_c (fun _ => .bl i) k
theorem ae_non {Ψ : PsiE} (k : Ψ .non M) : AE K W Χ Δ (tC .non) M Ψ := ae_c (fun _ => .non) k
theorem ae_ty {n : String} {Ψ : PsiE} (k : Ψ (.ty n) M) : AE K W Χ Δ (tC (.ty n)) M Ψ := ae_c (fun _ => .ty n) k
theorem ae_ref {n : Addr} {Ψ : PsiE} (k : Ψ (.ref n) M) : AE K W Χ Δ (tC (.ref n)) M Ψ := ae_c (fun _ => .ref n) k
theorem ae_op {r : R2} {ta tb : TE} {Ψ : PsiE} (h : AE K W Χ Δ ta M fun x M1 => AE K W Χ Δ tb M1 fun y M2 => AR2 K r x y M2 Ψ) : AE K W Χ Δ (tOp r ta tb) M Ψ := fun σ H ok sl gx Q g =>
  h σ H ok sl gx _ fun M1 H1 x v s1 ok1 r1 h1 => h1 σ H1 ok1 (sl.mono s1.same) (gx.step s1) _ fun M2 H2 y u s2 ok2 r2 h2 => h2 H2 v u ok2 (Rep.mono s2.same _ _ r1) r2 Q (g.step (s1.trans s2))
theorem ae_un {r : V → Hp → VK → Prop} {ta : TE} {Ψ : PsiE} (h : AE K W Χ Δ ta M fun x M1 => AR1 K r x M1 Ψ) : AE K W Χ Δ (tUn r ta) M Ψ := fun σ H ok sl gx Q g =>
  h σ H ok sl gx _ fun M1 H1 x v s1 ok1 r1 h1 => h1 H1 v ok1 r1 Q (g.step s1)
theorem aa_nil {Ψ : List D → Mem → Prop} (k : Ψ [] M) : AA K W Χ Δ tNil M Ψ := fun σ H ok sl gx Q g => g M H [] [] (Stp.refl M H) ok .nil k
theorem aa_cons {ta : TE} {tr : TA} {Ψ : List D → Mem → Prop} (h : AE K W Χ Δ ta M fun x M1 => AA K W Χ Δ tr M1 fun xs M2 => Ψ (x :: xs) M2) : AA K W Χ Δ (tCons ta tr) M Ψ := fun σ H ok sl gx Q g =>
  h σ H ok sl gx _ fun M1 H1 x v s1 ok1 r1 h1 => h1 σ H1 ok1 (sl.mono s1.same) (gx.step s1) _ fun M2 H2 y u s2 ok2 r2 h2 => g M2 H2 (x :: y) (v :: u) (s1.trans s2) ok2 (.cons (Rep.mono s2.same _ _ r1) r2) h2
theorem ae_tup {ta : TA} {Ψ : PsiE} (h : AA K W Χ Δ ta M fun xs M1 => xs.length ≤ 100000 ∧ Ψ (.tup xs) M1) : AE K W Χ Δ (tTup ta) M Ψ := fun σ H ok sl gx Q g =>
  h σ H ok sl gx _ fun M1 H1 x v s1 ok1 r1 ⟨hl, h1⟩ => ⟨Evl.sz_of (by rw [← r1.length]; exact hl), fun p hp => g M1 _ (.tup x) (.ref p) (s1.trans (stp_new hp)) (ok_new ok1 hp)
    (.tup (SqT.of (fz_of (ok1.fresh hp) upd_same)) (RepL.mono (stp_new hp).same _ _ r1)) h1⟩
/-- a list that will not change -/
theorem ae_lst {ta : TA} {Ψ : PsiE} (h : AA K W Χ Δ ta M fun xs M1 => xs.length ≤ 100000 ∧ Ψ (.lst xs) M1) : AE K W Χ Δ (tLst ta) M Ψ := fun σ H ok sl gx Q g =>
  h σ H ok sl gx _ fun M1 H1 x v s1 ok1 r1 ⟨hl, h1⟩ => ⟨Evl.sz_of (by rw [← r1.length]; exact hl), fun p hp => g M1 _ (.lst x) (.ref p) (s1.trans (stp_new hp)) (ok_new ok1 hp)
    (.lst (SqL.of (fz_of (ok1.fresh hp) upd_same)) (RepL.mono (stp_new hp).same _ _ r1)) h1⟩
/-- a list that will change: at p -/
theorem ae_lstM {ta : TA} {Ψ : PsiE} (h : AA K W Χ Δ ta M fun xs M1 => xs.length ≤ 100000 ∧ ∀ p, M1 p = none → Ψ (.ref p) (M1.set p (.lst xs))) : AE K W Χ Δ (tLst ta) M Ψ := fun σ H ok sl gx Q g =>
  h σ H ok sl gx _ fun M1 H1 x v s1 ok1 r1 ⟨hl, h1⟩ => ⟨Evl.sz_of (by rw [← r1.length]; exact hl), fun p hp =>
    let s2 : Stp M1 H1 (M1.set p (.lst x)) (upd H1 p (.lst v)) := stp_newM hp
    g (M1.set p (.lst x)) _ (.ref p) (.ref p) (s1.trans s2) (ok_set ok1 s2 ⟨v, upd_same, RepL.mono s2.same _ _ r1⟩) (.ref p) (h1 p (ok1.fresh hp))⟩
end
end T2
namespace T2
open PySem L2

theorem fz_sub {M : Mem} {H : Hp} : Same (Fz M H) H := fun _ _ h => (of_fz h).2

/-! ### trees as plain data -/
mutual
def toP : D → PyData
  | .non => .none
  | .bl b => .bool b
  | .int i => .int i
  | .str x => .str x
  | .tup ds => .tuple (toPs ds)
  | .lst ds => .list (toPs ds)
  | .ref _ => .none
  | .ty _ => .none
  | .obj _ _ => .none
  | .raw _ => .none
  | .xtup _ => .none
  | .exc _ _ _ => .none
def toPs : List D → List PyData
  | [] => []
  | d :: ds => toP d :: toPs ds
end
mutual
/-- plain data of at most n levels -/
def good : Nat → D → Bool
  | _, .non => true
  | _, .bl _ => true
  | _, .int _ => true
  | _, .str x => PyData.strOk x
  | n + 1, .tup ds => goods n ds
  | n + 1, .lst ds => goods n ds
  | 0, .tup _ => false
  | 0, .lst _ => false
  | _, .ref _ => false
  | _, .ty _ => false
  | _, .obj _ _ => false
  | _, .raw _ => false
  | _, .xtup _ => false
  | _, .exc _ _ _ => false
def goods : Nat → List D → Bool
  | _, [] => true
  | n, d :: ds => good n d && goods n ds
end
section
variable {K : PySem.W.Frag} {F H : Hp}
mutual
theorem dp_of (e : Same F H) : ∀ (d : D) (n : Nat) (v : V), good n d = true → Rep K F d v → Dp K H v (toP d)
  | .non, _, _, _, r => by cases r; simp only [toP]; exact .non
  | .bl b, _, _, _, r => by cases r; simp only [toP]; exact .bl b
  | .int i, _, _, _, r => by cases r; simp only [toP]; exact .int i
  | .str x, _, _, _, r => by cases r; simp only [toP]; exact .str x
  | .tup ds, 0, _, g, r => by simp [good] at g
  | .tup ds, n + 1, _, g, r => by
    cases r with
    | tup s r =>
      simp only [toP]
      exact .tup (sqT_mono e s) (dps_of e ds n _ (by simpa only [good] using g) r)
  | .lst ds, 0, _, g, r => by simp [good] at g
  | .lst ds, n + 1, _, g, r => by
    cases r with
    | lst s r =>
      simp only [toP]
      exact .lst (sqL_mono e s) (dps_of e ds n _ (by simpa only [good] using g) r)
  | .ref _, n, _, g, r => by simp [good] at g
  | .ty _, n, _, g, r => by simp [good] at g
  | .obj _ _, n, _, g, r => by simp [good] at g
  | .raw _, n, _, g, r => by simp [good] at g
  | .xtup _, n, _, g, r => by simp [good] at g
  | .exc _ _ _, n, _, g, r => by simp [good] at g
theorem dps_of (e : Same F H) : ∀ (ds : List D) (n : Nat) (vs : List V), goods n ds = true → RepL K F ds vs → DpAll K H vs (toPs ds)
  | [], _, _, _, r => by cases r; simp only [toPs]; exact .nil
  | d :: ds, n, _, g, r => by
    simp only [goods, Bool.and_eq_true] at g
    cases r with
    | cons h1 h2 =>
      simp only [toPs]
      exact .cons (dp_of e d n _ g.1 h1) (dps_of e ds n _ g.2 h2)
end
mutual
theorem can_of : ∀ (d : D) (n : Nat), good n d = true → (toP d).canLay0 = true ∧ (toP d).depth ≤ n
  | .non, n, _ => by simp [toP, PyData.canLay0, PyData.depth]
  | .bl b, n, _ => by simp [toP, PyData.canLay0, PyData.depth]
  | .int i, n, _ => by simp [toP, PyData.canLay0, PyData.depth]
  | .str x, n, g => by simp only [toP, PyData.canLay0, PyData.depth, good] at *; exact ⟨g, Nat.zero_le _⟩
  | .tup ds, 0, g => by simp [good] at g
  | .tup ds, n + 1, g => by
    have h := cans_of ds n (by simpa only [good] using g)
    simp only [toP, PyData.canLay0, PyData.depth]
    exact ⟨h.1, by omega⟩
  | .lst ds, 0, g => by simp [good] at g
  | .lst ds, n + 1, g => by
    have h := cans_of ds n (by simpa only [good] using g)
    simp only [toP, PyData.canLay0, PyData.depth]
    exact ⟨h.1, by omega⟩
  | .ref _, n, g => by simp [good] at g
  | .ty _, n, g => by simp [good] at g
  | .obj _ _, n, g => by simp [good] at g
  | .raw _, n, g => by simp [good] at g
  | .xtup _, n, g => by simp [good] at g
  | .exc _ _ _, n, g => by simp [good] at g
theorem cans_of : ∀ (ds : List D) (n : Nat), goods n ds = true → PyData.canLayAll0 (toPs ds) = true ∧ PyData.depthAll (toPs ds) ≤ n
  | [], n, _ => by simp [toPs, PyData.canLayAll0, PyData.depthAll]
  | d :: ds, n, g => by
    simp only [goods, Bool.and_eq_true] at g
    have h1 := can_of d n g.1
    have h2 := cans_of ds n g.2
    simp only [toPs, PyData.canLayAll0, PyData.depthAll, h1.1, h2.1, Bool.and_self]
    exact ⟨trivial, by omega⟩
end
theorem shaped_of {d : D} {n : Nat} (g : good n d = true) (hn : n ≤ 64) : SeqAt.shaped (toP d) = true := by
  have h := can_of d n g
  unfold SeqAt.shaped
  rw [h.1, Bool.true_and]
  exact decide_eq_true (Nat.le_trans h.2 hn)
end
/-- x == y -/
def eqD (x y : D) : Bool := PyData.eqv (toP x) (toP y)

section
variable {K : PySem.W.Frag} {W : WX} {Χ : Exc} {Δ : Sls} {M : Mem} {Ψ : PsiE} {i j : Int} {x y : D}
/-! ### operators -/
theorem ar_I0 {g : Int → Int → V} {d : D} (hd : ∀ F, Rep K F d (g i j)) (k : Ψ d M) : AR2 K (rI0 g) (.int i) (.int j) M Ψ := fun H v u ok r1 r2 Q q => by
  cases r1; cases r2
  exact ⟨i, j, rfl, rfl, q.here ok (hd _) k⟩
theorem ar_I {C : Int → Int → Prop} {g : Int → Int → V} {d : D} (hc : C i j) (hd : ∀ F, Rep K F d (g i j)) (k : Ψ d M) : AR2 K (rI C g) (.int i) (.int j) M Ψ := fun H v u ok r1 r2 Q q => by
  cases r1; cases r2
  exact ⟨i, j, rfl, rfl, hc, q.here ok (hd _) k⟩
theorem ar_add (k : Ψ (.int (i + j)) M) : AR2 K (rI0 fun i j => .int (i + j)) (.int i) (.int j) M Ψ := ar_I0 (fun _ => .int _) k
theorem ar_sub (k : Ψ (.int (i - j)) M) : AR2 K (rI0 fun i j => .int (i - j)) (.int i) (.int j) M Ψ := ar_I0 (fun _ => .int _) k
theorem ar_mul (h : CMul i j) (k : Ψ (.int (i * j)) M) : AR2 K (rI CMul fun i j => .int (i * j)) (.int i) (.int j) M Ψ := ar_I h (fun _ => .int _) k
theorem ar_mod (h : 0 < j) (k : Ψ (.int (i % j)) M) : AR2 K (rI (fun _ j => 0 < j) fun i j => .int (i % j)) (.int i) (.int j) M Ψ := ar_I (C := fun _ j => 0 < j) h (fun _ => .int _) k
theorem ar_fdiv (h : CDiv i j) (k : Ψ (.int (i / j)) M) : AR2 K (rI CDiv fun i j => .int (i / j)) (.int i) (.int j) M Ψ := ar_I h (fun _ => .int _) k
theorem ar_pow (h : CPow i j) (k : Ψ (.int (i ^ j.toNat)) M) : AR2 K (rI CPow fun i j => .int (i ^ j.toNat)) (.int i) (.int j) M Ψ := ar_I h (fun _ => .int _) k
theorem ar_lt (k : Ψ (.bl (decide (i < j))) M) : AR2 K (rI0 fun i j => .bl (decide (i < j))) (.int i) (.int j) M Ψ := ar_I0 (fun _ => .bl _) k
theorem ar_le (k : Ψ (.bl (decide (i ≤ j))) M) : AR2 K (rI0 fun i j => .bl (decide (i ≤ j))) (.int i) (.int j) M Ψ := ar_I0 (fun _ => .bl _) k
theorem ar_gt (k : Ψ (.bl (decide (j < i))) M) : AR2 K (rI0 fun i j => .bl (decide (j < i))) (.int i) (.int j) M Ψ := ar_I0 (fun _ => .bl _) k
theorem ar_ge (k : Ψ (.bl (decide (j ≤ i))) M) : AR2 K (rI0 fun i j => .bl (decide (j ≤ i))) (.int i) (.int j) M Ψ := ar_I0 (fun _ => .bl _) k
theorem ar_eqI (k : Ψ (.bl (decide (i = j))) M) : AR2 K rEq (.int i) (.int j) M Ψ := fun H v u ok r1 r2 Q q => by
  cases r1; cases r2
  exact ⟨rfl, by
    have e : decide (V.int i = V.int j) = decide (i = j) := by simp
    rw [e]
    exact q.here ok (.bl _) k⟩
theorem ar_neI (k : Ψ (.bl (!decide (i = j))) M) : AR2 K rNe (.int i) (.int j) M Ψ := fun H v u ok r1 r2 Q q => by
  cases r1; cases r2
  exact ⟨rfl, by
    have e : decide (V.int i = V.int j) = decide (i = j) := by simp
    rw [e]
    exact q.here ok (.bl _) k⟩
theorem ar_eqS {s t : Str} (k : Ψ (.bl (decide (s = t))) M) : AR2 K rEq (.str s) (.str t) M Ψ := fun H v u ok r1 r2 Q q => by
  cases r1; cases r2
  exact ⟨rfl, by
    have e : decide (V.str s = V.str t) = decide (s = t) := by simp
    rw [e]
    exact q.here ok (.bl _) k⟩
theorem ar_neS {s t : Str} (k : Ψ (.bl (!decide (s = t))) M) : AR2 K rNe (.str s) (.str t) M Ψ := fun H v u ok r1 r2 Q q => by
  cases r1; cases r2
  exact ⟨rfl, by
    have e : decide (V.str s = V.str t) = decide (s = t) := by simp
    rw [e]
    exact q.here ok (.bl _) k⟩
/-- == of plain data -/
theorem ar_eqD {n m : Nat} (gx : good n x = true) (gy : good m y = true) (hn : n ≤ 64) (hm : m ≤ 64) (k : Ψ (.bl (eqD x y)) M) : AR2 K (rEqD K) x y M Ψ := fun H v u ok r1 r2 Q q =>
  ⟨toP x, toP y, dp_of fz_sub x n v gx r1, dp_of fz_sub y m u gy r2, shaped_of gx hn, shaped_of gy hm, q.here ok (.bl _) k⟩
theorem ar_neD {n m : Nat} (gx : good n x = true) (gy : good m y = true) (hn : n ≤ 64) (hm : m ≤ 64) (k : Ψ (.bl (!eqD x y)) M) : AR2 K (rNeD K) x y M Ψ := fun H v u ok r1 r2 Q q =>
  ⟨toP x, toP y, dp_of fz_sub x n v gx r1, dp_of fz_sub y m u gy r2, shaped_of gx hn, shaped_of gy hm, q.here ok (.bl _) k⟩
def isNon : D → Bool
  | .non => true
  | _ => false
theorem rep_non {F : Hp} {d : D} {v : V} (r : Rep K F d v) : decide (v = .non) = isNon d := by
  cases r <;> simp [isNon]
theorem ar_isN (k : Ψ (.bl (isNon x)) M) : AR2 K (fun x y H Q => y = .non ∧ Q (.bl (decide (x = .non))) H) x .non M Ψ := fun H v u ok r1 r2 Q q => by
  cases r2
  exact ⟨rfl, by rw [rep_non r1]; exact q.here ok (.bl _) k⟩
theorem ar_notN (k : Ψ (.bl (!isNon x)) M) : AR2 K (fun x y H Q => y = .non ∧ Q (.bl (!decide (x = .non))) H) x .non M Ψ := fun H v u ok r1 r2 Q q => by
  cases r2
  exact ⟨rfl, by rw [rep_non r1]; exact q.here ok (.bl _) k⟩
/-! ### items -/
theorem ar_ixT {ds : List D} {d : D} (h : atI ds i = some d) (k : Ψ d M) : AR2 K (rIxT K) (.tup ds) (.int i) M Ψ := fun H v u ok r1 r2 Q q => by
  cases r2
  cases r1 with
  | tup s r =>
    rename_i a vs
    have hl := r.length
    unfold atI at h
    cases e : ixN ds.length i with
    | none => rw [e] at h; cases h
    | some n =>
      rw [e] at h
      obtain ⟨w, a1, b1⟩ := r.get (show ds[n]? = some d from h)
      exact ⟨a, vs, i, w, rfl, rfl, sqT_mono fz_sub s, by unfold atI; rw [← hl, e]; exact a1, q.here ok b1 k⟩
theorem ar_ixL {ds : List D} {d : D} (h : atI ds i = some d) (k : Ψ d M) : AR2 K (rIxL K) (.lst ds) (.int i) M Ψ := fun H v u ok r1 r2 Q q => by
  cases r2
  cases r1 with
  | lst s r =>
    rename_i a vs
    have hl := r.length
    unfold atI at h
    cases e : ixN ds.length i with
    | none => rw [e] at h; cases h
    | some n =>
      rw [e] at h
      obtain ⟨w, a1, b1⟩ := r.get (show ds[n]? = some d from h)
      exact ⟨a, vs, i, w, rfl, rfl, sqL_mono fz_sub s, by unfold atI; rw [← hl, e]; exact a1, q.here ok b1 k⟩
/-- of a list that may change -/
theorem ar_ixM {ds : List D} {d : D} {p : Addr} (hm : M p = some (.lst ds)) (h : atI ds i = some d) (k : Ψ d M) : AR2 K (rIxL K) (.ref p) (.int i) M Ψ := fun H v u ok r1 r2 Q q => by
  cases r2
  cases r1
  obtain ⟨vs, hp, r⟩ := ok p _ hm
  have hl := r.length
  unfold atI at h
  cases e : ixN ds.length i with
  | none => rw [e] at h; cases h
  | some n =>
    rw [e] at h
    obtain ⟨w, a1, b1⟩ := r.get (show ds[n]? = some d from h)
    exact ⟨p, vs, i, w, rfl, rfl, SqL.of hp, by unfold atI; rw [← hl, e]; exact a1, q.here ok b1 k⟩
/-- any of the three -/
theorem ar_or1 {r r' : R2} (h : AR2 K r x y M Ψ) : AR2 K (fun x y H Q => r x y H Q ∨ r' x y H Q) x y M Ψ := fun H v u ok r1 r2 Q q => .inl (h H v u ok r1 r2 Q q)
theorem ar_or2 {r r' : R2} (h : AR2 K r' x y M Ψ) : AR2 K (fun x y H Q => r x y H Q ∨ r' x y H Q) x y M Ψ := fun H v u ok r1 r2 Q q => .inr (h H v u ok r1 r2 Q q)
theorem ar_ix_L (h : AR2 K (rIxL K) x y M Ψ) : AR2 K (rIx K) x y M Ψ := fun H v u ok r1 r2 Q q => .inl (h H v u ok r1 r2 Q q)
theorem ar_ix_T (h : AR2 K (rIxT K) x y M Ψ) : AR2 K (rIx K) x y M Ψ := fun H v u ok r1 r2 Q q => .inr (.inl (h H v u ok r1 r2 Q q))
theorem ar_ixS {z : Str} {c : Nat} (hz : z.length ≤ 100000) (h : atI z.cps.toList i = some c) (k : Ψ (.str ⟨#[c]⟩) M) : AR2 K (rIx K) (.str z) (.int i) M Ψ := fun H v u ok r1 r2 Q q => by
  cases r1; cases r2
  exact .inr (.inr ⟨z, i, c, rfl, rfl, Evl.sz_of hz, h, q.here ok (.str _) k⟩)

/-! ### tests -/
theorem at_test {te : TE} {Φ : Bool → Mem → Prop} (h : AE K W Χ Δ te M fun x M' => ∃ b, x = .bl b ∧ Φ b M') : AT K W Χ Δ (tTest te) M Φ := fun σ H ok sl gx Q g =>
  h σ H ok sl gx _ fun M' H' d v s ok' r ⟨b, e, p⟩ => by
    subst e
    cases r
    exact ⟨b, rfl, g M' H' b s ok' p⟩
theorem at_B {te : TE} {Φ : Bool → Mem → Prop} (h : AE K W Χ Δ te M fun x M' => ∃ b, x = .bl b ∧ Φ b M') : AT K W Χ Δ (tB te) M Φ := fun σ H ok sl gx Q g =>
  h σ H ok sl gx _ fun M' H' d v s ok' r ⟨b, e, p⟩ => by
    subst e
    cases r
    exact ⟨b, rfl, g M' H' b s ok' p⟩
theorem at_and {t u : TT} {Φ : Bool → Mem → Prop} (h : AT K W Χ Δ t M fun a M1 => if a = true then AT K W Χ Δ u M1 Φ else Φ false M1) : AT K W Χ Δ (tAnd t u) M Φ := fun σ H ok sl gx Q g =>
  h σ H ok sl gx _ fun M1 H1 a s1 ok1 h1 => by
    cases a with
    | true =>
      rw [if_pos rfl] at h1 ⊢
      exact h1 σ H1 ok1 (sl.mono s1.same) (gx.step s1) Q (g.step s1)
    | false =>
      rw [if_neg Bool.false_ne_true] at h1 ⊢
      exact g M1 H1 false s1 ok1 h1
theorem at_or {t u : TT} {Φ : Bool → Mem → Prop} (h : AT K W Χ Δ t M fun a M1 => if a = true then Φ true M1 else AT K W Χ Δ u M1 Φ) : AT K W Χ Δ (tOr t u) M Φ := fun σ H ok sl gx Q g =>
  h σ H ok sl gx _ fun M1 H1 a s1 ok1 h1 => by
    cases a with
    | true =>
      rw [if_pos rfl] at h1 ⊢
      exact g M1 H1 true s1 ok1 h1
    | false =>
      rw [if_neg Bool.false_ne_true] at h1 ⊢
      exact h1 σ H1 ok1 (sl.mono s1.same) (gx.step s1) Q (g.step s1)
theorem at_not {t : TT} {Φ : Bool → Mem → Prop} (h : AT K W Χ Δ t M fun a M1 => Φ (!a) M1) : AT K W Χ Δ (tNot t) M Φ := fun σ H ok sl gx Q g =>
  h σ H ok sl gx _ fun M1 H1 a s1 ok1 h1 => g M1 H1 (!a) s1 ok1 h1
theorem ae_andV {ta tb : TE} (h : AE K W Χ Δ ta M fun x M1 => ∃ a, x = .bl a ∧ if a = true then AE K W Χ Δ tb M1 Ψ else Ψ (.bl false) M1) : AE K W Χ Δ (tAndV ta tb) M Ψ := fun σ H ok sl gx Q g =>
  h σ H ok sl gx _ fun M1 H1 d v s1 ok1 r ⟨a, e, h1⟩ => by
    subst e
    cases r
    refine ⟨a, rfl, ?_⟩
    cases a with
    | true =>
      rw [if_pos rfl] at h1 ⊢
      exact h1 σ H1 ok1 (sl.mono s1.same) (gx.step s1) Q (g.step s1)
    | false =>
      rw [if_neg Bool.false_ne_true] at h1 ⊢
      exact g M1 H1 _ _ s1 ok1 (.bl false) h1
theorem ae_orV {ta tb : TE} (h : AE K W Χ Δ ta M fun x M1 => ∃ a, x = .bl a ∧ if a = true then Ψ (.bl true) M1 else AE K W Χ Δ tb M1 Ψ) : AE K W Χ Δ (tOrV ta tb) M Ψ := fun σ H ok sl gx Q g =>
  h σ H ok sl gx _ fun M1 H1 d v s1 ok1 r ⟨a, e, h1⟩ => by
    subst e
    cases r
    refine ⟨a, rfl, ?_⟩
    cases a with
    | true =>
      rw [if_pos rfl] at h1 ⊢
      exact g M1 H1 _ _ s1 ok1 (.bl true) h1
    | false =>
      rw [if_neg Bool.false_ne_true] at h1 ⊢
      exact h1 σ H1 ok1 (sl.mono s1.same) (gx.step s1) Q (g.step s1)
theorem ae_notV {ta : TE} (h : AE K W Χ Δ ta M fun x M1 => ∃ a, x = .bl a ∧ Ψ (.bl (!a)) M1) : AE K W Χ Δ (tNotV ta) M Ψ := fun σ H ok sl gx Q g =>
  h σ H ok sl gx _ fun M1 H1 d v s1 ok1 r ⟨a, e, h1⟩ => by
    subst e
    cases r
    exact ⟨a, rfl, g M1 H1 _ _ s1 ok1 (.bl (!a)) h1⟩
theorem ae_if {t : TT} {ta tb : TE} (h : AT K W Χ Δ t M fun a M1 => if a = true then AE K W Χ Δ ta M1 Ψ else AE K W Χ Δ tb M1 Ψ) : AE K W Χ Δ (tIf t ta tb) M Ψ := fun σ H ok sl gx Q g =>
  h σ H ok sl gx _ fun M1 H1 a s1 ok1 h1 => by
    cases a with
    | true =>
      rw [if_pos rfl] at h1 ⊢
      exact h1 σ H1 ok1 (sl.mono s1.same) (gx.step s1) Q (g.step s1)
    | false =>
      rw [if_neg Bool.false_ne_true] at h1 ⊢
      exact h1 σ H1 ok1 (sl.mono s1.same) (gx.step s1) Q (g.step s1)
/-- a op1 b op2 c -/
theorem ae_chain {r r' : R2} {ta tb tc : TE} (h : AE K W Χ Δ ta M fun x M1 => AE K W Χ Δ tb M1 fun y M2 => AR2 K r x y M2 fun z M3 => ∃ k, z = .bl k ∧ if k = true then AE K W Χ Δ tc M3 (fun w M4 => AR2 K r' y w M4 Ψ) else Ψ (.bl false) M3) :
    AE K W Χ Δ (tChain r r' ta tb tc) M Ψ := fun σ H ok sl gx Q g =>
  h σ H ok sl gx _ fun M1 H1 x v s1 ok1 r1 h1 => h1 σ H1 ok1 (sl.mono s1.same) (gx.step s1) _ fun M2 H2 y u s2 ok2 r2 h2 => h2 H2 v u ok2 (Rep.mono s2.same _ _ r1) r2 _ fun M3 H3 d w s3 ok3 r3 ⟨k, e, h3⟩ => by
    subst e
    cases r3
    refine ⟨k, rfl, ?_⟩
    have s13 := (s1.trans s2).trans s3
    cases k with
    | true =>
      rw [if_pos rfl] at h3 ⊢
      exact h3 σ H3 ok3 (sl.mono s13.same) (gx.step s13) _ fun M4 H4 d4 v4 s4 ok4 r4 h4 => h4 H4 u v4 ok4 (Rep.mono (s3.trans s4).same _ _ r2) r4 Q (g.step (s13.trans s4))
    | false =>
      rw [if_neg Bool.false_ne_true] at h3 ⊢
      exact g M3 H3 _ _ s13 ok3 (.bl false) h3

/-! ### calls of built-ins by values -/
theorem ae_cb {r : List V → Hp → VK → Prop} {ta : TA} (h : AA K W Χ Δ ta M fun xs M1 => ARL K r xs M1 Ψ) : AE K W Χ Δ (tCB r ta) M Ψ := fun σ H ok sl gx Q g =>
  h σ H ok sl gx _ fun M1 H1 xs vs s1 ok1 r1 h1 => h1 H1 vs ok1 r1 Q (g.step s1)
end
end T2
namespace T2
open PySem L2 RZ

/-! ### statements -/
structure Post where
  nx : Sls → Mem → Prop
  rt : PsiE
  bk : Sls → Mem → Prop := fun _ _ => False
  ct : Sls → Mem → Prop := fun _ _ => False
  xr : Value → List (Str × D) → Sls → Mem → Prop := fun _ _ _ _ => False
def GoodS (K : PySem.W.Frag) (M : Mem) (H : Hp) (Φ : Sls → Mem → Prop) (Q : St → Hp → Prop) : Prop :=
  ∀ Δ' M' σ' H', Stp M H M' H' → Ok K M' H' → Slots K (Fz M' H') Δ' σ' → Φ Δ' M' → Q σ' H'
structure GoodP (K : PySem.W.Frag) (W : WX) (M : Mem) (H : Hp) (P : Post) (D : Ends) : Prop where
  nx : GoodS K M H P.nx D.nx
  rt : GoodV K M H P.rt D.rt
  bk : GoodS K M H P.bk D.bk
  ct : GoodS K M H P.ct D.ct
  xr : ∀ Δ' M' σ' H' cls d fs vs, Stp M H M' H' → Ok K M' H' → Slots K (Fz M' H') Δ' σ' → H' d = some (.xd vs) → M' d = none → RepF K (Fz M' H') fs vs → P.xr cls fs Δ' M' → W cls (some d) σ' H'
def AS (K : PySem.W.Frag) (W : WX) (ts : TS) (P : Post) (Δ : Sls) (M : Mem) : Prop :=
  ∀ σ H, Ok K M H → Slots K (Fz M H) Δ σ → ∀ D : Ends, GoodP K W M H P D → ts D σ H
/-- a target -/
def AG (K : PySem.W.Frag) (W : WX) (xr : Value → List (Str × D) → Sls → Mem → Prop) (g : TG) (d : D) (Δ : Sls) (M : Mem) (Φ : Sls → Mem → Prop) : Prop :=
  ∀ σ H v, Ok K M H → Slots K (Fz M H) Δ σ → Rep K (Fz M H) d v → GoodX K W M H σ (fun cls fs M' => xr cls fs Δ M') → ∀ Q : St → Hp → Prop, GoodS K M H Φ Q → g v σ H Q
def AGs (K : PySem.W.Frag) (W : WX) (xr : Value → List (Str × D) → Sls → Mem → Prop) (g : TGs) (ds : List D) (Δ : Sls) (M : Mem) (Φ : Sls → Mem → Prop) : Prop :=
  ∀ σ H vs, Ok K M H → Slots K (Fz M H) Δ σ → RepL K (Fz M H) ds vs → (∀ Δ' M' σ' H', Stp M H M' H' → Ok K M' H' → Slots K (Fz M' H') Δ' σ' → GoodX K W M' H' σ' (fun cls fs M' => xr cls fs Δ' M')) → ∀ Q : St → Hp → Prop, GoodS K M H Φ Q → g vs σ H Q

section
variable {K : PySem.W.Frag} {W : WX} {M M1 : Mem} {H H1 : Hp} {P : Post} {Dd : Ends} {Δ : Sls} {σ : St} {t u : TS} {te : TE} {g : TG}
theorem GoodS.step {Φ : Sls → Mem → Prop} {Q : St → Hp → Prop} (s : Stp M H M1 H1) (g : GoodS K M H Φ Q) : GoodS K M1 H1 Φ Q := fun Δ' M' σ' H' s' ok sl p => g Δ' M' σ' H' (s.trans s') ok sl p
theorem GoodP.step (s : Stp M H M1 H1) (g : GoodP K W M H P Dd) : GoodP K W M1 H1 P Dd :=
  ⟨g.nx.step s, g.rt.step s, g.bk.step s, g.ct.step s, fun Δ' M' σ' H' cls d fs vs s' ok sl a b c p => g.xr Δ' M' σ' H' cls d fs vs (s.trans s') ok sl a b c p⟩
theorem GoodP.x (g : GoodP K W M H P Dd) (sl : Slots K (Fz M H) Δ σ) : GoodX K W M H σ (fun cls fs M' => P.xr cls fs Δ M') :=
  fun M' H' cls d fs vs s' ok a b c p => g.xr Δ M' σ H' cls d fs vs s' ok (sl.mono s'.same) a b c p
theorem GoodS.here {Φ : Sls → Mem → Prop} {Q : St → Hp → Prop} (g : GoodS K M H Φ Q) (ok : Ok K M H) (sl : Slots K (Fz M H) Δ σ) (p : Φ Δ M) : Q σ H := g Δ M σ H (Stp.refl M H) ok sl p
theorem AS.mono {P' : Post} (h : AS K W t P Δ M) (hn : ∀ Δ' M', P.nx Δ' M' → P'.nx Δ' M') (hr : ∀ d M', P.rt d M' → P'.rt d M') (hb : ∀ Δ' M', P.bk Δ' M' → P'.bk Δ' M') (hc : ∀ Δ' M', P.ct Δ' M' → P'.ct Δ' M')
    (hx : ∀ c f Δ' M', P.xr c f Δ' M' → P'.xr c f Δ' M') : AS K W t P' Δ M := fun σ H ok sl D g => h σ H ok sl D
  ⟨fun Δ' M' σ' H' s o l p => g.nx Δ' M' σ' H' s o l (hn _ _ p), fun M' H' d v s o l p => g.rt M' H' d v s o l (hr _ _ p), fun Δ' M' σ' H' s o l p => g.bk Δ' M' σ' H' s o l (hb _ _ p), fun Δ' M' σ' H' s o l p => g.ct Δ' M' σ' H' s o l (hc _ _ p),
    fun Δ' M' σ' H' cls d fs vs s' ok sl a b c p => g.xr Δ' M' σ' H' cls d fs vs s' ok sl a b c (hx _ _ _ _ p)⟩
/-- what stands in memory may be forgotten ahead of a statement -/
theorem AS.less {M' : Mem} (hl : ∀ a m, M' a = some m → M a = some m) (h : AS K W t P Δ M') : AS K W t P Δ M := fun σ H ok sl D g => h σ H (ok_less ok hl) (sl.mono (stp_less hl).same) D (g.step (stp_less hl))
theorem AE.less {M' : Mem} {Χ : Exc} {Ψ : PsiE} (hl : ∀ a m, M' a = some m → M a = some m) (h : AE K W Χ Δ te M' Ψ) : AE K W Χ Δ te M Ψ := fun σ H ok sl gx Q g => h σ H (ok_less ok hl) (sl.mono (stp_less hl).same) (gx.step (stp_less hl)) Q (g.step (stp_less hl))
/-- slots may be forgotten -/
theorem AS.weak {Δ' : Sls} (hl : Δ'.length = Δ.length) (w : ∀ (i : Nat) (d : D), Δ'[i]? = some (some d) → Δ[i]? = some (some d)) (h : AS K W t P Δ' M) : AS K W t P Δ M := fun σ H ok sl D g => h σ H ok (sl.weak hl w) D g

theorem as_next (k : P.nx Δ M) : AS K W tNext P Δ M := fun σ H ok sl D g => g.nx.here ok sl k
theorem as_brk (k : P.bk Δ M) : AS K W tBreak P Δ M := fun σ H ok sl D g => g.bk.here ok sl k
theorem as_cont (k : P.ct Δ M) : AS K W tCont P Δ M := fun σ H ok sl D g => g.ct.here ok sl k
theorem as_seq (h : AS K W t { P with nx := fun Δ' M' => AS K W u P Δ' M' } Δ M) : AS K W (tSeq t u) P Δ M := fun σ H ok sl D g =>
  h σ H ok sl { D with nx := u D } ⟨fun Δ' M' σ' H' s o l p => p σ' H' o l D (g.step s), g.rt, g.bk, g.ct, g.xr⟩
theorem as_drop (h : AE K W (fun c f M' => P.xr c f Δ M') Δ te M fun _ M1 => P.nx Δ M1) : AS K W (tDrop te) P Δ M := fun σ H ok sl D g =>
  h σ H ok sl (g.x sl) _ fun M1 H1 d v s1 ok1 r1 p => g.nx Δ M1 σ H1 s1 ok1 (sl.mono s1.same) p
theorem as_ret (h : AE K W (fun c f M' => P.xr c f Δ M') Δ te M P.rt) : AS K W (tRet te) P Δ M := fun σ H ok sl D g => h σ H ok sl (g.x sl) _ g.rt
theorem as_retN (k : P.rt .non M) : AS K W tRetN P Δ M := fun σ H ok sl D g => g.rt.here ok .non k
theorem as_if {c : TT} (h : AT K W (fun c f M' => P.xr c f Δ M') Δ c M fun b M1 => if b = true then AS K W t P Δ M1 else AS K W u P Δ M1) : AS K W (tIfS c t u) P Δ M := fun σ H ok sl D g =>
  h σ H ok sl (g.x sl) _ fun M1 H1 b s1 ok1 p => by
    cases b with
    | true =>
      rw [if_pos rfl] at p ⊢
      exact p σ H1 ok1 (sl.mono s1.same) D (g.step s1)
    | false =>
      rw [if_neg Bool.false_ne_true] at p ⊢
      exact p σ H1 ok1 (sl.mono s1.same) D (g.step s1)
theorem as_asg (h : AE K W (fun c f M' => P.xr c f Δ M') Δ te M fun d M1 => AG K W P.xr g d Δ M1 P.nx) : AS K W (tAsg te g) P Δ M := fun σ H ok sl D gp =>
  h σ H ok sl (gp.x sl) _ fun M1 H1 d v s1 ok1 r1 p => p σ H1 v ok1 (sl.mono s1.same) r1 ((gp.x sl).step s1) _ (gp.nx.step s1)
theorem as_set {i : Nat} (h : AE K W (fun c f M' => P.xr c f Δ M') Δ te M fun d M1 => P.nx (Δ.set i (some d)) M1) : AS K W (tAsg te (gName i)) P Δ M := fun σ H ok sl D gp =>
  h σ H ok sl (gp.x sl) _ fun M1 H1 d v s1 ok1 r1 p => gp.nx _ M1 _ H1 s1 ok1 ((sl.mono s1.same).set r1) p
theorem ag_name {xr : Value → List (Str × D) → Sls → Mem → Prop} {i : Nat} {d : D} {Φ : Sls → Mem → Prop} (k : Φ (Δ.set i (some d)) M) : AG K W xr (gName i) d Δ M Φ := fun σ H v ok sl r gx Q g => g.here ok (sl.set r) k
theorem ags_nil {xr : Value → List (Str × D) → Sls → Mem → Prop} {Φ : Sls → Mem → Prop} (k : Φ Δ M) : AGs K W xr gNil [] Δ M Φ := fun σ H v ok sl r gx Q g => by
  cases r
  exact ⟨rfl, g.here ok sl k⟩
theorem ags_cons {xr : Value → List (Str × D) → Sls → Mem → Prop} {Φ : Sls → Mem → Prop} {g : TG} {gs : TGs} {d : D} {ds : List D} (h : AG K W xr g d Δ M fun Δ1 M1 => AGs K W xr gs ds Δ1 M1 Φ) : AGs K W xr (gCons g gs) (d :: ds) Δ M Φ := fun σ H vs ok sl r gx Q gd => by
  cases r with
  | cons r1 r2 =>
    exact ⟨_, _, rfl, h σ H _ ok sl r1 (gx Δ M σ H (Stp.refl M H) ok sl) _ fun Δ1 M1 σ1 H1 s1 ok1 sl1 p1 => p1 σ1 H1 _ ok1 sl1 (RepL.mono s1.same _ _ r2) (fun Δ' M' σ' H' s' o' l' => gx Δ' M' σ' H' (s1.trans s') o' l') Q (gd.step s1)⟩
/-- (a, b, ..) = a tuple -/
theorem ag_tup {xr : Value → List (Str × D) → Sls → Mem → Prop} {Φ : Sls → Mem → Prop} {n : Nat} {gs : TGs} {ds : List D} (hx : ∀ c f Δ' M', ¬ xr c f Δ' M') (hn : ds.length = n) (h : AGs K W xr gs ds Δ M Φ) : AG K W xr (gTup K n gs) (.tup ds) Δ M Φ := fun σ H v ok sl r gx Q g => by
  cases r with
  | tup s r =>
    exact ⟨_, _, rfl, sqT_mono fz_sub s, by rw [← r.length]; exact hn, h σ H _ ok sl r (fun Δ' M' σ' H' s' o' l' => fun _ _ _ _ _ _ _ _ _ _ _ p => (hx _ _ _ _ p).elim) Q g⟩
/-- xs[i] = v, of a list that may change -/
theorem ag_sub {xr : Value → List (Str × D) → Sls → Mem → Prop} {Φ : Sls → Mem → Prop} {to ti : TE} {d : D} (h : AE K W (fun c f M' => xr c f Δ M') Δ to M fun o M1 => AE K W (fun c f M' => xr c f Δ M') Δ ti M1 fun i M2 =>
    ∃ p ds k j, o = .ref p ∧ i = .int k ∧ M2 p = some (.lst ds) ∧ ixN ds.length k = some j ∧ Φ Δ (M2.set p (.lst (ds.set j d)))) : AG K W xr (gSub to ti rSetL) d Δ M Φ := fun σ H v ok sl r gx Q g =>
  h σ H ok sl gx _ fun M1 H1 o ov s1 ok1 r1 h1 => h1 σ H1 ok1 (sl.mono s1.same) (gx.step s1) _ fun M2 H2 i iv s2 ok2 r2 ⟨p, ds, k, j, e1, e2, hm, hj, k2⟩ => by
    subst e1 e2
    cases r1; cases r2
    obtain ⟨vs, hp, rl⟩ := ok2 p _ hm
    have s12 := s1.trans s2
    have s3 : Stp M2 H2 (M2.set p (.lst (ds.set j d))) (upd H2 p (.lst (vs.set j v))) := stp_mut hm
    refine ⟨p, vs, k, j, rfl, rfl, hp, by rw [← rl.length]; exact hj, ?_⟩
    exact g Δ _ σ _ (s12.trans s3) (ok_set ok2 s3 ⟨_, upd_same, RepL.mono s3.same _ _ (rl.set (Rep.mono s12.same _ _ r))⟩) (sl.mono (s12.trans s3).same) k2
/-- a, b = x, y -/
theorem as_par {i j : Nat} {ta : TA} (h : AA K W (fun c f M' => P.xr c f Δ M') Δ ta M fun xs M1 => ∃ x y, xs = [x, y] ∧ P.nx ((Δ.set i (some x)).set j (some y)) M1) : AS K W (tPar i j ta) P Δ M := fun σ H ok sl D gp =>
  h σ H ok sl (gp.x sl) _ fun M1 H1 xs vs s1 ok1 r1 ⟨x, y, e, p⟩ => by
    subst e
    cases r1 with
    | cons r1 r2 =>
      cases r2 with
      | cons r2 r3 =>
        cases r3
        exact ⟨_, _, rfl, gp.nx _ M1 _ H1 s1 ok1 (((sl.mono s1.same).set r1).set r2) p⟩
theorem as_par3 {i j l : Nat} {ta : TA} (h : AA K W (fun c f M' => P.xr c f Δ M') Δ ta M fun xs M1 => ∃ x y z, xs = [x, y, z] ∧ P.nx (((Δ.set i (some x)).set j (some y)).set l (some z)) M1) : AS K W (tPar3 i j l ta) P Δ M := fun σ H ok sl D gp =>
  h σ H ok sl (gp.x sl) _ fun M1 H1 xs vs s1 ok1 r1 ⟨x, y, z, e, p⟩ => by
    subst e
    cases r1 with
    | cons r1 r2 =>
      cases r2 with
      | cons r2 r3 =>
        cases r3 with
        | cons r3 r4 =>
          cases r4
          exact ⟨_, _, _, rfl, gp.nx _ M1 _ H1 s1 ok1 ((((sl.mono s1.same).set r1).set r2).set r3) p⟩
/-- name op= e, ints -/
theorem as_aug {i : Nat} {f : Int → Int → Int} {a : Int} (ha : Δ[i]? = some (some (.int a))) (h : AE K W (fun c f M' => P.xr c f Δ M') Δ te M fun d M1 => ∃ b, d = .int b ∧ P.nx (Δ.set i (some (.int (f a b)))) M1) : AS K W (tAug i te (ipI f)) P Δ M := fun σ H ok sl D gp => by
  obtain ⟨v, e, r⟩ := sl.get i _ ha
  cases r
  exact ⟨_, e, h σ H ok sl (gp.x sl) _ fun M1 H1 d v s1 ok1 r1 ⟨b, eb, p⟩ => by
    subst eb
    cases r1
    exact ⟨a, b, rfl, rfl, gp.nx _ M1 _ H1 s1 ok1 ((sl.mono s1.same).set (.int _)) p⟩⟩

/-! ### while, for -/
theorem as_while {c : TT} (I : Nat → Sls → Mem → Prop) (m0 : Nat) (h0 : I m0 Δ M)
    (hs : ∀ m Δ' M', I m Δ' M' → AT K W (fun c f M2 => P.xr c f Δ' M2) Δ' c M' fun b M1 => if b = true then AS K W t { P with nx := fun Δ2 M2 => ∃ m', m' < m ∧ I m' Δ2 M2, ct := fun Δ2 M2 => ∃ m', m' < m ∧ I m' Δ2 M2, bk := P.nx } Δ' M1 else P.nx Δ' M1) :
    AS K W (tWhile c t) P Δ M := fun σ H ok sl D gp => by
  refine ⟨fun m σ' H' => ∃ Δ' M', Stp M H M' H' ∧ Ok K M' H' ∧ Slots K (Fz M' H') Δ' σ' ∧ I m Δ' M', ⟨m0, Δ, M, Stp.refl M H, ok, sl, h0⟩, ?_⟩
  rintro m σ1 H1 ⟨Δ1, M1, s1, ok1, sl1, i1⟩
  refine hs m Δ1 M1 i1 σ1 H1 ok1 sl1 ((gp.step s1).x sl1) _ fun M2 H2 b s2 ok2 p => ?_
  have s12 := s1.trans s2
  cases b with
  | false =>
    rw [if_neg Bool.false_ne_true] at p ⊢
    exact gp.nx Δ1 M2 σ1 H2 s12 ok2 (sl1.mono s2.same) p
  | true =>
    rw [if_pos rfl] at p ⊢
    refine ⟨fun σ' H' => ∃ m' Δ' M', m' < m ∧ Stp M H M' H' ∧ Ok K M' H' ∧ Slots K (Fz M' H') Δ' σ' ∧ I m' Δ' M', fun σ' H' ⟨m', Δ', M', l, q⟩ => ⟨m', l, Δ', M', q⟩, ?_⟩
    refine p σ1 H2 ok2 (sl1.mono s2.same) _ ⟨?_, gp.rt.step s12, gp.nx.step s12, ?_, (gp.step s12).xr⟩
    · intro Δ' M' σ' H' s' o' l' ⟨m', lt, q⟩
      exact ⟨m', Δ', M', lt, s12.trans s', o', l', q⟩
    · intro Δ' M' σ' H' s' o' l' ⟨m', lt, q⟩
      exact ⟨m', Δ', M', lt, s12.trans s', o', l', q⟩

/-- what is walked gives these, one after another, whatever the turns do -/
structure WalkOk (K : PySem.W.Frag) (M : Mem) (H : Hp) (J : It) (xs : List D) : Prop where
  stop : ∀ M' H', Stp M H M' H' → Ok K M' H' → J.stop xs.length H'
  go : ∀ M' H' i, Stp M H M' H' → Ok K M' H' → i < xs.length → J.go i H'
  yld : ∀ M' H' i v H'', Stp M H M' H' → Ok K M' H' → i < xs.length → J.yld i H' v H'' → ∃ d, xs[i]? = some d ∧ Stp M' H' M' H'' ∧ Ok K M' H'' ∧ Rep K (Fz M' H'') d v
def AI (K : PySem.W.Frag) (W : WX) (Χ : Exc) (Δ : Sls) (wi : TI) (M : Mem) (Φ : List D → Mem → Prop) : Prop :=
  ∀ σ H, Ok K M H → Slots K (Fz M H) Δ σ → GoodX K W M H σ Χ → ∀ R : It → Hp → Prop, (∀ M' H' J xs, Stp M H M' H' → Ok K M' H' → WalkOk K M' H' J xs → Φ xs M' → R J H') → wi σ H R
theorem as_for {wi : TI} (h : AI K W (fun c f M' => P.xr c f Δ M') Δ wi M fun xs M1 => ∃ I : Nat → Sls → Mem → Prop, I 0 Δ M1 ∧
    (∀ i d Δ' M', xs[i]? = some d → I i Δ' M' → AG K W P.xr g d Δ' M' fun Δ2 M2 => AS K W t { P with nx := I (i + 1), ct := I (i + 1), bk := P.nx } Δ2 M2) ∧ (∀ Δ' M', I xs.length Δ' M' → P.nx Δ' M')) :
    AS K W (tFor wi g t) P Δ M := fun σ H ok sl D gp =>
  h σ H ok sl (gp.x sl) _ fun M1 H1 J xs s1 ok1 w ⟨I, i0, hs, hd⟩ => by
    refine ⟨fun i m σ' H' => m = xs.length - i ∧ i ≤ xs.length ∧ ∃ Δ' M', Stp M1 H1 M' H' ∧ Ok K M' H' ∧ Slots K (Fz M' H') Δ' σ' ∧ I i Δ' M', ⟨_, rfl, Nat.zero_le _, Δ, M1, Stp.refl M1 H1, ok1, sl.mono s1.same, i0⟩, ?_⟩
    rintro i m σ2 H2 ⟨rfl, hi, Δ2, M2, s2, ok2, sl2, i2⟩
    have s12 := s1.trans s2
    by_cases hlt : i < xs.length
    · refine .inr ⟨w.go M2 H2 i s2 ok2 hlt, fun σ' H' => i + 1 ≤ xs.length ∧ ∃ Δ' M', Stp M1 H1 M' H' ∧ Ok K M' H' ∧ Slots K (Fz M' H') Δ' σ' ∧ I (i + 1) Δ' M', fun σ' H' q => ⟨xs.length - (i + 1), by omega, rfl, q⟩, fun x H3 y => ?_⟩
      obtain ⟨d, hx, s3, ok3, r3⟩ := w.yld M2 H2 i x H3 s2 ok2 hlt y
      refine hs i d Δ2 M2 hx i2 σ2 H3 x ok3 (sl2.mono s3.same) r3 (((gp.step s12).x sl2).step s3) _ fun Δ4 M4 σ4 H4 s4 ok4 sl4 p4 => ?_
      have s14 := (s12.trans s3).trans s4
      have s24 := (s2.trans s3).trans s4
      refine p4 σ4 H4 ok4 sl4 _ ⟨?_, gp.rt.step s14, gp.nx.step s14, ?_, (gp.step s14).xr⟩
      · intro Δ' M' σ' H' s' o' l' q
        exact ⟨hlt, Δ', M', s24.trans s', o', l', q⟩
      · intro Δ' M' σ' H' s' o' l' q
        exact ⟨hlt, Δ', M', s24.trans s', o', l', q⟩
    · have e : i = xs.length := by omega
      subst e
      exact .inl ⟨w.stop M2 H2 s2 ok2, gp.nx Δ2 M2 σ2 H2 s12 ok2 sl2 (hd Δ2 M2 i2)⟩
variable {Χ : Exc}
theorem ai_tup {tl : TE} {Φ : List D → Mem → Prop} (h : AE K W Χ Δ tl M fun d M1 => ∃ xs, d = .tup xs ∧ Φ xs M1) : AI K W Χ Δ (iTup K tl) M Φ := fun σ H ok sl gx R q =>
  h σ H ok sl gx _ fun M1 H1 d v s1 ok1 r ⟨xs, e, p⟩ => by
    subst e
    cases r with
    | tup s r =>
      rename_i a vs
      have s' : ∀ {M' H'}, Stp M1 H1 M' H' → SqT K H' a vs := fun st => sqT_mono fz_sub (sqT_mono st.same s)
      refine ⟨a, rfl, ⟨vs, s' (Stp.refl _ _)⟩, q M1 H1 _ xs s1 ok1 ⟨fun M' H' st _ => ⟨vs, s' st, by rw [r.length]; exact Nat.le_refl _⟩, fun M' H' i st _ hi => ?_, fun M' H' i v H'' st ok' hi y => ?_⟩ p⟩
      · exact ⟨vs, vs[i]'(by rw [← r.length]; exact hi), s' st, by simp⟩
      · obtain ⟨e, y⟩ := y
        subst e
        have hv := y vs (s' st)
        obtain ⟨d, hd, rd⟩ := r.getV hv
        exact ⟨d, hd, Stp.refl _ _, ok', Rep.mono st.same _ _ rd⟩
theorem ai_lst {tl : TE} {Φ : List D → Mem → Prop} (h : AE K W Χ Δ tl M fun d M1 => ∃ xs, d = .lst xs ∧ Φ xs M1) : AI K W Χ Δ (iList K tl) M Φ := fun σ H ok sl gx R q =>
  h σ H ok sl gx _ fun M1 H1 d v s1 ok1 r ⟨xs, e, p⟩ => by
    subst e
    cases r with
    | lst s r =>
      rename_i a vs
      have s' : ∀ {M' H'}, Stp M1 H1 M' H' → SqL K H' a vs := fun st => sqL_mono fz_sub (sqL_mono st.same s)
      refine ⟨a, rfl, ⟨vs, s' (Stp.refl _ _)⟩, q M1 H1 _ xs s1 ok1 ⟨fun M' H' st _ => ⟨vs, s' st, by rw [r.length]; exact Nat.le_refl _⟩, fun M' H' i st _ hi => ?_, fun M' H' i v H'' st ok' hi y => ?_⟩ p⟩
      · exact ⟨vs, vs[i]'(by rw [← r.length]; exact hi), s' st, by simp⟩
      · obtain ⟨e, y⟩ := y
        subst e
        have hv := y vs (s' st)
        obtain ⟨d, hd, rd⟩ := r.getV hv
        exact ⟨d, hd, Stp.refl _ _, ok', Rep.mono st.same _ _ rd⟩
/-- lo, lo + 1, .. -/
def rngD (lo : Int) (n : Nat) : List D := (List.range n).map fun (i : Nat) => D.int (lo + (i : Int))
theorem rngD_length (lo : Int) (n : Nat) : (rngD lo n).length = n := by simp [rngD]
theorem rngD_get {lo : Int} {n i : Nat} {d : D} (h : (rngD lo n)[i]? = some d) : i < n ∧ d = .int (lo + (i : Int)) := by
  unfold rngD at h
  rw [List.getElem?_map] at h
  by_cases hi : i < n
  · rw [List.getElem?_range hi] at h
    exact ⟨hi, by simpa using h.symm⟩
  · rw [List.getElem?_eq_none (by simpa using hi)] at h
    cases h
theorem walk_rng {M : Mem} {H : Hp} (lo : Int) (n : Nat) : WalkOk K M H (Itr lo n) (rngD lo n) := ⟨fun M' H' st _ => by
  rw [rngD_length]
  exact Nat.le_refl n, fun M' H' i st _ hi => by
  rw [rngD_length] at hi
  exact hi, fun M' H' i v H'' st ok' hi y => by
  rw [rngD_length] at hi
  obtain ⟨e, e2⟩ := y
  subst e e2
  refine ⟨.int (lo + (i : Int)), ?_, Stp.refl _ _, ok', .int _⟩
  unfold rngD
  rw [List.getElem?_map, List.getElem?_range hi]
  rfl⟩
theorem ai_rng1 {ta : TA} {Φ : List D → Mem → Prop} (h : AA K W Χ Δ ta M fun ds M1 => ∃ n : Int, ds = [.int n] ∧ (-1000000 ≤ n ∧ n ≤ 1000000) ∧ Φ (rngD 0 n.toNat) M1) : AI K W Χ Δ (iRng1 ta) M Φ := fun σ H ok sl gx R q =>
  h σ H ok sl gx _ fun M1 H1 ds vs s1 ok1 r ⟨n, e, hn, p⟩ => by
    subst e
    cases r with
    | cons r1 r2 =>
      cases r2
      cases r1
      exact ⟨n, rfl, by omega, by omega, q M1 H1 _ _ s1 ok1 (walk_rng 0 n.toNat) p⟩
theorem ai_rng2 {ta : TA} {Φ : List D → Mem → Prop} (h : AA K W Χ Δ ta M fun ds M1 => ∃ m n : Int, ds = [.int m, .int n] ∧ (-1000000 ≤ m ∧ m ≤ 1000000 ∧ -1000000 ≤ n ∧ n ≤ 1000000) ∧ Φ (rngD m (n - m).toNat) M1) : AI K W Χ Δ (iRng2 ta) M Φ := fun σ H ok sl gx R q =>
  h σ H ok sl gx _ fun M1 H1 ds vs s1 ok1 r ⟨m, n, e, hn, p⟩ => by
    subst e
    cases r with
    | cons r1 r2 =>
      cases r2 with
      | cons r2 r3 =>
        cases r3
        cases r1
        cases r2
        exact ⟨m, n, rfl, by omega, q M1 H1 _ _ s1 ok1 (walk_rng m (n - m).toNat) p⟩
/-- zip of two tuples -/
theorem ai_zipT {ta : TA} {Φ : List D → Mem → Prop} (h : AA K W Χ Δ ta M fun ds M1 => ∃ xs ys : List D, ds = [.tup xs, .tup ys] ∧ xs.length = ys.length ∧ Φ ((xs.zip ys).map fun p => .tup [p.1, p.2]) M1) : AI K W Χ Δ (iZipA K ta) M Φ := fun σ H ok sl gx R q =>
  h σ H ok sl gx _ fun M1 H1 ds vs s1 ok1 r ⟨xs, ys, e, hl, p⟩ => by
    subst e
    cases r with
    | cons r1 r2 =>
      cases r2 with
      | cons r2 r3 =>
        cases r3
        cases r1 with
        | tup sa ra =>
          cases r2 with
          | tup sb rb =>
            rename_i a va b vb
            have sa' : ∀ {M' H'}, Stp M1 H1 M' H' → SqT K H' a va := fun st => sqT_mono fz_sub (sqT_mono st.same sa)
            have sb' : ∀ {M' H'}, Stp M1 H1 M' H' → SqT K H' b vb := fun st => sqT_mono fz_sub (sqT_mono st.same sb)
            have la := ra.length
            have lb := rb.length
            have lz : ((xs.zip ys).map fun p => D.tup [p.1, p.2]).length = va.length := by rw [List.length_map, List.length_zip]; omega
            refine ⟨a, b, va, vb, rfl, .inr ⟨sa' (Stp.refl _ _), sb' (Stp.refl _ _), q M1 H1 _ _ s1 ok1 ⟨fun M' H' st _ => ⟨va, vb, sa' st, sb' st, .inl (by rw [lz]; exact Nat.le_refl _)⟩, fun M' H' i st _ hi => ?_, fun M' H' i v H'' st ok' hi y => ?_⟩ p⟩⟩
            · rw [lz] at hi
              exact ⟨va, vb, va[i], vb[i]'(by omega), sa' st, sb' st, by simp, by simp⟩
            · obtain ⟨T, x, y', e1, hT, e2, y1, y2⟩ := y
              subst e1 e2
              obtain ⟨d1, hd1, rd1⟩ := ra.getV (y1 va (sa' st))
              obtain ⟨d2, hd2, rd2⟩ := rb.getV (y2 vb (sb' st))
              have s2 := stp_new (M := M') (H := H') (o := .tup [x, y']) hT
              refine ⟨.tup [d1, d2], ?_, s2, ok_new ok' hT, .tup (SqT.of (fz_of (ok'.fresh hT) upd_same)) (.cons (Rep.mono (st.trans s2).same _ _ rd1) (.cons (Rep.mono (st.trans s2).same _ _ rd2) .nil))⟩
              rw [List.getElem?_map, (List.getElem?_zip_eq_some (z := (d1, d2))).mpr ⟨hd1, hd2⟩]
              rfl
end
end T2
namespace T2
open PySem L2 RZ

/-- no exception is wished for -/
abbrev W0 : WX := fun _ _ _ _ => False
abbrev X0 : Exc := fun _ _ _ => False
theorem goodX0 {K : PySem.W.Frag} {M : Mem} {H : Hp} {σ : St} : GoodX K W0 M H σ X0 := fun _ _ _ _ _ _ _ _ _ _ _ p => p

section
variable {K : PySem.W.Frag} {W : WX} {M M1 : Mem} {H H1 : Hp} {P : Post} {Dd : Ends} {Δ : Sls} {σ : St} {Χ : Exc} {Ψ : PsiE}

/-! ### comprehensions -/
def wipeD (Δ : Sls) : List Nat → Sls
  | [] => Δ
  | i :: is => (wipeD Δ is).set i none
theorem slots_gone {F : Hp} {i : Nat} (sl : Slots K F Δ σ) : Slots K F (Δ.set i none) (σ.set i none) := by
  refine ⟨by simp [sl.len], fun j d h => ?_⟩
  by_cases q : j = i
  · subst q
    by_cases hl : j < Δ.length
    · rw [List.getElem?_set_self hl] at h
      cases h
    · rw [List.getElem?_eq_none (by simpa using hl)] at h
      cases h
  · rw [List.getElem?_set_ne (Ne.symm q)] at h ⊢
    exact sl.get j d h
theorem slots_wipe {F : Hp} : ∀ {is : List Nat} {Δ : Sls} {σ : St}, Slots K F Δ σ → Slots K F (wipeD Δ is) (wipe σ is)
  | [], _, _, h => h
  | i :: is, Δ, σ, h => by
    show Slots K F ((wipeD Δ is).set i none) ((wipe σ is).set i none)
    exact slots_gone (slots_wipe h)
theorem wipe_in {σ : St} {i : Nat} : ∀ {vs : List Nat}, i ∈ vs → (wipe σ vs)[i]? = if i < σ.length then some none else none
  | [], h => by cases h
  | v :: vs, h => by
    show ((wipe σ vs).set v none)[i]? = _
    have hl := wipe_length σ vs
    by_cases q : v = i
    · subst q
      by_cases hv : v < σ.length
      · rw [List.getElem?_set_self (by rw [hl]; exact hv), if_pos hv]
      · rw [List.getElem?_eq_none (by rw [List.length_set, hl]; omega), if_neg hv]
    · have h' : i ∈ vs := by
        rcases List.mem_cons.mp h with e | e
        · exact absurd e.symm q
        · exact e
      rw [List.getElem?_set_ne q]
      exact wipe_in h'
theorem wipe_idem (σ : St) (vs : List Nat) : wipe (wipe σ vs) vs = wipe σ vs := by
  refine List.ext_getElem? fun i => ?_
  by_cases h : i ∈ vs
  · rw [wipe_in h, wipe_in h, wipe_length]
  · rw [wipe_out h]
/-- a target within a comprehension: it stores names among vs alone -/
def AGc (K : PySem.W.Frag) (g : TG) (vs : List Nat) (d : D) (Δ : Sls) (M : Mem) (Φ : Sls → Mem → Prop) : Prop :=
  ∀ σ H v, Ok K M H → Slots K (Fz M H) Δ σ → Rep K (Fz M H) d v → ∀ Q : St → Hp → Prop, (∀ Δ' M' σ' H', Stp M H M' H' → Ok K M' H' → Slots K (Fz M' H') Δ' σ' → wipe σ' vs = wipe σ vs → Φ Δ' M' → Q σ' H') → g v σ H Q
def AGcs (K : PySem.W.Frag) (g : TGs) (vs : List Nat) (ds : List D) (Δ : Sls) (M : Mem) (Φ : Sls → Mem → Prop) : Prop :=
  ∀ σ H us, Ok K M H → Slots K (Fz M H) Δ σ → RepL K (Fz M H) ds us → ∀ Q : St → Hp → Prop, (∀ Δ' M' σ' H', Stp M H M' H' → Ok K M' H' → Slots K (Fz M' H') Δ' σ' → wipe σ' vs = wipe σ vs → Φ Δ' M' → Q σ' H') → g us σ H Q
theorem wipe_set {i : Nat} {x : Option V} {vs : List Nat} {σ : St} (h : i ∈ vs) : wipe (σ.set i x) vs = wipe σ vs := by
  refine List.ext_getElem? fun j => ?_
  by_cases q : j ∈ vs
  · rw [wipe_in q, wipe_in q, List.length_set]
  · rw [wipe_out q, wipe_out q, List.getElem?_set_ne (fun e => q (by rw [← e]; exact h))]
theorem agc_name {i : Nat} {vs : List Nat} {d : D} {Φ : Sls → Mem → Prop} (hi : i ∈ vs) (k : Φ (Δ.set i (some d)) M) : AGc K (gName i) vs d Δ M Φ := fun σ H v ok sl r Q g =>
  g _ M _ H (Stp.refl M H) ok (sl.set r) (wipe_set (σ := σ) hi) k
theorem agcs_nil {vs : List Nat} {Φ : Sls → Mem → Prop} (k : Φ Δ M) : AGcs K gNil vs [] Δ M Φ := fun σ H v ok sl r Q g => by
  cases r
  exact ⟨rfl, g _ M _ H (Stp.refl M H) ok sl rfl k⟩
theorem agcs_cons {vs : List Nat} {g : TG} {gs : TGs} {d : D} {ds : List D} {Φ : Sls → Mem → Prop} (h : AGc K g vs d Δ M fun Δ1 M1 => AGcs K gs vs ds Δ1 M1 Φ) : AGcs K (gCons g gs) vs (d :: ds) Δ M Φ := fun σ H us ok sl r Q gd => by
  cases r with
  | cons r1 r2 =>
    exact ⟨_, _, rfl, h σ H _ ok sl r1 _ fun Δ1 M1 σ1 H1 s1 ok1 sl1 w1 p1 => p1 σ1 H1 _ ok1 sl1 (RepL.mono s1.same _ _ r2) Q fun Δ' M' σ' H' s' o' l' w' p' => gd Δ' M' σ' H' (s1.trans s') o' l' (w'.trans w1) p'⟩
theorem agc_tup {vs : List Nat} {n : Nat} {gs : TGs} {ds : List D} {Φ : Sls → Mem → Prop} (hn : ds.length = n) (h : AGcs K gs vs ds Δ M Φ) : AGc K (gTup K n gs) vs (.tup ds) Δ M Φ := fun σ H v ok sl r Q g => by
  cases r with
  | tup s r => exact ⟨_, _, rfl, sqT_mono fz_sub s, by rw [← r.length]; exact hn, h σ H _ ok sl r Q g⟩

/-- [elt for target in iter if ..]: I by the turn, what is made so far, the memory (without the new list); D: the new list's place -/
theorem ae_lcG {wi : TI} {g : TG} {tt : TT} {te : TE} {vs : List Nat}
    (h : AI K W Χ Δ wi M fun xs M1 => xs.length ≤ 100000 ∧ ∃ I : Nat → List D → Mem → Prop, I 0 [] M1 ∧
      (∀ i d acc M' p, xs[i]? = some d → I i acc M' → M' p = none → acc.length ≤ i → AGc K g vs d (wipeD Δ vs) (M'.set p (.lst acc)) fun Δ2 M2 => AT K W0 X0 Δ2 tt M2 fun b M3 =>
        if b = true then AE K W0 X0 Δ2 te M3 fun y M4 => ∃ M5, M4 = M5.set p (.lst acc) ∧ M5 p = none ∧ I (i + 1) (acc ++ [y]) M5
        else ∃ M5, M3 = M5.set p (.lst acc) ∧ M5 p = none ∧ I (i + 1) acc M5) ∧
      (∀ acc M' p, I xs.length acc M' → M' p = none → Ψ (.ref p) (M'.set p (.lst acc)))) : AE K W Χ Δ (tLc wi g tt te vs) M Ψ := fun σ H ok sl gx Q gd =>
  h σ H ok sl gx _ fun M1 H1 J xs s1 ok1 w ⟨hx, I, i0, hs, hd⟩ => fun p hp => by
    have hl : (sizeLine : Nat) = 16777216 := sizeLine_eq
    -- the state between two turns
    let T : Nat → Hp → Prop := fun i H' => i ≤ xs.length ∧ ∃ M' acc, Stp M1 H1 M' H' ∧ M' p = none ∧ Ok K (M'.set p (.lst acc)) H' ∧ acc.length ≤ i ∧ I i acc M'
    have st0 : ∀ {M' : Mem} {H' : Hp} {acc : List D}, Stp M1 H1 M' H' → Stp M1 H1 (M'.set p (.lst acc)) H' := fun {M' H' acc} st a o m e => by
      obtain ⟨m', e'⟩ := st a o m e
      exact ⟨by rw [Mem.set_ne (ne_of_none e hp)]; exact m', e'⟩
    refine ⟨fun i m H' => m = xs.length - i ∧ T i H', ⟨_, rfl, Nat.zero_le _, M1, [], stp_new hp, ok1.fresh hp, ?_, Nat.le_refl _, i0⟩, ?_⟩
    · exact ok_set ok1 (stp_newM hp) ⟨[], upd_same, .nil⟩
    · rintro i m H2 ⟨rfl, hi, M2, acc, s2, m2, ok2, la, i2⟩
      by_cases hlt : i < xs.length
      · refine .inr ⟨w.go _ H2 i (st0 s2) ok2 hlt, T (i + 1), fun H' q => ⟨xs.length - (i + 1), by omega, rfl, q⟩, fun x H3 y => ?_⟩
        obtain ⟨d, hxd, s3, ok3, r3⟩ := w.yld _ H2 i x H3 (st0 s2) ok2 hlt y
        have s13 := (st0 (acc := acc) s2).trans s3
        refine hs i d acc M2 p hxd i2 m2 la (wipe σ vs) H3 x ok3 (slots_wipe (sl.mono (s1.trans s13).same)) r3 _ fun Δ4 M4 σ4 H4 s4 ok4 sl4 w4 p4 => ⟨?_, ?_⟩
        · rw [w4]
          exact wipe_idem σ vs
        · refine p4 σ4 H4 ok4 sl4 goodX0 _ fun M5 H5 b s5 ok5 p5 => ?_
          have s25 := (s3.trans s4).trans s5
          have back : ∀ {M6 : Mem} {H6 : Hp}, Stp (M2.set p (.lst acc)) H2 (M6.set p (.lst acc)) H6 → M6 p = none → Stp M1 H1 M6 H6 := fun {M6 H6} st m6 a o m e => by
            obtain ⟨m', e'⟩ := s2 a o m e
            have n := ne_of_none e hp
            obtain ⟨m'', e''⟩ := st a o (by rw [Mem.set_ne n]; exact m') e'
            rw [Mem.set_ne n] at m''
            exact ⟨m'', e''⟩
          cases b with
          | false =>
            rw [if_neg Bool.false_ne_true] at p5 ⊢
            obtain ⟨M6, e6, m6, i6⟩ := p5
            subst e6
            exact ⟨hlt, M6, acc, back s25 m6, m6, ok5, by omega, i6⟩
          | true =>
            rw [if_pos rfl] at p5 ⊢
            refine p5 σ4 H5 ok5 (sl4.mono s5.same) goodX0 _ fun M6 H6 d6 v6 s6 ok6 r6 ⟨M7, e7, m7, i7⟩ => ?_
            subst e7
            have hm : (M7.set p (.lst acc)) p = some (.lst acc) := Mem.set_same
            obtain ⟨vs6, hp6, rl6⟩ := ok6 p _ hm
            have lv := rl6.length
            refine ⟨vs6, hp6, by rw [hl]; omega, hlt, M7, acc ++ [d6], ?_, m7, ?_, by simp; omega, i7⟩
            · intro a o m e
              have n := ne_of_none e hp
              obtain ⟨m', e'⟩ := back (s25.trans s6) m7 a o m e
              exact ⟨m', by rw [upd_ne n]; exact e'⟩
            · have sm : Stp (M7.set p (.lst acc)) H6 ((M7.set p (.lst acc)).set p (.lst (acc ++ [d6]))) (upd H6 p (.lst (vs6 ++ [v6]))) := stp_mut hm
              have ok7 := ok_set ok6 sm ⟨_, upd_same, RepL.mono sm.same _ _ (rl6.append (.cons r6 .nil))⟩
              rw [Mem.set_set] at ok7
              exact ok7
      · have e : i = xs.length := by omega
        subst e
        refine .inl ⟨w.stop _ H2 (st0 s2) ok2, gd _ H2 (.ref p) (.ref p) (s1.trans (st0 s2)) ok2 (.ref p) (hd acc M2 p i2 m2)⟩
end
end T2
namespace T2
open PySem PySem.Spec PyProof.Rows L2 RZ

/-- some of a list, by places -/
def pick {α : Type} (π : List Nat) (xs : List α) : List α := π.filterMap fun i => xs[i]?
theorem Vals.pick {xs : List V} {us : List Value} (r : Vals xs us) : ∀ π : List Nat, Vals (pick π xs) (pick π us)
  | [] => .nil
  | i :: π => by
    have ih := Vals.pick r π
    unfold T2.pick at ih ⊢
    cases e : xs[i]? with
    | none =>
      have e2 : us[i]? = none := L2.Vals.none_of r e
      rw [List.filterMap_cons_none e, List.filterMap_cons_none e2]
      exact ih
    | some x =>
      obtain ⟨u, e2, ru⟩ := L2.Vals.get r e
      rw [List.filterMap_cons_some e, List.filterMap_cons_some e2]
      exact .cons ru ih
theorem RepL.pick {K : PySem.W.Frag} {F : Hp} {xs : List D} {us : List V} (r : RepL K F xs us) : ∀ π : List Nat, RepL K F (pick π xs) (pick π us)
  | [] => .nil
  | i :: π => by
    have ih := RepL.pick r π
    unfold T2.pick at ih ⊢
    cases e : xs[i]? with
    | none =>
      have e2 : us[i]? = none := by
        have h1 := List.getElem?_eq_none_iff.mp e
        have h2 := r.length
        exact List.getElem?_eq_none_iff.mpr (by omega)
      rw [List.filterMap_cons_none e, List.filterMap_cons_none e2]
      exact ih
    | some x =>
      obtain ⟨u, e2, ru⟩ := r.get e
      rw [List.filterMap_cons_some e, List.filterMap_cons_some e2]
      exact .cons ru ih

/-- a def keeps its promise wherever the repr guards are known to be none -/
structure FnG (P : Program) (w : World) (K : PySem.W.Frag) (mg : Str → Option Value) (base : Heap) (k : Nat) (f : Addr) (fd : FuncData) (ps : List Str) (sp : Sp) : Prop where
  len : ∀ vs H Q E, sp vs H Q E → vs.length = ps.length
  run : ∀ (A : Around) (outer : List Env) (s : Shared) (H : Hp) (args : Args) (us : List Value) (vs : List V) (Q : VK) (E : XK), Room k A → A.guards = some [] → Env0 P w K mg base A outer s H → BindsTo s fd args (ps.zip us) → Vals vs us →
    sp vs H Q E → codeAny (model P w) A (.call (.ref f) args) (CR (L2.CX P w) outer P w H s Q E) s
theorem FnG.mono {P : Program} {w : World} {K : PySem.W.Frag} {mg : Str → Option Value} {base : Heap} {j k : Nat} {f : Addr} {fd : FuncData} {ps : List Str} {sp : Sp} (F : FnG P w K mg base j f fd ps sp) (h : j ≤ k) : FnG P w K mg base k f fd ps sp :=
  ⟨F.len, fun A outer s H args us vs Q E r => F.run A outer s H args us vs Q E (r.mono h)⟩
/-- arguments by place and by keyword: n by place, the keywords ks, all told; π: their places in the def's order -/
def BindG (K : PySem.W.Frag) (fd : FuncData) (ps : List Str) (n : Nat) (ks : List Str) (π : List Nat) : Prop :=
  ∀ (s : Shared) (us ws : List Value), us.length = n → ws.length = ks.length → BindsTo s fd ⟨us, ks.zip ws⟩ (ps.zip (pick π (us ++ ws)))

section
variable {X : Cx} {W : WX} {k : Nat} {f C : Addr} {fd : FuncData} {ps ks : List Str} {sp : Sp} {x m : Str} {p pos apos : Pos} {e o : Expr} {es : List Expr} {ta : TE} {t tk : TA} {n : Nat} {π : List Nat} {kws : List Keyword}
def tCallG (sp : Sp) (n m : Nat) (π : List Nat) (W : WX) (t tk : TA) : TE := fun σ H Q => t σ H fun vs H1 => tk σ H1 fun zs H2 => vs.length = n ∧ zs.length = m ∧ sp (pick π (vs ++ zs)) H2 Q fun cls d H' => W cls d σ H'
def tMethG (C : Addr) (m : Str) (sp : Sp) (n l : Nat) (π : List Nat) (W : WX) (ta : TE) (t tk : TA) : TE := fun σ H Q => ta σ H fun x H1 => ∃ a dx fs, x = .ref a ∧ H1 a = some (.ins C dx fs) ∧ fs.lookup m = none ∧
  t σ H1 fun vs H2 => tk σ H2 fun zs H3 => (x :: vs).length = n ∧ zs.length = l ∧ sp (pick π ((x :: vs) ++ zs)) H3 Q fun cls d H' => W cls d σ H'
def tMakeG (C : Addr) (sp : Sp) (n l : Nat) (π : List Nat) (W : WX) (t tk : TA) : TE := fun σ H Q => t σ H fun vs H1 => tk σ H1 fun zs H2 => vs.length + 1 = n ∧ zs.length = l ∧ ∀ a dx, H2 a = none → H2 dx = none → dx ≠ a →
  sp (pick π ((.ref a :: vs) ++ zs)) (upd (upd H2 dx (.own a)) a (.ins C dx [])) (fun v H3 => v = .non ∧ Q (.ref a) H3) fun cls d H' => W cls d σ H'
theorem run_fnG {pins : List (Addr × Obj)} {σ : L2.St} {H : Hp} {s : Shared} {Q : VK} {us ws : List Value} {vs zs : List V} (F : FnG X.prog X.w X.K X.mg X.base k f fd ps sp) (hr : Room k X.A) (hg : X.A.guards = some []) (hb : BindG X.K fd ps n ks π) (tk : Takes X W)
    (I : Inv X pins σ H s) (r : Vals vs us) (rz : Vals zs ws) (hn : vs.length = n) (hm : zs.length = ks.length) (h : sp (pick π (vs ++ zs)) H Q fun cls d H' => W cls d σ H') :
    wpAny (model X.prog X.w) X.A (call (.ref f) us (ks.zip ws)) (EP X pins σ Q) X.xe s := by
  have r2 := Vals.pick (r.append rz) π
  have b := hb s us ws (r.length.symm.trans hn) (rz.length.symm.trans hm)
  refine wpAny_call (codeAny_mono (F.run X.A X.stack s H _ _ _ Q _ hr hg I.env0 b r2 h) fun res s' hq => ?_)
  match res, hq with
  | .error e, hq => exact tk e s' (XE.of_call I (fun cls d H' q => q) hq)
  | .ok (.ret u), hq => exact I.after hq
  | .ok .next, hq => exact hq.elim
  | .ok .brk, hq => exact hq.elim
  | .ok .cont, hq => exact hq.elim
theorem run_makeG {pins : List (Addr × Obj)} {σ : L2.St} {H : Hp} {s : Shared} {Q : VK} {us ws : List Value} {vs zs : List V} (Mk0 : Mk X.K C f) (F : FnG X.prog X.w X.K X.mg X.base k f fd ps sp) (hr : Room (k + 1) X.A) (hg : X.A.guards = some []) (hb : BindG X.K fd ps n ks π) (tk : Takes X W)
    (I : Inv X pins σ H s) (r : Vals vs us) (rz : Vals zs ws) (hn : vs.length + 1 = n) (hm : zs.length = ks.length)
    (h : ∀ a dx, H a = none → H dx = none → dx ≠ a → sp (pick π ((.ref a :: vs) ++ zs)) (upd (upd H dx (.own a)) a (.ins C dx [])) (fun v H3 => v = .non ∧ Q (.ref a) H3) fun cls d H' => W cls d σ H') :
    wpAny (model X.prog X.w) X.A (call (.ref C) us (ks.zip ws)) (EP X pins σ Q) X.xe s := by
  have hq := h (s.heap.objs.size + 1) s.heap.objs.size (I.hok.fresh (Nat.le_succ _)) (I.hok.fresh (Nat.le_refl _)) (Nat.ne_of_lt (Nat.lt_succ_self _))
  have J := Inv.made (C := C) I
  have r1 : Vals (V.ref (s.heap.objs.size + 1) :: vs) (Value.ref (s.heap.objs.size + 1) :: us) := .cons rfl r
  have r2 := Vals.pick (r1.append rz) π
  have b := hb { s with heap := (s.heap.push PySem.W.emptyDict).push (PySem.W.instObj C s.heap.objs.size) } (Value.ref (s.heap.objs.size + 1) :: us) ws (r1.length.symm.trans hn) (rz.length.symm.trans hm)
  have hg' : (X.A.under (.builtin "type.__call__" ⟨.ref C :: us, ks.zip ws⟩)).guards = some [] := by
    have e : (X.A.under (.builtin "type.__call__" ⟨.ref C :: us, ks.zip ws⟩)).guards = pushGuards (Code.guards (.builtin "type.__call__" ⟨.ref C :: us, ks.zip ws⟩)) X.A.guards := by
      unfold Around.under
      rfl
    rw [e, hg]
    have e2 : Code.guards (.builtin "type.__call__" ⟨.ref C :: us, ks.zip ws⟩) = [] := by
      simp [Code.guards, Code.isGuard, guardIds]
    rw [e2]
    rfl
  refine wpAny_call (make_map (f := f) I.kIn Mk0.makes Mk0.init (beq_iff_eq.mp Mk0.fn) (codeAny_mono (F.run _ X.stack _ _ _ _ _ _ _ (hr.make C us (ks.zip ws)) hg' (J.env0.make C us (ks.zip ws)) b r2 hq) fun res s' hq' => ?_))
  match res, hq' with
  | .error e, hq' => exact tk e s' (XE.of_call J (fun cls d H' q => q) hq')
  | .ok (.ret u), hq' =>
    obtain ⟨v, H', I3, rv, ev, q3⟩ := J.after hq'
    subst ev
    exact ⟨rv, V.ref (s.heap.objs.size + 1), H', I3, rfl, q3⟩
  | .ok .next, hq' => exact hq'.elim
  | .ok .brk, hq' => exact hq'.elim
  | .ok .cont, hq' => exact hq'.elim

/-! ### the calls as they are written -/
/-- f(e, .., k=v, ..) -/
theorem pg_call (F : FnG X.prog X.w X.K X.mg X.base k f fd ps sp) (hr : Room k X.A) (hg : X.A.guards = some []) (hgl : Gl X x) (hm : X.mg x = some (.ref f)) (hk : PySem.W.keepIn X.K (.ref f) = true) (hb : BindG X.K fd ps n ks π) (tkx : Takes X W)
    (ha : PA X (e :: es) t) (hkw : PK X kws tk) (hall : (backToKw pos (keywordEach kws X.env)).all (·.1.isSome) = true := by rfl) (hks : (backToKw pos (keywordEach kws X.env)).filterMap (·.1) = ks := by rfl)
    (hdb : (x == ("__debug__" : Str)) = false := by decide) (he : starEach (e :: es) X.env = (false, eval e X.env) :: starEach es X.env := by rfl)
    (hpl : ((backTo pos (starEach (e :: es) X.env)).any (·.1) || (backToKw pos (keywordEach kws X.env)).any (·.1.isNone)) = false := by rfl) :
    PE X (.Call (.Name x p) (e :: es) kws pos) (tCallG sp n ks.length π W t tk) := ⟨fun pins s σ H Q I h =>
  wpAny_Call_Name_kw (ld_glob I hgl hm (PySem.W.callWith_KW (h₀ := X.base) I.ok.mod.kin hk hall (thn (ha.run pos pins s σ H _ I h) fun us s1 ⟨vs, H1, I1, r, q⟩ =>
    thn (hkw.run pos pins s1 σ H1 _ I1 q) fun ws s2 ⟨zs, H2, I2, rz, hn, hz, q2⟩ => ⟨I2.kIn, by rw [hks]; exact run_fnG F hr hg hb tkx I2 r rz hn hz q2⟩) hpl he) hdb)⟩
/-- f(), f(k=v, ..) -/
theorem pg_call0 (F : FnG X.prog X.w X.K X.mg X.base k f fd ps sp) (hr : Room k X.A) (hg : X.A.guards = some []) (hgl : Gl X x) (hm : X.mg x = some (.ref f)) (hk : PySem.W.keepIn X.K (.ref f) = true) (hb : BindG X.K fd ps n ks π) (tkx : Takes X W)
    (hkw : PK X kws tk) (hall : (backToKw pos (keywordEach kws X.env)).all (·.1.isSome) = true := by rfl) (hks : (backToKw pos (keywordEach kws X.env)).filterMap (·.1) = ks := by rfl)
    (hdb : (x == ("__debug__" : Str)) = false := by decide) (hpl : ((backTo pos (starEach [] X.env)).any (·.1) || (backToKw pos (keywordEach kws X.env)).any (·.1.isNone)) = false := by rfl) :
    PE X (.Call (.Name x p) [] kws pos) (tCallG sp n ks.length π W tNil tk) := ⟨fun pins s σ H Q I h =>
  wpAny_Call_Name_kw (ld_glob I hgl hm (PySem.W.callWith_KW0 (h₀ := X.base) I.ok.mod.kin hk hall (thn (hkw.run pos pins s σ H _ I h) fun ws s2 ⟨zs, H2, I2, rz, hn, hz, q2⟩ =>
    ⟨I2.kIn, by rw [hks]; exact run_fnG (us := []) (vs := []) F hr hg hb tkx I2 .nil rz hn hz q2⟩) hpl) hdb)⟩
/-- C(e, .., k=v, ..) -/
theorem pg_make (Mk0 : Mk X.K C f) (F : FnG X.prog X.w X.K X.mg X.base k f fd ps sp) (hr : Room (k + 1) X.A) (hg : X.A.guards = some []) (hgl : Gl X x) (hm : X.mg x = some (.ref C)) (hb : BindG X.K fd ps n ks π) (tkx : Takes X W)
    (ha : PA X (e :: es) t) (hkw : PK X kws tk) (hall : (backToKw pos (keywordEach kws X.env)).all (·.1.isSome) = true := by rfl) (hks : (backToKw pos (keywordEach kws X.env)).filterMap (·.1) = ks := by rfl)
    (hdb : (x == ("__debug__" : Str)) = false := by decide) (he : starEach (e :: es) X.env = (false, eval e X.env) :: starEach es X.env := by rfl)
    (hpl : ((backTo pos (starEach (e :: es) X.env)).any (·.1) || (backToKw pos (keywordEach kws X.env)).any (·.1.isNone)) = false := by rfl) :
    PE X (.Call (.Name x p) (e :: es) kws pos) (tMakeG C sp n ks.length π W t tk) := ⟨fun pins s σ H Q I h =>
  wpAny_Call_Name_kw (ld_glob I hgl hm (PySem.W.callWith_KW (h₀ := X.base) I.ok.mod.kin Mk0.kp hall (thn (ha.run pos pins s σ H _ I h) fun us s1 ⟨vs, H1, I1, r, q⟩ =>
    thn (hkw.run pos pins s1 σ H1 _ I1 q) fun ws s2 ⟨zs, H2, I2, rz, hn, hz, q2⟩ => ⟨I2.kIn, by rw [hks]; exact run_makeG Mk0 F hr hg hb tkx I2 r rz hn hz q2⟩) hpl he) hdb)⟩
theorem pg_make0 (Mk0 : Mk X.K C f) (F : FnG X.prog X.w X.K X.mg X.base k f fd ps sp) (hr : Room (k + 1) X.A) (hg : X.A.guards = some []) (hgl : Gl X x) (hm : X.mg x = some (.ref C)) (hb : BindG X.K fd ps n ks π) (tkx : Takes X W)
    (hkw : PK X kws tk) (hall : (backToKw pos (keywordEach kws X.env)).all (·.1.isSome) = true := by rfl) (hks : (backToKw pos (keywordEach kws X.env)).filterMap (·.1) = ks := by rfl)
    (hdb : (x == ("__debug__" : Str)) = false := by decide) (hpl : ((backTo pos (starEach [] X.env)).any (·.1) || (backToKw pos (keywordEach kws X.env)).any (·.1.isNone)) = false := by rfl) :
    PE X (.Call (.Name x p) [] kws pos) (tMakeG C sp n ks.length π W tNil tk) := ⟨fun pins s σ H Q I h =>
  wpAny_Call_Name_kw (ld_glob I hgl hm (PySem.W.callWith_KW0 (h₀ := X.base) I.ok.mod.kin Mk0.kp hall (thn (hkw.run pos pins s σ H _ I h) fun ws s2 ⟨zs, H2, I2, rz, hn, hz, q2⟩ =>
    ⟨I2.kIn, by rw [hks]; exact run_makeG (us := []) (vs := []) Mk0 F hr hg hb tkx I2 .nil rz hn hz q2⟩) hpl) hdb)⟩
/-- o.m(e, .., k=v, ..) -/
theorem pg_meth {pl : Sem Bool} (he0 : PE X o ta) (c : Cls X.K C) (hme : Meth X.K C m f) (F : FnG X.prog X.w X.K X.mg X.base k f fd ps sp) (hr : Room k X.A) (hg : X.A.guards = some []) (hb : BindG X.K fd ps n ks π) (tkx : Takes X W)
    (ha : PA X (e :: es) t) (hkw : PK X kws tk) (hall : (backToKw pos (keywordEach kws X.env)).all (·.1.isSome) = true := by rfl) (hks : (backToKw pos (keywordEach kws X.env)).filterMap (·.1) = ks := by rfl)
    (he : starEach (e :: es) X.env = (false, eval e X.env) :: starEach es X.env := by rfl)
    (hpl : ((backTo pos (starEach (e :: es) X.env)).any (·.1) || (backToKw pos (keywordEach kws X.env)).any (·.1.isNone)) = false := by rfl)
    (ht : eval (.Call (.Attribute o m apos) (e :: es) kws pos) X.env = (do
      let ob ← eval o X.env
      standAt apos.atName
      let (g, first) ← holding [ob] (getMethod ob m pl)
      callWith pos g first (backTo pos (starEach (e :: es) X.env)) (backToKw pos (keywordEach kws X.env))) := by rfl) :
    PE X (.Call (.Attribute o m apos) (e :: es) kws pos) (tMethG C m sp n ks.length π W ta t tk) := ⟨fun pins s σ H Q I h =>
  PySem.W.methodCall_KW (pl := pl) (thn (he0.run pins s σ H _ I h) fun u s1 ⟨y, H1, I1, ry, a, dx, fs, ey, ea, l, q⟩ => by
    subst ey
    cases ry
    exact getmeth_ok I1 ea c hme l (PySem.W.callWith_KW (first := [.ref a]) (h₀ := X.base) I.ok.mod.kin hme.kp hall (thn (ha.run pos pins s1 σ H1 _ I1 q) fun us s2 ⟨vs, H2, I2, r, q2⟩ =>
      thn (hkw.run pos pins s2 σ H2 _ I2 q2) fun ws s3 ⟨zs, H3, I3, rz, hn, hz, q3⟩ => ⟨I3.kIn, by rw [hks]; exact run_fnG (us := .ref a :: us) (vs := .ref a :: vs) F hr hg hb tkx I3 (.cons rfl r) rz hn hz q3⟩) hpl he)) ht⟩
/-- o.m(), o.m(k=v, ..) -/
theorem pg_meth0 {pl : Sem Bool} (he0 : PE X o ta) (c : Cls X.K C) (hme : Meth X.K C m f) (F : FnG X.prog X.w X.K X.mg X.base k f fd ps sp) (hr : Room k X.A) (hg : X.A.guards = some []) (hb : BindG X.K fd ps n ks π) (tkx : Takes X W)
    (hkw : PK X kws tk) (hall : (backToKw pos (keywordEach kws X.env)).all (·.1.isSome) = true := by rfl) (hks : (backToKw pos (keywordEach kws X.env)).filterMap (·.1) = ks := by rfl)
    (hpl : ((backTo pos (starEach [] X.env)).any (·.1) || (backToKw pos (keywordEach kws X.env)).any (·.1.isNone)) = false := by rfl)
    (ht : eval (.Call (.Attribute o m apos) [] kws pos) X.env = (do
      let ob ← eval o X.env
      standAt apos.atName
      let (g, first) ← holding [ob] (getMethod ob m pl)
      callWith pos g first (backTo pos (starEach [] X.env)) (backToKw pos (keywordEach kws X.env))) := by rfl) :
    PE X (.Call (.Attribute o m apos) [] kws pos) (tMethG C m sp n ks.length π W ta tNil tk) := ⟨fun pins s σ H Q I h =>
  PySem.W.methodCall_KW (pl := pl) (thn (he0.run pins s σ H _ I h) fun u s1 ⟨y, H1, I1, ry, a, dx, fs, ey, ea, l, q⟩ => by
    subst ey
    cases ry
    exact getmeth_ok I1 ea c hme l (PySem.W.callWith_KW0 (first := [.ref a]) (h₀ := X.base) I.ok.mod.kin hme.kp hall
      (thn (hkw.run pos pins s1 σ H1 _ I1 q) fun ws s3 ⟨zs, H3, I3, rz, hn, hz, q3⟩ => ⟨I3.kIn, by rw [hks]; exact run_fnG (us := [.ref a]) (vs := [.ref a]) F hr hg hb tkx I3 (.cons rfl .nil) rz hn hz q3⟩) hpl)) ht⟩
end

/-! ### a def's body -/
section
variable {P : Program} {w : World} {K : PySem.W.Frag} {mg : Str → Option Value} {base : Heap}
theorem fnG_of {k : Nat} {f : Addr} {name qual : Str} {params : Arguments} {body : List Stmt} {scope : Scope} {dV kV doc pm cdv ct oc : Value} {an od : Option Addr} {osl : Array (Option Value)} {N ps : List Str} {sp : Sp}
    (lk : K.lookup f = some ⟨oc, od, .func (PySem.W.fnOf name qual params body scope dV kV doc pm an cdv ct), osl⟩) (hcd : PySem.W.codeIn K cdv qual = true) (S : FnScope N ps scope)
    (len : ∀ vs H Q E, sp vs H Q E → vs.length = ps.length)
    (hbody : ∀ (A : Around) (outer : List Env) (s : Shared) (H : Hp) (vs : List V) (Q : VK) (E : XK), Room k (A.deeper (envOfC qual scope s.heap.objs.size f cdv)) → A.guards = some [] → sp vs H Q E →
      ∃ t, PSs (cxOf (L2.CX P w) P w K mg base N qual scope f cdv A outer s H E) body t ∧ t { nx := fun _ H' => Q .non H', rt := Q } (L2.start N vs) H) :
    FnG P w K mg base (k + 1) f (PySem.W.fnOf name qual params body scope dV kV doc pm an cdv ct) ps sp where
  len := len
  run := fun A outer s H args us vs Q E room gd env bnd rel wish => by
    have heap0 : ∀ b o, base.get? b = some o → s.heap.get? b = some o := fun b o z => (env.bs b o z).1
    have written := env.mod.kin.keeps heap0
    have free := env.mod.nolimit.keeps heap0
    have many := len _ _ _ _ wish
    refine codeAny_call_function room.depth (written _ _ lk) rfl S.co S.gen rfl (PySem.W.codeRec_of written hcd) (bnd _ _ _ _ ?_)
    have par : ∀ y ∈ ps.zip us, scope.names.lookup y.1 = some .local ∨ (scope.names.lookup y.1 = some .cell ∧ ((cellsFrom (s.heap.objs.size + 1) scope.names []).lookup y.1).isSome = true) := fun y hy =>
      (S.par y.1 (List.of_mem_zip hy).1).imp id fun z => ⟨z, PySem.W.cellsFrom_some _ _ _ (.inl z)⟩
    refine wpAny_newFunctionEnv_cells S.kind par fun ev hev s1 made => ?_
    cases hev
    refine ⟨free.keeps made.toInCall.keep, codeAny_func ?_⟩
    obtain ⟨t, derives, reads⟩ := hbody A outer s H vs Q E (room.deeper _) gd wish
    have begun := inv_start (CX := L2.CX P w) (E := E) (N := N) (ps := ps) (qual := qual) (f := f) (cd := cdv) S room.hd env many rel made
    refine wpAny_mono (derives.run [] s1 (L2.start N vs) H _ begun reads) (fun fl s' ends => ?_) fun _ _ z => z
    match fl, ends with
    | .ret u, ⟨v, σ', H', J, rv, q⟩ => exact ⟨v, H', J.os, J.bare, J.base, J.hok, rv, q⟩
    | .next, ⟨σ', H', J, q⟩ => exact ⟨V.non, H', J.os, J.bare, J.base, J.hok, rfl, q⟩
    | .brk, ⟨_, _, _, q⟩ => exact q.elim
    | .cont, ⟨_, _, _, q⟩ => exact q.elim

/-- a promise over trees -/
abbrev ASp := List D → Mem → PsiE → Exc → Prop
def lift (K : PySem.W.Frag) (a : ASp) : Sp := fun vs H Q E => ∃ M ds Ψ Χ, Ok K M H ∧ RepL K (Fz M H) ds vs ∧ a ds M Ψ Χ ∧ GoodV K M H Ψ Q ∧
  ∀ M' H' cls d fs fv, Stp M H M' H' → Ok K M' H' → H' d = some (.xd fv) → M' d = none → RepF K (Fz M' H') fs fv → Χ cls fs M' → E cls (some d) H'
def startD (N : List Str) (ds : List D) : Sls := ds.map some ++ List.replicate (N.length - ds.length) none
theorem slots_start {F : Hp} {N : List Str} {ds : List D} {vs : List V} (r : RepL K F ds vs) : Slots K F (startD N ds) (L2.start N vs) := by
  have hl := r.length
  refine ⟨by unfold startD L2.start; simp [hl], fun i d h => ?_⟩
  unfold startD at h
  by_cases hi : i < ds.length
  · rw [List.getElem?_append_left (by simpa using hi), List.getElem?_map] at h
    cases e : ds[i]? with
    | none => rw [e] at h; cases h
    | some d' =>
      rw [e] at h
      have e2 : d' = d := by simpa using h
      subst e2
      obtain ⟨v, hv, rv⟩ := r.get e
      refine ⟨v, ?_, rv⟩
      unfold L2.start
      rw [List.getElem?_append_left (by rw [List.length_map, ← hl]; exact hi), List.getElem?_map, hv]
      rfl
  · rw [List.getElem?_append_right (by simpa using hi), List.getElem?_replicate] at h
    split at h <;> cases h
/-- THE RULE for a def over trees -/
theorem okG {x qual : Str} {st : Stmt} {f : Addr} {fd : FuncData} {N ps : List Str} {k : Nat} {a : ASp} (F : Fun K x qual st f fd) (S : FnScope N ps (defScope st)) (len : ∀ ds M Ψ Χ, a ds M Ψ Χ → ds.length = ps.length)
    (hbody : ∀ (cdv : Value) (A : Around) (outer : List Env) (s : Shared) (H : Hp) (E : XK), Room k (A.deeper (envOfC qual (defScope st) s.heap.objs.size f cdv)) → (A.deeper (envOfC qual (defScope st) s.heap.objs.size f cdv)).guards = some [] →
      ∃ t, PSs (cxOf (L2.CX P w) P w K mg base N qual (defScope st) f cdv A outer s H E) (defBody st) t ∧
        ∀ ds M Ψ Χ, a ds M Ψ Χ → AS K (fun cls d _ H => E cls d H) t { nx := fun _ M' => Ψ .non M', rt := Ψ, xr := fun c g _ M' => Χ c g M' } (startD N ds) M) :
    FnG P w K mg base (k + 1) f fd ps (lift K a) := by
  obtain ⟨oc, od, kV, doc, pm, an, cdv, ct, osl, e, lk, hcd⟩ := F.ex
  subst e
  refine fnG_of lk hcd S (fun vs H Q E ⟨M, ds, Ψ, Χ, _, r, h, _⟩ => r.length.symm.trans (len _ _ _ _ h)) fun A outer s H vs Q E room gd ⟨M, ds, Ψ, Χ, ok, r, h, gv, gx⟩ => ?_
  obtain ⟨t, dv, rd⟩ := hbody cdv A outer s H E room gd
  refine ⟨t, dv, rd ds M Ψ Χ h (L2.start N vs) H ok (slots_start r) _ ⟨?_, gv, ?_, ?_, ?_⟩⟩
  · exact fun Δ' M' σ' H' st' o' l' p => gv M' H' .non .non st' o' .non p
  · exact fun Δ' M' σ' H' st' o' l' p => p
  · exact fun Δ' M' σ' H' st' o' l' p => p
  · exact fun Δ' M' σ' H' cls d fs vs s' ok' sl a b c p => gx M' H' cls d fs vs s' ok' a b c p
end

/-! ### calls over trees -/
section
variable {K : PySem.W.Frag} {W : WX} {M M1 : Mem} {H H1 : Hp} {Δ : Sls} {Χ : Exc} {Ψ : PsiE} {a : ASp} {n l : Nat} {π : List Nat} {ta : TE} {t tk : TA} {C : Addr} {m : Str}
theorem ae_callG (h : AA K W Χ Δ t M fun xs M1 => AA K W Χ Δ tk M1 fun ys M2 => xs.length = n ∧ ys.length = l ∧ a (pick π (xs ++ ys)) M2 Ψ Χ) : AE K W Χ Δ (tCallG (lift K a) n l π W t tk) M Ψ := fun σ H ok sl gx Q g =>
  h σ H ok sl gx _ fun M1 H1 xs vs s1 ok1 r1 h1 => h1 σ H1 ok1 (sl.mono s1.same) (gx.step s1) _ fun M2 H2 ys zs s2 ok2 r2 ⟨hn, hl, h2⟩ =>
    ⟨r1.length.symm.trans hn, r2.length.symm.trans hl, M2, _, Ψ, Χ, ok2, ((RepL.mono s2.same _ _ r1).append r2).pick π, h2, g.step (s1.trans s2), gx.step (s1.trans s2)⟩
/-- o.m(..) of an instance that does not change -/
theorem ae_methG (h : AE K W Χ Δ ta M fun o M1 => ∃ fs, o = .obj C fs ∧ fs.lookup m = none ∧ AA K W Χ Δ t M1 fun xs M2 => AA K W Χ Δ tk M2 fun ys M3 => xs.length + 1 = n ∧ ys.length = l ∧ a (pick π ((o :: xs) ++ ys)) M3 Ψ Χ) :
    AE K W Χ Δ (tMethG C m (lift K a) n l π W ta t tk) M Ψ := fun σ H ok sl gx Q g =>
  h σ H ok sl gx _ fun M1 H1 o v s1 ok1 r1 ⟨fs, eo, hm, h1⟩ => by
    subst eo
    cases r1 with
    | obj hF rf =>
      exact ⟨_, _, _, rfl, fz_sub _ _ hF, rf.none hm, h1 σ H1 ok1 (sl.mono s1.same) (gx.step s1) _ fun M2 H2 xs vs s2 ok2 r2 h2 => h2 σ H2 ok2 (sl.mono (s1.trans s2).same) (gx.step (s1.trans s2)) _ fun M3 H3 ys zs s3 ok3 r3 ⟨hn, hl, h3⟩ =>
        ⟨by rw [List.length_cons, ← r2.length]; exact hn, r3.length.symm.trans hl, M3, _, Ψ, Χ, ok3, RepL.pick (.cons (Rep.mono (s2.trans s3).same _ _ (.obj hF rf)) ((RepL.mono s3.same _ _ r2).append r3)) π, h3, g.step ((s1.trans s2).trans s3), gx.step ((s1.trans s2).trans s3)⟩⟩
/-- .. of one that may change -/
theorem ae_methM (h : AE K W Χ Δ ta M fun o M1 => ∃ p fs, o = .ref p ∧ M1 p = some (.ins C fs) ∧ fs.lookup m = none ∧ AA K W Χ Δ t M1 fun xs M2 => AA K W Χ Δ tk M2 fun ys M3 => xs.length + 1 = n ∧ ys.length = l ∧ a (pick π ((o :: xs) ++ ys)) M3 Ψ Χ) :
    AE K W Χ Δ (tMethG C m (lift K a) n l π W ta t tk) M Ψ := fun σ H ok sl gx Q g =>
  h σ H ok sl gx _ fun M1 H1 o v s1 ok1 r1 ⟨p, fs, eo, hp, hm, h1⟩ => by
    subst eo
    cases r1
    obtain ⟨dx, vs, hH, rf⟩ := ok1 p _ hp
    exact ⟨_, _, _, rfl, hH, rf.none hm, h1 σ H1 ok1 (sl.mono s1.same) (gx.step s1) _ fun M2 H2 xs vs s2 ok2 r2 h2 => h2 σ H2 ok2 (sl.mono (s1.trans s2).same) (gx.step (s1.trans s2)) _ fun M3 H3 ys zs s3 ok3 r3 ⟨hn, hl, h3⟩ =>
        ⟨by rw [List.length_cons, ← r2.length]; exact hn, r3.length.symm.trans hl, M3, _, Ψ, Χ, ok3, RepL.pick (.cons (.ref p) ((RepL.mono s3.same _ _ r2).append r3)) π, h3, g.step ((s1.trans s2).trans s3), gx.step ((s1.trans s2).trans s3)⟩⟩
/-- C(..): a new instance at p, then its __init__ -/
theorem ae_makeG (h : AA K W Χ Δ t M fun xs M1 => AA K W Χ Δ tk M1 fun ys M2 => xs.length + 1 = n ∧ ys.length = l ∧ ∀ p, M2 p = none → a (pick π ((.ref p :: xs) ++ ys)) (M2.set p (.ins C [])) (fun d M' => d = .non ∧ Ψ (.ref p) M') Χ) :
    AE K W Χ Δ (tMakeG C (lift K a) n l π W t tk) M Ψ := fun σ H ok sl gx Q g =>
  h σ H ok sl gx _ fun M1 H1 xs vs s1 ok1 r1 h1 => h1 σ H1 ok1 (sl.mono s1.same) (gx.step s1) _ fun M2 H2 ys zs s2 ok2 r2 ⟨hn, hl, h2⟩ =>
    ⟨by rw [← r1.length]; exact hn, r2.length.symm.trans hl, fun p dx hp hdx hne => by
      have sa : Stp M2 H2 M2 (upd H2 dx (.own p)) := stp_new hdx
      have oka := ok_new (o := .own p) ok2 hdx
      have hp' : (upd H2 dx (.own p)) p = none := by rw [upd_ne (Ne.symm hne)]; exact hp
      have sb : Stp M2 (upd H2 dx (.own p)) (M2.set p (.ins C [])) (upd (upd H2 dx (.own p)) p (.ins C dx [])) := stp_newM hp'
      have okb : Ok K (M2.set p (.ins C [])) (upd (upd H2 dx (.own p)) p (.ins C dx [])) := ok_set oka sb ⟨dx, [], upd_same, .nil⟩
      have s12 := s1.trans s2
      have sab := sa.trans sb
      refine ⟨M2.set p (.ins C []), _, _, Χ, okb, RepL.pick (.cons (.ref p) ((RepL.mono (s2.trans sab).same _ _ r1).append (RepL.mono sab.same _ _ r2))) π, h2 p (ok2.fresh hp), ?_, gx.step (s12.trans sab)⟩
      intro M' H' d v s' ok' r' ⟨e, q⟩
      subst e
      cases r'
      exact ⟨rfl, g M' H' (.ref p) (.ref p) ((s12.trans sab).trans s') ok' (.ref p) q⟩⟩
end
end T2
namespace T2
open PySem PySem.Spec PyProof.Rows L2 RZ

section
variable {K : PySem.W.Frag} {W : WX} {M M1 : Mem} {H H1 : Hp} {P : Post} {Δ : Sls} {Χ : Exc} {Ψ : PsiE} {ds : List D} {p : Addr}

/-! ### len, tuple, list, int, abs, sum, all, any, sorted -/
abbrev cLen (K : PySem.W.Frag) : List V → Hp → VK → Prop := fun xs H Q => ∃ x n, xs = [x] ∧ LenV K x H n ∧ Q (.int n) H
theorem arl_lenT (k : Ψ (.int ds.length) M) : ARL K (cLen K) [.tup ds] M Ψ := fun H vs ok r Q q => by
  cases r with
  | cons r1 r2 =>
    cases r2
    cases r1 with
    | tup s rl => exact ⟨_, _, rfl, .inr ⟨_, sqT_mono fz_sub s, rfl⟩, q.here ok (by rw [← rl.length]; exact .int _) k⟩
theorem arl_lenL (k : Ψ (.int ds.length) M) : ARL K (cLen K) [.lst ds] M Ψ := fun H vs ok r Q q => by
  cases r with
  | cons r1 r2 =>
    cases r2
    cases r1 with
    | lst s rl => exact ⟨_, _, rfl, .inl ⟨_, sqL_mono fz_sub s, rfl⟩, q.here ok (by rw [← rl.length]; exact .int _) k⟩
theorem arl_lenM (hm : M p = some (.lst ds)) (k : Ψ (.int ds.length) M) : ARL K (cLen K) [.ref p] M Ψ := fun H vs ok r Q q => by
  cases r with
  | cons r1 r2 =>
    cases r2
    cases r1
    obtain ⟨vs, hp, rl⟩ := ok p _ hm
    exact ⟨_, _, rfl, .inl ⟨_, SqL.of hp, rfl⟩, q.here ok (by rw [← rl.length]; exact .int _) k⟩
theorem arl_lenS {z : Str} (hz : z.length ≤ 100000) (k : Ψ (.int z.length) M) : ARL K (cLen K) [.str z] M Ψ := fun H vs ok r Q q => by
  cases r with
  | cons r1 r2 =>
    cases r2
    cases r1
    exact ⟨_, _, rfl, ⟨Evl.sz_of hz, rfl⟩, q.here ok (.int _) k⟩
abbrev cTuple (K : PySem.W.Frag) : List V → Hp → VK → Prop := fun xs H Q => ∃ p ys, xs = [.ref p] ∧ ((SqL K H p ys ∧ ∀ l, H l = none → Q (.ref l) (upd H l (.tup ys))) ∨ (SqT K H p ys ∧ Q (.ref p) H))
/-- tuple(xs) -/
theorem arl_tupL (k : Ψ (.tup ds) M) : ARL K (cTuple K) [.lst ds] M Ψ := fun H vs ok r Q q => by
  cases r with
  | cons r1 r2 =>
    cases r2
    cases r1 with
    | lst s rl => exact ⟨_, _, rfl, .inl ⟨sqL_mono fz_sub s, fun l hl => q M _ _ _ (stp_new hl) (ok_new ok hl) (.tup (SqT.of (fz_of (ok.fresh hl) upd_same)) (RepL.mono (stp_new hl).same _ _ rl)) k⟩⟩
theorem arl_tupM (hm : M p = some (.lst ds)) (k : Ψ (.tup ds) M) : ARL K (cTuple K) [.ref p] M Ψ := fun H vs ok r Q q => by
  cases r with
  | cons r1 r2 =>
    cases r2
    cases r1
    obtain ⟨vs, hp, rl⟩ := ok p _ hm
    exact ⟨_, _, rfl, .inl ⟨SqL.of hp, fun l hl => q M _ _ _ (stp_new hl) (ok_new ok hl) (.tup (SqT.of (fz_of (ok.fresh hl) upd_same)) (RepL.mono (stp_new hl).same _ _ rl)) k⟩⟩
theorem arl_tupT (k : Ψ (.tup ds) M) : ARL K (cTuple K) [.tup ds] M Ψ := fun H vs ok r Q q => by
  cases r with
  | cons r1 r2 =>
    cases r2
    cases r1 with
    | tup s rl => exact ⟨_, _, rfl, .inr ⟨sqT_mono fz_sub s, q.here ok (.tup s rl) k⟩⟩
abbrev cList (K : PySem.W.Frag) : List V → Hp → VK → Prop := fun xs H Q => ∃ p ys, xs = [.ref p] ∧ (SqL K H p ys ∨ SqT K H p ys) ∧ ∀ l, H l = none → Q (.ref l) (upd H l (.lst ys))
theorem arl_listT (k : ∀ l, M l = none → Ψ (.ref l) (M.set l (.lst ds))) : ARL K (cList K) [.tup ds] M Ψ := fun H vs ok r Q q => by
  cases r with
  | cons r1 r2 =>
    cases r2
    cases r1 with
    | tup s rl => exact ⟨_, _, rfl, .inr (sqT_mono fz_sub s), fun l hl =>
      let st : Stp M H (M.set l (.lst ds)) (upd H l (.lst _)) := stp_newM hl
      q _ _ _ _ st (ok_set ok st ⟨_, upd_same, RepL.mono st.same _ _ rl⟩) (.ref l) (k l (ok.fresh hl))⟩
theorem arl_listL (k : ∀ l, M l = none → Ψ (.ref l) (M.set l (.lst ds))) : ARL K (cList K) [.lst ds] M Ψ := fun H vs ok r Q q => by
  cases r with
  | cons r1 r2 =>
    cases r2
    cases r1 with
    | lst s rl => exact ⟨_, _, rfl, .inl (sqL_mono fz_sub s), fun l hl =>
      let st : Stp M H (M.set l (.lst ds)) (upd H l (.lst _)) := stp_newM hl
      q _ _ _ _ st (ok_set ok st ⟨_, upd_same, RepL.mono st.same _ _ rl⟩) (.ref l) (k l (ok.fresh hl))⟩
/-- list(t), not changed behind it -/
theorem arl_listTF (k : Ψ (.lst ds) M) : ARL K (cList K) [.tup ds] M Ψ := fun H vs ok r Q q => by
  cases r with
  | cons r1 r2 =>
    cases r2
    cases r1 with
    | tup s rl => exact ⟨_, _, rfl, .inr (sqT_mono fz_sub s), fun l hl => q M _ _ _ (stp_new hl) (ok_new ok hl) (.lst (SqL.of (fz_of (ok.fresh hl) upd_same)) (RepL.mono (stp_new hl).same _ _ rl)) k⟩
abbrev cAbs : List V → Hp → VK → Prop := fun xs H Q => ∃ i, xs = [.int i] ∧ Q (.int (if i < 0 then -i else i)) H
theorem arl_abs {i : Int} (k : Ψ (.int (if i < 0 then -i else i)) M) : ARL K cAbs [.int i] M Ψ := fun H vs ok r Q q => by
  cases r with
  | cons r1 r2 =>
    cases r2
    cases r1
    exact ⟨i, rfl, q.here ok (.int _) k⟩
abbrev cInt : List V → Hp → VK → Prop := fun xs H Q => (∃ i, xs = [.int i] ∧ Q (.int i) H) ∨ ∃ k, xs = [.bl k] ∧ Q (.int (if k then 1 else 0)) H
theorem arl_intI {i : Int} (k : Ψ (.int i) M) : ARL K cInt [.int i] M Ψ := fun H vs ok r Q q => by
  cases r with
  | cons r1 r2 =>
    cases r2
    cases r1
    exact .inl ⟨i, rfl, q.here ok (.int _) k⟩
theorem arl_intB {b : Bool} (k : Ψ (.int (if b then 1 else 0)) M) : ARL K cInt [.bl b] M Ψ := fun H vs ok r Q q => by
  cases r with
  | cons r1 r2 =>
    cases r2
    cases r1
    exact .inr ⟨b, rfl, q.here ok (.int _) k⟩
abbrev cMax : List V → Hp → VK → Prop := fun xs H Q => ∃ i j, xs = [.int i, .int j] ∧ Q (.int (if j > i then j else i)) H
theorem arl_max2 {i j : Int} (k : Ψ (.int (if j > i then j else i)) M) : ARL K cMax [.int i, .int j] M Ψ := fun H vs ok r Q q => by
  cases r with
  | cons r1 r2 =>
    cases r2 with
    | cons r2 r3 =>
      cases r3
      cases r1; cases r2
      exact ⟨i, j, rfl, q.here ok (.int _) k⟩
theorem repL_ints {F : Hp} : ∀ {ns : List Int} {vs : List V}, RepL K F (ns.map D.int) vs → vs = ns.map V.int
  | [], _, h => by cases h; rfl
  | n :: ns, _, h => by
    cases h with
    | cons h1 h2 =>
      cases h1
      rw [repL_ints h2]
      rfl
theorem ints_repL {F : Hp} : ∀ {ns : List Int}, RepL K F (ns.map D.int) (ns.map V.int)
  | [] => .nil
  | n :: ns => .cons (.int n) ints_repL
theorem repL_bls {F : Hp} : ∀ {ns : List Bool} {vs : List V}, RepL K F (ns.map D.bl) vs → vs = ns.map V.bl
  | [], _, h => by cases h; rfl
  | n :: ns, _, h => by
    cases h with
    | cons h1 h2 =>
      cases h1
      rw [repL_bls h2]
      rfl
theorem arl_sum {ns : List Int} (k : Ψ (.int ns.sum) M) : ARL K (rSum K) [.lst (ns.map D.int)] M Ψ := fun H vs ok r Q q => by
  cases r with
  | cons r1 r2 =>
    cases r2
    cases r1 with
    | lst s rl =>
      cases repL_ints rl
      exact ⟨_, ns, rfl, sqL_mono fz_sub s, q.here ok (.int _) k⟩
theorem arl_all {bs : List Bool} (k : Ψ (.bl (bs.all id)) M) : ARL K (rAll K) [.lst (bs.map D.bl)] M Ψ := fun H vs ok r Q q => by
  cases r with
  | cons r1 r2 =>
    cases r2
    cases r1 with
    | lst s rl =>
      cases repL_bls rl
      exact ⟨_, bs, rfl, sqL_mono fz_sub s, q.here ok (.bl _) k⟩
theorem arl_any {bs : List Bool} (k : Ψ (.bl (bs.any id)) M) : ARL K (rAny K) [.lst (bs.map D.bl)] M Ψ := fun H vs ok r Q q => by
  cases r with
  | cons r1 r2 =>
    cases r2
    cases r1 with
    | lst s rl =>
      cases repL_bls rl
      exact ⟨_, bs, rfl, sqL_mono fz_sub s, q.here ok (.bl _) k⟩
/-- the ints in rising order -/
def insI (x : Int) : List Int → List Int
  | [] => [x]
  | y :: r => if x ≤ y then x :: y :: r else y :: insI x r
def isort : List Int → List Int
  | [] => []
  | x :: r => insI x (isort r)
theorem insI_perm (x : Int) : ∀ r : List Int, (insI x r).Perm (x :: r)
  | [] => List.Perm.refl _
  | y :: r => by
    unfold insI
    split
    · exact List.Perm.refl _
    · exact ((insI_perm x r).cons y).trans (List.Perm.swap x y r)
theorem isort_perm : ∀ r : List Int, (isort r).Perm r
  | [] => List.Perm.refl _
  | x :: r => (insI_perm x (isort r)).trans ((isort_perm r).cons x)
theorem insI_sorted (x : Int) : ∀ r : List Int, r.Pairwise (· ≤ ·) → (insI x r).Pairwise (· ≤ ·)
  | [], _ => by simp [insI]
  | y :: r, h => by
    unfold insI
    have h' := List.pairwise_cons.mp h
    split
    · rename_i hxy
      refine List.pairwise_cons.mpr ⟨fun z hz => ?_, h⟩
      rcases List.mem_cons.mp hz with e | e
      · rw [e]; exact hxy
      · exact Int.le_trans hxy (h'.1 z e)
    · rename_i hxy
      refine List.pairwise_cons.mpr ⟨fun z hz => ?_, insI_sorted x r h'.2⟩
      rcases List.mem_cons.mp ((insI_perm x r).mem_iff.mp hz) with e | e
      · rw [e]; omega
      · exact h'.1 z e
theorem isort_sorted : ∀ r : List Int, (isort r).Pairwise (· ≤ ·)
  | [] => List.Pairwise.nil
  | x :: r => insI_sorted x _ (isort_sorted r)
theorem sorted_unique : ∀ {xs ys : List Int}, xs.Perm ys → xs.Pairwise (· ≤ ·) → ys.Pairwise (· ≤ ·) → xs = ys
  | [], ys, p, _, _ => (List.Perm.nil_eq p)
  | x :: xs, ys, p, hx, hy => by
    cases ys with
    | nil => exact absurd p.length_eq (by simp)
    | cons y ys =>
      have hx' := List.pairwise_cons.mp hx
      have hy' := List.pairwise_cons.mp hy
      have e : x = y := by
        have h1 : x ∈ y :: ys := p.mem_iff.mp (List.mem_cons_self ..)
        have h2 : y ∈ x :: xs := p.mem_iff.mpr (List.mem_cons_self ..)
        rcases List.mem_cons.mp h1 with a | a
        · exact a
        · rcases List.mem_cons.mp h2 with b | b
          · exact b.symm
          · have c1 := hy'.1 x a
            have c2 := hx'.1 y b
            omega
      subst e
      rw [sorted_unique ((List.perm_cons x).mp p) hx'.2 hy'.2]
theorem sorted_isort {xs ns : List Int} (p : ns.Perm xs) (s : ns.Pairwise (· ≤ ·)) : ns = isort xs := sorted_unique (p.trans (isort_perm xs).symm) s (isort_sorted xs)
/-- sorted(xs), ints -/
theorem arl_sorted {ns : List Int} (k : Ψ (.lst ((isort ns).map D.int)) M) : ARL K (rSortedI K) [.lst (ns.map D.int)] M Ψ := fun H vs ok r Q q => by
  cases r with
  | cons r1 r2 =>
    cases r2
    cases r1 with
    | lst s rl =>
      cases repL_ints rl
      refine ⟨_, ns, rfl, sqL_mono fz_sub s, fun ns' l pm st hl => ?_⟩
      cases sorted_isort pm st
      exact q M _ _ _ (stp_new hl) (ok_new ok hl) (.lst (SqL.of (fz_of (ok.fresh hl) upd_same)) ints_repL) k
theorem arl_sortedM {ns : List Int} (hm : M p = some (.lst (ns.map D.int))) (k : Ψ (.lst ((isort ns).map D.int)) M) : ARL K (rSortedI K) [.ref p] M Ψ := fun H vs ok r Q q => by
  cases r with
  | cons r1 r2 =>
    cases r2
    cases r1
    obtain ⟨vs, hp, rl⟩ := ok p _ hm
    cases repL_ints rl
    refine ⟨_, ns, rfl, SqL.of hp, fun ns' l pm st hl => ?_⟩
    cases sorted_isort pm st
    exact q M _ _ _ (stp_new hl) (ok_new ok hl) (.lst (SqL.of (fz_of (ok.fresh hl) upd_same)) ints_repL) k

/-! ### methods of lists -/
theorem ae_append {ta te : TE} (h : AE K W Χ Δ ta M fun o M1 => ∃ p ds0, o = .ref p ∧ M1 p = some (.lst ds0) ∧ AE K W Χ Δ te M1 fun d M2 => ∃ ds, M2 p = some (.lst ds) ∧ ds.length < 100000 ∧ Ψ .non (M2.set p (.lst (ds ++ [d])))) :
    AE K W Χ Δ (tBM K "list" rAppend ta (tCons te tNil)) M Ψ := fun σ H ok sl gx Q g =>
  h σ H ok sl gx _ fun M1 H1 o ov s1 ok1 r1 ⟨p, ds0, eo, hm1, h1⟩ => by
    subst eo
    cases r1
    obtain ⟨v0, hp1, rl1⟩ := ok1 p _ hm1
    refine ⟨.inl ⟨rfl, v0, SqL.of hp1⟩, h1 σ H1 ok1 (sl.mono s1.same) (gx.step s1) _ fun M2 H2 d v s2 ok2 r2 ⟨ds, hm2, hl, k⟩ => ?_⟩
    obtain ⟨vs, hp2, rl2⟩ := ok2 p _ hm2
    have st : Stp M2 H2 (M2.set p (.lst (ds ++ [d]))) (upd H2 p (.lst (vs ++ [v]))) := stp_mut hm2
    exact ⟨p, vs, v, rfl, rfl, hp2, Evl.sz_lt (by rw [← rl2.length]; exact hl), g _ _ .non .non ((s1.trans s2).trans st) (ok_set ok2 st ⟨_, upd_same, RepL.mono st.same _ _ (rl2.append (.cons r2 .nil))⟩) .non k⟩
theorem ae_pop {ta : TE} (h : AE K W Χ Δ ta M fun o M1 => ∃ p ds d, o = .ref p ∧ M1 p = some (.lst (ds ++ [d])) ∧ Ψ d (M1.set p (.lst ds))) :
    AE K W Χ Δ (tBM0 K "list" rPop ta) M Ψ := fun σ H ok sl gx Q g =>
  h σ H ok sl gx _ fun M1 H1 o ov s1 ok1 r1 ⟨p, ds, d, eo, hm1, k⟩ => by
    subst eo
    cases r1
    obtain ⟨vs, hp1, rl1⟩ := ok1 p _ hm1
    have hl := rl1.length
    rw [List.length_append] at hl
    have hl' : vs.length = ds.length + 1 := by simpa using hl.symm
    obtain ⟨v, hv, rv⟩ := rl1.get (i := ds.length) (d := d) (by simp)
    have ev : vs = vs.dropLast ++ [v] := by
      refine List.ext_getElem? fun i => ?_
      by_cases hi : i < ds.length
      · rw [List.getElem?_append_left (by rw [List.length_dropLast, hl']; omega), List.getElem?_dropLast, if_pos (by omega)]
      · by_cases hi2 : i = ds.length
        · subst hi2
          rw [hv, List.getElem?_append_right (by rw [List.length_dropLast, hl']; omega), List.length_dropLast, hl']
          simp
        · rw [List.getElem?_eq_none (by omega), List.getElem?_eq_none (by rw [List.length_append, List.length_dropLast, hl']; simp; omega)]
    have st : Stp M1 H1 (M1.set p (.lst ds)) (upd H1 p (.lst vs.dropLast)) := stp_mut hm1
    refine ⟨.inl ⟨rfl, vs, SqL.of hp1⟩, p, vs, v, rfl, rfl, hp1, by rw [hl']; exact hv, g _ _ _ _ (s1.trans st) (ok_set ok1 st ⟨_, upd_same, ?_⟩) (Rep.mono st.same _ _ rv) k⟩
    have rt := rl1.take ds.length
    rw [List.take_left' rfl] at rt
    have et : vs.take ds.length = vs.dropLast := by rw [List.dropLast_eq_take, hl']; rfl
    rw [et] at rt
    exact RepL.mono st.same _ _ rt

/-! ### fields -/
theorem ae_fldO {ta : TE} {f : Str} {C : Addr} (hc : Cls K C) (hn : NoAttr K C f) (h : AE K W Χ Δ ta M fun o M1 => ∃ fs d, o = .obj C fs ∧ fs.lookup f = some d ∧ Ψ d M1) : AE K W Χ Δ (tFld K ta f) M Ψ := fun σ H ok sl gx Q g =>
  h σ H ok sl gx _ fun M1 H1 o ov s1 ok1 r1 ⟨fs, d, eo, hl, k⟩ => by
    subst eo
    cases r1 with
    | obj hF rf =>
      obtain ⟨v, hv, rv⟩ := rf.lookup hl
      exact ⟨_, C, _, _, v, rfl, fz_sub _ _ hF, hc, hn, hv, g M1 H1 d v s1 ok1 rv k⟩
theorem ae_fldM {ta : TE} {f : Str} {C : Addr} (hc : Cls K C) (hn : NoAttr K C f) (h : AE K W Χ Δ ta M fun o M1 => ∃ p fs d, o = .ref p ∧ M1 p = some (.ins C fs) ∧ fs.lookup f = some d ∧ Ψ d M1) : AE K W Χ Δ (tFld K ta f) M Ψ := fun σ H ok sl gx Q g =>
  h σ H ok sl gx _ fun M1 H1 o ov s1 ok1 r1 ⟨p, fs, d, eo, hp, hl, k⟩ => by
    subst eo
    cases r1
    obtain ⟨dx, vs, hH, rf⟩ := ok1 p _ hp
    obtain ⟨v, hv, rv⟩ := rf.lookup hl
    exact ⟨p, C, dx, vs, v, rfl, hH, hc, hn, hv, g M1 H1 d v s1 ok1 rv k⟩
/-- o.f = e -/
theorem as_fld {ta tv : TE} {f : Str} {C : Addr} (hc : Cls K C) (hn : NoAttr K C f) (h : AE K W (fun c f M' => P.xr c f Δ M') Δ tv M fun y M1 => AE K W (fun c f M' => P.xr c f Δ M') Δ ta M1 fun o M2 =>
    ∃ p fs, o = .ref p ∧ M2 p = some (.ins C fs) ∧ fs.length < 1000 ∧ P.nx Δ (M2.set p (.ins C (putD f y fs)))) : AS K W (sFld K ta tv f) P Δ M := fun σ H ok sl D gp =>
  h σ H ok sl (gp.x sl) _ fun M1 H1 y v s1 ok1 r1 h1 => h1 σ H1 ok1 (sl.mono s1.same) ((gp.x sl).step s1) _ fun M2 H2 o ov s2 ok2 r2 ⟨p, fs, eo, hp, hl, k⟩ => by
    subst eo
    cases r2
    obtain ⟨dx, vs, hH, rf⟩ := ok2 p _ hp
    have s12 := s1.trans s2
    have st : Stp M2 H2 (M2.set p (.ins C (putD f y fs))) (upd H2 p (.ins C dx (putF f v vs))) := stp_mut hp
    exact ⟨p, C, dx, vs, rfl, hH, hc, hn, by rw [← rf.length]; exact hl, gp.nx Δ _ σ _ (s12.trans st) (ok_set ok2 st ⟨dx, _, upd_same, RepF.mono st.same _ _ (rf.put (Rep.mono s2.same _ _ r1))⟩) (sl.mono (s12.trans st).same) k⟩
/-- an instance no longer changes -/
theorem ae_frzI {te : TE} (h : AE K W Χ Δ te M fun d M' => ∃ p C fs M0, d = .ref p ∧ M' p = some (.ins C fs) ∧ (∀ a m, M0 a = some m → M' a = some m) ∧ M0 p = none ∧ Ψ (.obj C fs) M0) : AE K W Χ Δ te M Ψ := fun σ H ok sl gx Q g =>
  h σ H ok sl gx _ fun M1 H1 d v s1 ok1 r1 ⟨p, C, fs, M0, e, hp, hle, h0, k⟩ => by
    subst e
    cases r1
    obtain ⟨dx, vs, hH, rf⟩ := ok1 p _ hp
    have st : Stp M1 H1 M0 H1 := stp_less hle
    exact g M0 H1 (.obj C fs) (.ref p) (s1.trans st) (ok_less ok1 hle) (.obj (fz_of h0 hH) (RepF.mono st.same _ _ rf)) k
/-- a list no longer changes -/
theorem ae_frzL {te : TE} (h : AE K W Χ Δ te M fun d M' => ∃ p ds M0, d = .ref p ∧ M' p = some (.lst ds) ∧ (∀ a m, M0 a = some m → M' a = some m) ∧ M0 p = none ∧ Ψ (.lst ds) M0) : AE K W Χ Δ te M Ψ := fun σ H ok sl gx Q g =>
  h σ H ok sl gx _ fun M1 H1 d v s1 ok1 r1 ⟨p, ds, M0, e, hp, hle, h0, k⟩ => by
    subst e
    cases r1
    obtain ⟨vs, hH, rl⟩ := ok1 p _ hp
    have st : Stp M1 H1 M0 H1 := stp_less hle
    exact g M0 H1 (.lst ds) (.ref p) (s1.trans st) (ok_less ok1 hle) (.lst (SqL.of (fz_of h0 hH)) (RepL.mono st.same _ _ rl)) k
/-- .. the list in a slot -/
theorem as_frz {t : TS} {i : Nat} {M0 : Mem} (hi : Δ[i]? = some (some (.ref p))) (hp : M p = some (.lst ds)) (hle : ∀ a m, M0 a = some m → M a = some m) (h0 : M0 p = none) (h : AS K W t P (Δ.set i (some (.lst ds))) M0) : AS K W t P Δ M := fun σ H ok sl D gp => by
  obtain ⟨v, hv, rv⟩ := sl.get i _ hi
  cases rv
  obtain ⟨vs, hH, rl⟩ := ok p _ hp
  have st : Stp M H M0 H := stp_less hle
  refine h σ H (ok_less ok hle) ?_ D (gp.step st)
  have sl2 := (sl.mono st.same).set (i := i) (show Rep K (Fz M0 H) (.lst ds) (.ref p) from .lst (SqL.of (fz_of h0 hH)) (RepL.mono st.same _ _ rl))
  have e : σ.set i (some (.ref p)) = σ := by
    refine List.ext_getElem? fun j => ?_
    by_cases q : i = j
    · subst q
      rw [List.getElem?_set_self (List.getElem?_eq_some_iff.mp hv).1, hv]
    · rw [List.getElem?_set_ne q]
  rw [e] at sl2
  exact sl2

/-! ### comprehensions whose list does not change any more -/
theorem ae_lcF {wi : TI} {g : TG} {tt : TT} {te : TE} {vs : List Nat}
    (h : AI K W Χ Δ wi M fun xs M1 => xs.length ≤ 100000 ∧ ∃ I : Nat → List D → Mem → Prop, I 0 [] M1 ∧
      (∀ i d acc M' p, xs[i]? = some d → I i acc M' → M' p = none → acc.length ≤ i → AGc K g vs d (wipeD Δ vs) (M'.set p (.lst acc)) fun Δ2 M2 => AT K W0 X0 Δ2 tt M2 fun b M3 =>
        if b = true then AE K W0 X0 Δ2 te M3 fun y M4 => ∃ M5, M4 = M5.set p (.lst acc) ∧ M5 p = none ∧ I (i + 1) (acc ++ [y]) M5
        else ∃ M5, M3 = M5.set p (.lst acc) ∧ M5 p = none ∧ I (i + 1) acc M5) ∧
      (∀ acc M', I xs.length acc M' → Ψ (.lst acc) M')) : AE K W Χ Δ (tLc wi g tt te vs) M Ψ :=
  ae_frzL (ae_lcG fun σ H ok sl gx R q => h σ H ok sl gx R fun M' H' J xs s o w ⟨a, I, b, c, d⟩ => q M' H' J xs s o w ⟨a, I, b, c, fun acc M' p i0 m0 => ⟨p, acc, M', rfl, Mem.set_same, fun x m e => by
    have n := Mem.ne_of e m0
    rw [Mem.set_ne n]
    exact e, m0, d acc M' i0⟩⟩)
/-- .. whose turns leave the memory as it is -/
theorem ae_lcP {wi : TI} {g : TG} {tt : TT} {te : TE} {vs : List Nat}
    (h : AI K W Χ Δ wi M fun xs M1 => xs.length ≤ 100000 ∧ ∃ (f : D → Bool) (e : D → D),
      (∀ d M', d ∈ xs → AGc K g vs d (wipeD Δ vs) M' fun Δ2 M2 => M2 = M' ∧ AT K W0 X0 Δ2 tt M' fun b M3 => M3 = M' ∧ b = f d ∧ (f d = true → AE K W0 X0 Δ2 te M' fun y M4 => y = e d ∧ M4 = M')) ∧
      Ψ (.lst ((xs.filter f).map e)) M1) : AE K W Χ Δ (tLc wi g tt te vs) M Ψ :=
  ae_lcF fun σ H ok sl gx R q => h σ H ok sl gx R fun M1 H1 J xs s o w ⟨a, f, e, b, c⟩ => q M1 H1 J xs s o w ⟨a, fun i acc M' => acc = ((xs.take i).filter f).map e ∧ M' = M1, ⟨by simp, rfl⟩, by
    rintro i d acc M' p hx ⟨ea, em⟩ hp hl
    subst ea em
    have ht : xs.take (i + 1) = xs.take i ++ [d] := by rw [List.take_add_one, hx]; rfl
    refine fun σ1 H2 v ok2 sl2 r2 Q2 g2 => b d _ (List.mem_of_getElem? hx) σ1 H2 v ok2 sl2 r2 Q2 fun Δ3 M3 σ3 H3 s3 ok3 sl3 w3 ⟨e3, t3⟩ => g2 Δ3 M3 σ3 H3 s3 ok3 sl3 w3 ?_
    rw [e3]
    refine fun σ4 H4 ok4 sl4 gx4 Q4 g4 => t3 σ4 H4 ok4 sl4 gx4 Q4 fun M5 H5 bb s5 ok5 ⟨e5, eb, t5⟩ => g4 M5 H5 bb s5 ok5 ?_
    rw [e5, eb]
    cases hf : f d with
    | true =>
      rw [if_pos rfl]
      refine (t5 hf).mono fun y M6 ⟨ey, e6⟩ => ⟨_, e6, hp, ?_, rfl⟩
      rw [ht, List.filter_append, List.map_append, ey]
      simp [hf]
    | false =>
      rw [if_neg Bool.false_ne_true]
      refine ⟨_, rfl, hp, ?_, rfl⟩
      rw [ht, List.filter_append, List.map_append]
      simp [hf], fun acc M' ⟨ea, em⟩ => by
    subst ea em
    rw [List.take_length]
    exact c⟩
end
end T2
namespace T2
open PySem PySem.Spec PyProof.Rows L2 RZ

/-! ### set(xs) of a list of ints -/
section
variable {P : Program} {w : World} {A : Around} {E : Value → Shared → Prop} {s : Shared}
set_option maxHeartbeats 3200000 in
theorem set_of_list {l : Addr} {its : Array Value} (ns : List Int) {Q : Value → Shared → Prop} (calm : A.handled = none) (lst : s.heap.IsList l its) (areI : IntsAre its.toList ns) (few : ns.length + 1 < scanBound)
    (out : ∀ (g : Heap) (tk c : Nat), SetR w g s.heap.objs.size (fun j => decide (j ∈ ns)) c → c ≤ ns.length → (∀ b o, s.heap.get? b = some o → g.get? b = some o) → Q (.ref s.heap.objs.size) { s with heap := g, toks := tk }) :
    wpAny (model P w) A (call (.type "set") [.ref l]) Q E s := by
  have many : its.size = ns.length := (Array.length_toList (xs := its)).symm.trans areI.length
  obtain ⟨mc, mt, mro⟩ := F.called_set.mro
  have f1 := F.called_set.made
  have f2 := F.called_set.sub
  have f3 := F.called_set.notType
  have f4 := F.called_set.canCreate
  have f5 := F.typeCall_set_1 (.ref l)
  have f6 := F.called_set.init.lookup
  have f7 := F.called_set.init.bind (.ref s.heap.objs.size)
  refine wpAny_call (codeAny_of_tree ?_)
  show wpAny _ _ (callAny (.type "set") _) _ _ _
  refine wpAny_pure ⟨Code.quiet_builtin _ (by decide +kernel), codeAny_builtin F.entry_type_call ?_⟩
  rw [Around.under_plain (weight_type_call_type "set" [.ref l] []) rfl]
  repeat (any_goals (first | assumption | wp_step))
  refine codeAny_mono (code_set_led1 (.ref l) (E := E) (Q₁ := fun obj s₁ => obj = .ref s.heap.objs.size ∧
    s₁ = { s with heap := s.heap.push { cls := .type "set", dict := none, data := .set #[] 0 (.fresh 0 0 (!w.params.followText "set-order")) } }) ⟨rfl, rfl⟩) fun r s₁ back => ?_
  match r, back with
  | .error _, z => exact z
  | .ok .next, z => exact z.elim
  | .ok .brk, z => exact z.elim
  | .ok .cont, z => exact z.elim
  | .ok (.ret obj), ⟨e1, e2⟩ =>
    subst e1 e2
    have new0 : (s.heap.push { cls := .type "set", dict := none, data := .set #[] 0 (.fresh 0 0 (!w.params.followText "set-order")) }).get? s.heap.objs.size = some { cls := .type "set", dict := none, data := .set #[] 0 (.fresh 0 0 (!w.params.followText "set-order")) } := Heap.get?_push_size _ rfl
    have hT : Shared.TypeIs { s with heap := s.heap.push { cls := .type "set", dict := none, data := .set #[] 0 (.fresh 0 0 (!w.params.followText "set-order")) } } (.ref s.heap.objs.size) "set" := ⟨_, new0, rfl⟩
    repeat (any_goals (first | assumption | wp_step))
    refine codeAny_mono (codeAny_call_builtin (R := wants (fun r s₂ => r = .none ∧ ∃ g tk c, s₂ = { s with heap := g, toks := tk } ∧ SetR w g s.heap.objs.size (fun j => decide (j ∈ ns)) c ∧ c ≤ ns.length ∧
      (∀ b o, s.heap.get? b = some o → g.get? b = some o)) E) F.called_set.init.plain F.entry_set_init (check_set_init_1 hT ?_)) fun r₂ s₂ back₂ => ?_
    · obtain ⟨⟨lc, ld, lt, ls⟩, at0, c0, n0, d0⟩ := lst
      simp only at c0 d0
      subst c0; subst d0
      have at1 : (s.heap.push { cls := .type "set", dict := none, data := .set #[] 0 (.fresh 0 0 (!w.params.followText "set-order")) }).get? l = some { cls := .type "list", dict := ld, data := .seq its n0, slots := ls } := Heap.get?_push_of_some _ at0
      have g1 := F.sub_list_set
      have g2 := F.sub_list_frozenset
      have g3 : (Value.type "list" == Value.type "dict") = false := by decide
      have lst1 : (s.heap.push { cls := .type "set", dict := none, data := .set #[] 0 (.fresh 0 0 (!w.params.followText "set-order")) }).IsList l its := ⟨_, at1, rfl, n0, rfl⟩
      unfold Builtin.«set.__init__» noKeywords Builtin.Frozenset.updateFrom
      generalize hPI : pyIter = PI
      wp_walk
      subst hPI
      refine wpAny_pyIter_list lst1 (wpAny_bind (wpAny_runValue ?_))
      have low : l < s.heap.objs.size := Heap.lt_size at0
      have calm3 : A.in1.in1.in1.handled = none := by simp [calm]
      have top : (s.heap.push { cls := .type "set", dict := none, data := .set #[] 0 (.fresh 0 0 (!w.params.followText "set-order")) }).objs.size = s.heap.objs.size + 1 := Heap.size_push ..
      have apart : l ≠ (s.heap.push { cls := .type "set", dict := none, data := .set #[] 0 (.fresh 0 0 (!w.params.followText "set-order")) }).objs.size := by
        rw [top]; exact Nat.ne_of_lt (Nat.lt_succ_of_lt low)
      have outside : s.heap.objs.size ∉ [(s.heap.push { cls := .type "set", dict := none, data := .set #[] 0 (.fresh 0 0 (!w.params.followText "set-order")) }).objs.size, l] := by
        rw [top]
        intro z
        rcases List.mem_cons.mp z with e | z
        · exact absurd e (Nat.ne_of_lt (Nat.lt_succ_self _))
        · rcases List.mem_cons.mp z with e | z
          · exact absurd e (Nat.ne_of_gt low)
          · cases z
      have vals : ∀ (i : Nat) (v : Value), its[i]? = some v → ∃ k t, ns[i]? = some k ∧ v = .int k t := fun i v hv => by
        have hi : i < ns.length := by rw [← many]; exact (Array.getElem?_eq_some_iff.mp hv).1
        obtain ⟨t, e⟩ := PyProof.Rows.IntsAre.int_at areI i v (by rw [Array.getElem?_toList]; exact hv)
        exact ⟨ns[i], t, List.getElem?_eq_getElem hi, by rw [e, List.getD_eq_getElem?_getD, List.getElem?_eq_getElem hi]; rfl⟩
      refine set_update_ints ((Walks.list calm3 _ l apart its).toS) s.heap.objs.size outside ns many few vals (its.size - 0) 0 _ (by omega) (Nat.zero_le _)
        ⟨⟨_, Heap.get?_push_size _ rfl, rfl, rfl⟩, (lst1.push _)⟩ ⟨0, Nat.le_refl 0, setR_new_at (Heap.get?_push_of_some _ new0)⟩ fun s' c' mv le' R' => ?_
      obtain ⟨g, gg, gd, gt, go⟩ := s'
      cases (show gg = s.gens from mv.gens)
      cases (show gd = s.drawn from mv.drawn)
      cases (show go = s.os from mv.os)
      show wpAny _ _ _ _ _ _
      refine wpAny_pure ?_
      show wpAny _ _ (ret Value.none) _ _ _
      refine wpAny_pure ⟨rfl, g, gt, c', rfl, R', by rw [← many]; exact le', fun b o e => ?_⟩
      have b0 : b < s.heap.objs.size := Heap.lt_size e
      refine mv.heap b o (fun z => ?_) (Heap.get?_push_of_some _ (Heap.get?_push_of_some _ e))
      rcases List.mem_cons.mp z with e | z
      · exact absurd e (Nat.ne_of_lt b0)
      · rcases List.mem_cons.mp z with e | z
        · rw [top] at e
          exact absurd e (Nat.ne_of_lt (Nat.lt_succ_of_lt b0))
        · cases z
    · match r₂, back₂ with
      | .error _, z => exact z
      | .ok .next, z => exact z.elim
      | .ok .brk, z => exact z.elim
      | .ok .cont, z => exact z.elim
      | .ok (.ret r), ⟨e1, g, tk, c', e2, R', le', kp⟩ =>
        subst e1 e2
        repeat (any_goals (first | assumption | wp_step))
        exact out _ _ _ R' le' kp
end
section
variable {X : Cx}
/-- set(xs) -/
def rSetL (K : PySem.W.Frag) (w : World) : List V → Hp → VK → Prop := fun vs H Q => ∃ (a : Addr) (ns : List Int), vs = [V.ref a] ∧ SqL K H a (ns.map V.int) ∧ ns.length ≤ 1000 ∧ ∀ p c, H p = none → c ≤ ns.length → Q (.ref p) (upd H p (SetO w p (fun j => decide (j ∈ ns)) c))
theorem cr_setL (hc : X.calm = true) : CallR X (.type "set") (rSetL X.K X.w) := by
  intro pins s σ H vs us Q I r h
  obtain ⟨a, ns, e, hs, hl, q⟩ := h
  subst e
  rw [Vals.ref1 r]
  obtain ⟨its, rv, pl, hz⟩ := I.list hs
  have sb : ns.length + 1 < scanBound := by unfold scanBound; omega
  refine set_of_list ns (I.ok.hd hc) pl.isList rv.ints sb fun g tk c R le kp => ?_
  exact ⟨.ref s.heap.objs.size, _, I.laid (t' := tk) kp (Nat.le_refl _) (setO_new R), rfl, q _ c (I.hok.fresh (Nat.le_refl _)) le⟩
end

/-! ### repr -/
section
variable {X : Cx}
def rRepr (K : PySem.W.Frag) : List V → Hp → VK → Prop := fun vs H Q => ∃ (a : Addr) (d : PyData), vs = [V.ref a] ∧ Dp K H (.ref a) d ∧ d.showable = true ∧ d.hasDict = false ∧ d.depth ≤ 100 ∧ d.shown.length ≤ sizeLine ∧ Q (.str d.shown) H
theorem cr_repr (hg : X.A.guards = some []) (hu : X.A.units + 150 < cLine) : CallR X (.builtin "repr") (rRepr X.K) := by
  intro pins s σ H vs us Q I r h
  obtain ⟨a, d, e, hd, hs, hn, hdp, hz, q⟩ := h
  subst e
  rw [Vals.ref1 r]
  obtain ⟨as, rd⟩ := Dp.reads I d (.ref a) (.ref a) hd rfl
  refine repr_of_reads' rd hs (fun z => by rw [hn] at z; cases z) hg (by omega) (fun _ _ e => e) (fun h' u tk kp => ?_) hz
  exact ⟨.str d.shown, H, I.kept kp, ⟨u, rfl⟩, q⟩
end

/-! ### tuple(xs), the object known; t.index(x) -/
section
variable {X : Cx}
def rTupX (K : PySem.W.Frag) : List V → Hp → VK → Prop := fun vs H Q => ∃ (a : Addr) (ys : List V), vs = [.ref a] ∧ SqL K H a ys ∧ ∀ p o, H p = none → o.dict = none → Q (.ref p) (upd H p (.frz o (.tup ys)))
theorem call_tupX : CallR X (.type "tuple") (rTupX X.K) := by
  intro pins s σ H vs us Q I r h
  obtain ⟨a, ys, e, hs, q⟩ := h
  subst e
  rw [Vals.ref1 r]
  obtain ⟨its, rv, pl, hz⟩ := I.list hs
  have hlen := rv.length
  have hsl := sizeLine_eq
  refine call_tuple_list pl.isList (fun g kp => ?_) (by simp only [List.size_toArray]; omega)
  have J : Inv X pins σ H { s with heap := g } := I.kept (t' := s.toks) kp
  have at_ : (g.push { cls := .type "tuple", data := .seq its.toArray }).get? g.objs.size = some { cls := .type "tuple", data := .seq its.toArray } := Heap.get?_push_size _ rfl
  exact ⟨.ref g.objs.size, _, J.laid (t' := s.toks) (fun b o z => Heap.get?_push_of_some _ z) (Nat.le_refl _) (show ObjOk X.prog X.w _ _ _ (.frz { cls := .type "tuple", data := .seq its.toArray } (.tup ys)) from ⟨at_, hz, its, rv, IsTup.new _ _⟩), rfl, q _ _ (J.hok.fresh (Nat.le_refl _)) rfl⟩
/-- t.index(x) of a known tuple of flat things: the first place -/
def tIdx (K : PySem.W.Frag) (to te : TE) : TE := fun σ H Q => to σ H fun x H1 => ∃ a o ys, x = .ref a ∧ H1 a = some (.frz o (.tup ys)) ∧ o.dict = none ∧ te σ H1 fun y H2 => ∃ j z, H2 a = some (.frz o (.tup ys)) ∧ flatV y = true ∧ ys.all flatV = true ∧
  ys[j]? = some z ∧ eqV z y = true ∧ (∀ m z', m < j → ys[m]? = some z' → eqV z' y = false) ∧ Q (.int (j : Nat)) H2
variable {o e : Expr} {to te : TE} {apos cpos : Pos}
theorem pe_tupIdx (ho : PE X o to) (he : PE X e te) (hbase : attributeBase o "index" X.env (eval o X.env) = eval o X.env := by rfl)
    (hfew : ((backTo cpos (starEach [e] X.env)).all (fun x => !x.1) && (backToKw cpos (keywordEach [] X.env)).all (fun x => x.1.isSome)
      && decide ([e].length + ([] : List Keyword).length + (if ([] : List Keyword).isEmpty then 0 else 1) < 30)) = true := by rfl)
    (hline : (apos.endLine == cpos.line) = true := by rfl) (hs : starEach [e] X.env = (false, eval e X.env) :: starEach [] X.env := by rfl) :
    PE X (.Call (.Attribute o "index" apos) [e] [] cpos) (tIdx X.K to te) := ⟨fun pins s σ H Q I h => by
  refine wpAny_Call_method_late hbase hfew hline rfl (thn (ho.run pins s σ H _ I h) fun v s1 ⟨x, H1, I1, r1, a, ob, ys, ex, ha, hd, q1⟩ => ?_)
  subst ex
  cases r1
  have there : ∀ {s2 : Shared} {H2 : Hp}, Inv X pins σ H2 s2 → H2 a = some (.frz ob (.tup ys)) → s2.heap.get? a = some ob ∧ ∃ its : List Value, Vals ys its ∧ IsTup s2.heap a its.toArray := fun {s2 H2} I2 z => by
    obtain ⟨z1, _, its, rv, it⟩ := (show ObjOk X.prog X.w H2 s2.heap a (.frz ob (.tup ys)) from I2.hok a _ z)
    exact ⟨z1, its, rv, it⟩
  obtain ⟨g1, its1, rv1, it1⟩ := there I1 ha
  have ty : s1.TypeIs (.ref a) "tuple" := by
    obtain ⟨o', z1, z2, _⟩ := it1
    exact ⟨o', z1, z2⟩
  refine ⟨"tuple", "tuple.index", F.plainAttrs_tuple, F.slot_tuple_index, F.type_tuple_index, ty, fun b z => ?_, ?_⟩
  · cases z
    exact ⟨ob, g1, hd⟩
  · rw [hs]
    refine Calls.callWith_builtin rfl (Calls.evalArgs_plain ?_)
    show wpAny _ _ (spliced ((false, eval e X.env) :: backTo cpos (starEach [] X.env))) _ _ _
    refine Calls.spliced_cons (thn (he.run pins s1 σ H1 _ I1 q1) fun u s2 ⟨y, H2, I2, r2, j, z, ha2, fy, fys, hz, hzj, hno, q2⟩ => Calls.spliced_nil ?_)
    obtain ⟨g2, its, rv, ⟨⟨cls, dd, data, sl⟩, ho2, hc2, n, hd2⟩⟩ := there I2 ha2
    simp only at hc2 hd2
    subst hc2 hd2
    obtain ⟨u1, hu1, ru1⟩ := L2.Vals.get rv hz
    obtain ⟨hjl, hje⟩ := List.getElem?_eq_some_iff.mp hu1
    have hvl := rv.length
    have hj : j < its.toArray.size := by simpa using hjl
    refine call_meets F.slot_tuple_index ⟨_, ho2, rfl⟩ F.entry_tuple_index (F.args_tuple_index_2 _ _) (TI.tuple_indexAt a its.toArray n dd sl u (eqU y) j hj ?_ ?_)
      ⟨ho2, fun u' hu' => mem_eqAt r2 fy rv fys u' (by simpa using hu'), ⟨.int (j : Nat), H2, I2.tok _, ⟨_, rfl⟩, q2⟩⟩
    · have e1 : its.toArray[j] = u1 := by simpa using hje
      rw [e1, eqU_of ru1 (flat_at fys hz)]
      exact hzj
    · intro m hm hmj
      have hml : m < its.length := by simpa using hm
      have hmy : m < ys.length := by omega
      have hy' : ys[m]? = some ys[m] := List.getElem?_eq_getElem hmy
      obtain ⟨u2, hu2, ru2⟩ := L2.Vals.get rv hy'
      obtain ⟨_, hme⟩ := List.getElem?_eq_some_iff.mp hu2
      have e1 : its.toArray[m] = u2 := by simpa using hme
      rw [e1, eqU_of ru2 (flat_at fys hy')]
      exact hno m _ hmj hy'⟩
/-- (x,) * n -/
def rRep1 (K : PySem.W.Frag) : R2 := fun x y H Q => ∃ l k v, x = .ref l ∧ y = .int k ∧ SqT K H l [v] ∧ 2 ≤ k ∧ k ≤ 1000000 ∧ ∀ p, H p = none → Q (.ref p) (upd H p (.tup (List.replicate k.toNat v)))
theorem flat_rep {α : Type} (x : α) : ∀ n : Nat, (List.replicate n [x]).flatten = List.replicate n x
  | 0 => rfl
  | n + 1 => by rw [List.replicate_succ, List.flatten_cons, flat_rep x n]; rfl
theorem op_rep1 : OpR X (binaryOp .Mult) (rRep1 X.K) := by
  intro pins s σ H x y vv uu Q I rx ry h
  obtain ⟨l, k, v, e1, e2, hT, h1, h2, q⟩ := h
  subst e1 e2
  cases rx
  obtain ⟨t, et⟩ := ry
  subst et
  obtain ⟨its, r, ⟨⟨cls, dd, data, sl⟩, ho, hc, n, hd⟩, hs⟩ := I.tuple hT
  simp only at hc hd
  subst hc hd
  cases r with
  | cons r1 r2 =>
    rename_i it rest
    cases r2
    have sz : ((#[it] : Array Value).size : Int) = 1 := rfl
    have flen : (List.replicate k.toNat [it]).flatten.length ≤ sizeLine := by
      rw [flat_rep, List.length_replicate, sizeLine_eq]
      omega
    have c0 : (decide (k < -(2 ^ 63)) || decide (k ≥ 2 ^ 63)) = false := by
      rw [decide_eq_false (by omega), decide_eq_false (by omega)]
      rfl
    have c1 : ((#[it] : Array Value).isEmpty || k == 1) = false := by
      show (false || k == 1) = false
      rw [Bool.false_or]
      exact beq_eq_false_iff_ne.mpr (by omega)
    have c2 : (decide (k ≤ 0) || (#[it] : Array Value).isEmpty) = false := by
      show (decide (k ≤ 0) || false) = false
      rw [Bool.or_false]
      exact decide_eq_false (by omega)
    have c4 : Builtin.Tuple.tupleTooMany (((#[it] : Array Value).size : Int) * k) = false := by
      unfold Builtin.Tuple.tupleTooMany
      rw [sizeLine_eq, sz]
      exact decide_eq_false (by omega)
    have fo : (List.foldl (fun x1 x2 => x1 ++ x2) #[] (List.replicate k.toNat #[it])) = (List.replicate k.toNat it).toArray := by
      have z := size_rep [it] k.toNat
      rw [flat_rep] at z
      exact z
    refine wpAny_binaryOp_repeat_ref (T := "tuple") (U := "int") (by decide) ⟨_, ho, rfl⟩ (fun s' => typeIs_int s' k t) noFill_tuple_mul F.fills_int_mul F.slot_int_rmul repeat_tuple F.slot_int_index.lookup
      (call_meets F.slot_int_rmul (typeIs_int s k t) F.entry_int_rmul (F.args_int_rmul_2 _ _) (int_rmul_tuple k t l #[it] n dd sl)
        ⟨ho, rfl, ⟨_, ho, rfl⟩, call_meets F.slot_tuple_mul ⟨_, ho, rfl⟩ F.entry_tuple_mul (F.args_tuple_mul_2 _ _) (tuple_mulW l #[it] n dd sl k t c0 c1 c2 (by rw [sz]; omega) c4 (by rw [fo, List.size_toArray, List.length_replicate, sizeLine_eq]; omega)) ⟨ho, ?_⟩⟩)
    rw [fo]
    have rr : Vals (List.replicate k.toNat v) (List.replicate k.toNat it) := by
      generalize k.toNat = m
      induction m with
      | zero => exact .nil
      | succ m ih => rw [List.replicate_succ, List.replicate_succ]; exact .cons r1 ih
    exact ⟨.ref s.heap.objs.size, _, I.laid (t' := s.toks) (fun b ob z => Heap.get?_push_of_some _ z) (Nat.le_refl _) (show ObjOk X.prog X.w _ _ _ (.tup (List.replicate k.toNat v)) from ⟨by rw [List.length_replicate, sizeLine_eq]; omega, _, rr, IsTup.new _ _⟩), rfl, q _ (I.hok.fresh (Nat.le_refl _))⟩
end
end T2
namespace T2
open PySem PySem.Spec PyProof.Rows L2 RZ

section
variable {K : PySem.W.Frag} {W : WX} {M M1 : Mem} {H H1 : Hp} {P : Post} {Δ : Sls} {Χ : Exc} {Ψ : PsiE} {ds : List D} {p : Addr}

/-! ### sets, repr, known tuples, repetition -/
theorem arl_set {w : World} {ns : List Int} (hl : ns.length ≤ 1000) (k : ∀ c, c ≤ ns.length → Ψ (.raw fun a => SetO w a (fun j => decide (j ∈ ns)) c) M) : ARL K (rSetL K w) [.lst (ns.map D.int)] M Ψ := fun H vs ok r Q q => by
  cases r with
  | cons r1 r2 =>
    cases r2
    cases r1 with
    | lst s rl =>
      cases repL_ints rl
      exact ⟨_, ns, rfl, sqL_mono fz_sub s, hl, fun a c ha hc => q M _ _ _ (stp_new ha) (ok_new ok ha) (.raw (fz_of (ok.fresh ha) upd_same)) (k c hc)⟩
theorem arl_setM {w : World} {ns : List Int} (hm : M p = some (.lst (ns.map D.int))) (hl : ns.length ≤ 1000) (k : ∀ c, c ≤ ns.length → Ψ (.raw fun a => SetO w a (fun j => decide (j ∈ ns)) c) M) : ARL K (rSetL K w) [.ref p] M Ψ := fun H vs ok r Q q => by
  cases r with
  | cons r1 r2 =>
    cases r2
    cases r1
    obtain ⟨vs, hp, rl⟩ := ok p _ hm
    cases repL_ints rl
    exact ⟨_, ns, rfl, SqL.of hp, hl, fun a c ha hc => q M _ _ _ (stp_new ha) (ok_new ok ha) (.raw (fz_of (ok.fresh ha) upd_same)) (k c hc)⟩
/-- the unlike ints in rising order -/
def ddI : List Int → List Int
  | [] => []
  | x :: r => if x ∈ r then ddI r else x :: ddI r
theorem mem_ddI {x : Int} : ∀ {ns : List Int}, x ∈ ddI ns ↔ x ∈ ns
  | [] => Iff.rfl
  | y :: r => by
    unfold ddI
    have ih := mem_ddI (x := x) (ns := r)
    split
    · rename_i h
      rw [ih, List.mem_cons]
      exact ⟨.inr, fun z => z.elim (fun e => by rw [e]; exact h) id⟩
    · rw [List.mem_cons, List.mem_cons, ih]
theorem nodup_ddI : ∀ ns : List Int, (ddI ns).Nodup
  | [] => List.nodup_nil
  | y :: r => by
    unfold ddI
    split
    · exact nodup_ddI r
    · rename_i h
      exact List.nodup_cons.mpr ⟨fun z => h (mem_ddI.mp z), nodup_ddI r⟩
def lotI (ns : List Int) : List Int := isort (ddI ns)
theorem mem_isort {x : Int} {ns : List Int} : x ∈ isort ns ↔ x ∈ ns := (isort_perm ns).mem_iff
theorem lt_unique : ∀ {xs ys : List Int}, xs.Pairwise (· < ·) → ys.Pairwise (· < ·) → (∀ k, k ∈ xs ↔ k ∈ ys) → xs = ys
  | [], [], _, _, _ => rfl
  | [], y :: ys, _, _, h => absurd ((h y).mpr (List.mem_cons_self ..)) (by simp)
  | x :: xs, [], _, _, h => absurd ((h x).mp (List.mem_cons_self ..)) (by simp)
  | x :: xs, y :: ys, hx, hy, h => by
    have hx' := List.pairwise_cons.mp hx
    have hy' := List.pairwise_cons.mp hy
    have e : x = y := by
      rcases List.mem_cons.mp ((h x).mp (List.mem_cons_self ..)) with a | a
      · exact a
      · rcases List.mem_cons.mp ((h y).mpr (List.mem_cons_self ..)) with b | b
        · exact b.symm
        · have c1 := hy'.1 x a
          have c2 := hx'.1 y b
          omega
    subst e
    rw [lt_unique hx'.2 hy'.2 fun k => ?_]
    constructor
    · intro m
      rcases List.mem_cons.mp ((h k).mp (List.mem_cons_of_mem _ m)) with e | e
      · subst e; exact absurd (hx'.1 k m) (Int.lt_irrefl k)
      · exact e
    · intro m
      rcases List.mem_cons.mp ((h k).mpr (List.mem_cons_of_mem _ m)) with e | e
      · subst e; exact absurd (hy'.1 k m) (Int.lt_irrefl k)
      · exact e
theorem lotI_lt (ns : List Int) : (lotI ns).Pairwise (· < ·) := by
  have h1 := isort_sorted (ddI ns)
  have h2 : (isort (ddI ns)).Nodup := (isort_perm (ddI ns)).nodup_iff.mpr (nodup_ddI ns)
  unfold lotI
  exact (h1.and h2).imp fun {a b} ⟨x, y⟩ => by omega
theorem mem_lotI {x : Int} {ns : List Int} : x ∈ lotI ns ↔ x ∈ ns := by
  unfold lotI
  rw [mem_isort, mem_ddI]
theorem arl_sortedSet {w : World} {ns : List Int} {c : Nat} (hc : c < 64) (k : Ψ (.lst ((lotI ns).map D.int)) M) : ARL K (rSortedSet w) [.raw fun a => SetO w a (fun j => decide (j ∈ ns)) c] M Ψ := fun H vs ok r Q q => by
  cases r with
  | cons r1 r2 =>
    cases r2
    cases r1 with
    | raw s =>
      refine ⟨_, _, c, rfl, fz_sub _ _ s, hc, fun xs a lt mem hn ha => ?_⟩
      have e : xs = lotI ns := lt_unique lt (lotI_lt ns) fun k => by rw [mem k, mem_lotI]; exact decide_eq_true_iff
      subst e
      exact q M _ _ _ (stp_new ha) (ok_new ok ha) (.lst (SqL.of (fz_of (ok.fresh ha) upd_same)) ints_repL) k
/-- repr of plain data -/
def shownD (d : D) : Str := (toP d).shown
def isSeq : D → Bool
  | .tup _ => true
  | .lst _ => true
  | _ => false
theorem arl_repr {d : D} {n : Nat} (hs : isSeq d = true) (g : good n d = true) (hn : n ≤ 64) (hsh : (toP d).showable = true) (hz : (shownD d).length ≤ 1000000) (k : Ψ (.str (shownD d)) M) : ARL K (rRepr K) [d] M Ψ := fun H vs ok r Q q => by
  cases r with
  | cons r1 r2 =>
    cases r2
    rename_i v
    have hd := dp_of (H := H) fz_sub d n v g r1
    have hc := can_of d n g
    have hv : ∃ a, v = .ref a := by
      cases r1 <;> first | exact ⟨_, rfl⟩ | (cases hs)
    obtain ⟨a, e⟩ := hv
    subst e
    exact ⟨a, toP d, rfl, hd, hsh, PyData.hasDict_of_canLay _ hc.1, by omega, Nat.le_trans hz (by decide), q.here ok (.str _) k⟩
theorem arl_reprI {i : Int} (hi : i.natAbs.log2 < 1920) (k : Ψ (.str (toString i : String)) M) : ARL K (fun xs H Q => ∃ i, xs = [.int i] ∧ i.natAbs.log2 < 1920 ∧ Q (.str (toString i)) H) [.int i] M Ψ := fun H vs ok r Q q => by
  cases r with
  | cons r1 r2 =>
    cases r2
    cases r1
    exact ⟨i, rfl, hi, q.here ok (.str _) k⟩
theorem arl_tupX (k : Ψ (.xtup ds) M) : ARL K (rTupX K) [.lst ds] M Ψ := fun H vs ok r Q q => by
  cases r with
  | cons r1 r2 =>
    cases r2
    cases r1 with
    | lst s rl => exact ⟨_, _, rfl, sqL_mono fz_sub s, fun a o ha ho => q M _ _ _ (stp_new ha) (ok_new ok ha) (.xtup (fz_of (ok.fresh ha) upd_same) ho (RepL.mono (stp_new ha).same _ _ rl)) k⟩
/-- flat values of trees -/
def toV : D → V
  | .non => .non
  | .bl b => .bl b
  | .int i => .int i
  | .str x => .str x
  | _ => .byt #[]
def flatD : D → Bool
  | .non => true
  | .bl _ => true
  | .int _ => true
  | .str _ => true
  | _ => false
theorem rep_flat {F : Hp} {d : D} {v : V} (f : flatD d = true) (r : Rep K F d v) : v = toV d ∧ flatV v = true := by
  cases r <;> first | exact ⟨rfl, rfl⟩ | (cases f)
theorem repL_flat {F : Hp} : ∀ {ds : List D} {vs : List V}, ds.all flatD = true → RepL K F ds vs → vs = ds.map toV ∧ vs.all flatV = true
  | [], _, _, h => by cases h; exact ⟨rfl, rfl⟩
  | d :: ds, _, f, h => by
    rw [List.all_cons, Bool.and_eq_true] at f
    cases h with
    | cons h1 h2 =>
      obtain ⟨a1, a2⟩ := rep_flat f.1 h1
      obtain ⟨b1, b2⟩ := repL_flat f.2 h2
      subst a1 b1
      exact ⟨rfl, by rw [List.all_cons, a2, b2]; rfl⟩
/-- x in .. of flat things -/
def inD (x : D) (ds : List D) : Bool := inV (toV x) (ds.map toV)
theorem ar_inT {x : D} {neg : Bool} (fx : flatD x = true) (fd : ds.all flatD = true) (k : Ψ (.bl (if neg then !inD x ds else inD x ds)) M) : AR2 K (rIn K neg) x (.tup ds) M Ψ := fun H v u ok r1 r2 Q q => by
  obtain ⟨a1, a2⟩ := rep_flat fx r1
  cases r2 with
  | tup s rl =>
    obtain ⟨b1, b2⟩ := repL_flat fd rl
    refine ⟨_, _, rfl, .inr (sqT_mono fz_sub s), a2, b2, ?_⟩
    rw [a1, b1]
    exact q.here ok (.bl _) k
theorem ar_inL {x : D} {neg : Bool} (fx : flatD x = true) (fd : ds.all flatD = true) (k : Ψ (.bl (if neg then !inD x ds else inD x ds)) M) : AR2 K (rIn K neg) x (.lst ds) M Ψ := fun H v u ok r1 r2 Q q => by
  obtain ⟨a1, a2⟩ := rep_flat fx r1
  cases r2 with
  | lst s rl =>
    obtain ⟨b1, b2⟩ := repL_flat fd rl
    refine ⟨_, _, rfl, .inl (sqL_mono fz_sub s), a2, b2, ?_⟩
    rw [a1, b1]
    exact q.here ok (.bl _) k
theorem ar_inM {x : D} {neg : Bool} (hm : M p = some (.lst ds)) (fx : flatD x = true) (fd : ds.all flatD = true) (k : Ψ (.bl (if neg then !inD x ds else inD x ds)) M) : AR2 K (rIn K neg) x (.ref p) M Ψ := fun H v u ok r1 r2 Q q => by
  obtain ⟨a1, a2⟩ := rep_flat fx r1
  cases r2
  obtain ⟨vs, hp, rl⟩ := ok p _ hm
  obtain ⟨b1, b2⟩ := repL_flat fd rl
  refine ⟨_, _, rfl, .inl (SqL.of hp), a2, b2, ?_⟩
  rw [a1, b1]
  exact q.here ok (.bl _) k
theorem inD_ints {x : Int} : ∀ {ns : List Int}, inD (.int x) (ns.map D.int) = decide (x ∈ ns)
  | [] => rfl
  | n :: ns => by
    have ih := inD_ints (x := x) (ns := ns)
    unfold inD inV at ih ⊢
    simp only [List.map_cons, List.any_cons] at ih ⊢
    rw [ih]
    show (n == x || decide (x ∈ ns)) = decide (x ∈ n :: ns)
    by_cases e : n = x
    · subst e; simp
    · have e2 : ¬ x = n := fun z => e z.symm
      have e3 : (n == x) = false := beq_eq_false_iff_ne.mpr e
      rw [e3, Bool.false_or]
      simp [e2]
theorem flat_ints (ns : List Int) : (ns.map D.int).all flatD = true := by
  rw [List.all_map]
  exact List.all_eq_true.mpr fun _ _ => rfl
/-- t.index(x) -/
theorem ae_idx {to te : TE} (h : AE K W Χ Δ to M fun o M1 => ∃ ns : List Int, o = .xtup (ns.map D.int) ∧ AE K W Χ Δ te M1 fun y M2 => ∃ (x : Int) (j : Nat), y = .int x ∧ ns[j]? = some x ∧ (∀ m : Nat, m < j → ns[m]? ≠ some x) ∧ Ψ (.int j) M2) :
    AE K W Χ Δ (tIdx K to te) M Ψ := fun σ H ok sl gx Q g =>
  h σ H ok sl gx _ fun M1 H1 o v s1 ok1 r1 ⟨ns, eo, h1⟩ => by
    subst eo
    cases r1 with
    | xtup hF ho rl =>
      rename_i a vs ob
      cases repL_ints rl
      refine ⟨a, ob, _, rfl, fz_sub _ _ hF, ho, h1 σ H1 ok1 (sl.mono s1.same) (gx.step s1) _ fun M2 H2 y u s2 ok2 r2 ⟨x, j, ey, hj, hno, k⟩ => ?_⟩
      subst ey
      cases r2
      refine ⟨j, .int x, fz_sub _ _ (s2.same _ _ hF), rfl, ?_, ?_, ?_, fun m z hm hz => ?_, g M2 H2 _ _ (s1.trans s2) ok2 (.int _) k⟩
      · rw [List.all_map]; exact List.all_eq_true.mpr fun _ _ => rfl
      · rw [List.getElem?_map, hj]; rfl
      · show (x == x) = true
        exact beq_self_eq_true x
      · rw [List.getElem?_map] at hz
        cases e : ns[m]? with
        | none => rw [e] at hz; cases hz
        | some y =>
          rw [e] at hz
          have ez : V.int y = z := by simpa using hz
          subst ez
          show (y == x) = false
          exact beq_eq_false_iff_ne.mpr fun q => hno m hm (by rw [e, q])
theorem repL_rep {F : Hp} {d : D} {v : V} (r : Rep K F d v) : ∀ n : Nat, RepL K F (List.replicate n d) (List.replicate n v)
  | 0 => .nil
  | n + 1 => .cons r (repL_rep r n)
theorem ar_rep1 {d : D} {n : Int} (h1 : 2 ≤ n) (h2 : n ≤ 1000000) (k : Ψ (.tup (List.replicate n.toNat d)) M) : AR2 K (rRep1 K) (.tup [d]) (.int n) M Ψ := fun H v u ok r1 r2 Q q => by
  cases r2
  cases r1 with
  | tup s rl =>
    cases rl with
    | cons rd rn =>
      cases rn
      exact ⟨_, n, _, rfl, rfl, sqT_mono fz_sub s, h1, h2, fun a ha => q M _ _ _ (stp_new ha) (ok_new ok ha) (.tup (SqT.of (fz_of (ok.fresh ha) upd_same)) (repL_rep (Rep.mono (stp_new ha).same _ _ rd) _)) k⟩

/-! ### isinstance of a built-in class -/
def dty : D → Option String
  | .non => some "NoneType"
  | .bl _ => some "bool"
  | .int _ => some "int"
  | .str _ => some "str"
  | .tup _ => some "tuple"
  | .xtup _ => some "tuple"
  | .lst _ => some "list"
  | _ => none
theorem tyX_of {d : D} {v : V} {t : String} (hd : dty d = some t) (r : Rep K (Fz M H) d v) : TyX K H v (.type t) := by
  cases r with
  | non => cases hd; exact .base .non
  | bl b => cases hd; exact .base (.bl b)
  | int i => cases hd; exact .base (.int i)
  | str x => cases hd; exact .base (.str x)
  | ref a => cases hd
  | ty n => cases hd
  | raw s => cases hd
  | exc s r => cases hd
  | obj s r => cases hd
  | tup s r =>
    cases hd
    rcases s with (s | ⟨o, s⟩) | ⟨o, its, n, hk, hc, _⟩
    · exact .base (.tup (fz_sub _ _ s))
    · exact .fTuple (fz_sub _ _ s)
    · exact .kTuple hk hc
  | xtup s d r =>
    cases hd
    exact .fTuple (fz_sub _ _ s)
  | lst s r =>
    cases hd
    rcases s with (s | ⟨o, s⟩) | ⟨o, its, n, hk, hc, _⟩
    · exact .base (.lst (fz_sub _ _ s))
    · exact .base (.frz (fz_sub _ _ s))
    · exact .kList hk hc
theorem arl_isi {d : D} {t c : String} {b : Bool} (hd : dty d = some t) (hk : kitB t c = some b) (k : Ψ (.bl b) M) : ARL K (rIsi K) [d, .ty c] M Ψ := fun H vs ok r Q q => by
  cases r with
  | cons r1 r2 =>
    cases r2 with
    | cons r2 r3 =>
      cases r3
      cases r2
      exact ⟨_, _, _, _, b, rfl, .ty c, tyX_of hd r1, kit_ty hk, q.here ok (.bl b) k⟩
theorem arl_isiD {c : String} {b : Bool} (hk : kitB "dict" c = some b) (k : Ψ (.bl b) M) : ARL K (rIsi K) [.raw fun _ => .dK [], .ty c] M Ψ := fun H vs ok r Q q => by
  cases r with
  | cons r1 r2 =>
    cases r2 with
    | cons r2 r3 =>
      cases r3
      cases r2
      cases r1 with
      | raw s => exact ⟨_, _, _, _, b, rfl, .ty c, .base (.dK (fz_sub _ _ s)), kit_ty hk, q.here ok (.bl b) k⟩

/-! ### slices -/
def AO (K : PySem.W.Frag) (W : WX) (Χ : Exc) (Δ : Sls) (to : TO) (M : Mem) (Φ : Option Int → Mem → Prop) : Prop :=
  ∀ σ H, Ok K M H → Slots K (Fz M H) Δ σ → GoodX K W M H σ Χ → ∀ Q : Option Int → Hp → Prop, (∀ M' H' o, Stp M H M' H' → Ok K M' H' → Φ o M' → Q o H') → to σ H Q
theorem ao_none {Φ : Option Int → Mem → Prop} (k : Φ none M) : AO K W Χ Δ tNoPart M Φ := fun σ H ok sl gx Q g => g M H none (Stp.refl M H) ok k
theorem ao_some {te : TE} {Φ : Option Int → Mem → Prop} (h : AE K W Χ Δ te M fun d M1 => ∃ i, d = .int i ∧ Φ (some i) M1) : AO K W Χ Δ (tPart te) M Φ := fun σ H ok sl gx Q g =>
  h σ H ok sl gx _ fun M1 H1 d v s1 ok1 r1 ⟨i, e, k⟩ => by
    subst e
    cases r1
    exact ⟨i, rfl, g M1 H1 (some i) s1 ok1 k⟩
def cutD (xs : List D) (lo hi : Option Int) : List D := (xs.drop (HT.sIx xs.length 0 lo)).take (HT.sIx xs.length xs.length hi - HT.sIx xs.length 0 lo)
theorem RepL.cut {F : Hp} {vs : List V} (r : RepL K F ds vs) (lo hi : Option Int) : RepL K F (cutD ds lo hi) (cutV vs lo hi) := by
  unfold cutD cutV
  rw [r.length]
  exact (r.drop _).take _
theorem ae_slL {te : TE} {tl th : TO} (h : AE K W Χ Δ te M fun d M1 => ∃ xs, d = .lst xs ∧ AO K W Χ Δ tl M1 fun lo M2 => AO K W Χ Δ th M2 fun hi M3 => Ψ (.lst (cutD xs lo hi)) M3) : AE K W Χ Δ (tSl (rSlL K) te tl th) M Ψ := fun σ H ok sl gx Q g =>
  h σ H ok sl gx _ fun M1 H1 d v s1 ok1 r1 ⟨xs, e, h1⟩ => h1 σ H1 ok1 (sl.mono s1.same) (gx.step s1) _ fun M2 H2 lo s2 ok2 h2 => h2 σ H2 ok2 (sl.mono (s1.trans s2).same) (gx.step (s1.trans s2)) _ fun M3 H3 hi s3 ok3 k => by
    subst e
    cases r1 with
    | lst s rl =>
      have s13 := s2.trans s3
      exact ⟨_, _, rfl, sqL_mono fz_sub (sqL_mono s13.same s), fun a ha => g M3 _ _ _ ((s1.trans s13).trans (stp_new ha)) (ok_new ok3 ha) (.lst (SqL.of (fz_of (ok3.fresh ha) upd_same)) (RepL.mono (s13.trans (stp_new ha)).same _ _ (rl.cut lo hi))) k⟩
theorem cut_whole {α : Type} {xs : List α} {lo hi : Option Int} (h : HT.sIx xs.length 0 lo = 0 ∧ HT.sIx xs.length xs.length hi = xs.length) : (xs.drop (HT.sIx xs.length 0 lo)).take (HT.sIx xs.length xs.length hi - HT.sIx xs.length 0 lo) = xs := by
  rw [h.1, h.2, List.drop_zero, Nat.sub_zero, List.take_length]
theorem ae_slT {te : TE} {tl th : TO} (h : AE K W Χ Δ te M fun d M1 => ∃ xs, d = .tup xs ∧ AO K W Χ Δ tl M1 fun lo M2 => AO K W Χ Δ th M2 fun hi M3 => Ψ (.tup (cutD xs lo hi)) M3) : AE K W Χ Δ (tSl (rSlA K) te tl th) M Ψ := fun σ H ok sl gx Q g =>
  h σ H ok sl gx _ fun M1 H1 d v s1 ok1 r1 ⟨xs, e, h1⟩ => h1 σ H1 ok1 (sl.mono s1.same) (gx.step s1) _ fun M2 H2 lo s2 ok2 h2 => h2 σ H2 ok2 (sl.mono (s1.trans s2).same) (gx.step (s1.trans s2)) _ fun M3 H3 hi s3 ok3 k => by
    subst e
    cases r1 with
    | tup s rl =>
      rename_i a vs
      have s13 := s2.trans s3
      refine ⟨_, _, rfl, sqT_mono fz_sub (sqT_mono s13.same s), fun hw => ?_, fun hw a ha => g M3 _ _ _ ((s1.trans s13).trans (stp_new ha)) (ok_new ok3 ha) (.tup (SqT.of (fz_of (ok3.fresh ha) upd_same)) (RepL.mono (s13.trans (stp_new ha)).same _ _ (rl.cut lo hi))) k⟩
      have e1 : cutV vs lo hi = vs := cut_whole hw
      have rc := rl.cut lo hi
      rw [e1] at rc
      exact g M3 H3 _ _ (s1.trans s13) ok3 (.tup (sqT_mono s13.same s) (RepL.mono s13.same _ _ rc)) k
/-- xs[::-1] -/
theorem ae_revL {te : TE} (h : AE K W Χ Δ te M fun d M1 => ∃ xs, d = .lst xs ∧ Ψ (.lst xs.reverse) M1) : AE K W Χ Δ (tRevL K te) M Ψ := fun σ H ok sl gx Q g =>
  h σ H ok sl gx _ fun M1 H1 d v s1 ok1 r1 ⟨xs, e, k⟩ => by
    subst e
    cases r1 with
    | lst s rl => exact ⟨_, _, rfl, sqL_mono fz_sub s, fun a ha => g M1 _ _ _ (s1.trans (stp_new ha)) (ok_new ok1 ha) (.lst (SqL.of (fz_of (ok1.fresh ha) upd_same)) (RepL.mono (stp_new ha).same _ _ rl.reverse)) k⟩
theorem ae_revLM {te : TE} (h : AE K W Χ Δ te M fun d M1 => ∃ xs, d = .lst xs ∧ ∀ p, M1 p = none → Ψ (.ref p) (M1.set p (.lst xs.reverse))) : AE K W Χ Δ (tRevL K te) M Ψ := fun σ H ok sl gx Q g =>
  h σ H ok sl gx _ fun M1 H1 d v s1 ok1 r1 ⟨xs, e, k⟩ => by
    subst e
    cases r1 with
    | lst s rl => exact ⟨_, _, rfl, sqL_mono fz_sub s, fun a ha =>
        let st : Stp M1 H1 (M1.set a (.lst xs.reverse)) (upd H1 a (.lst _)) := stp_newM ha
        g _ _ _ _ (s1.trans st) (ok_set ok1 st ⟨_, upd_same, RepL.mono st.same _ _ rl.reverse⟩) (.ref a) (k a (ok1.fresh ha))⟩
/-- t + u -/
theorem ar_catT {xs ys : List D} (hl : xs.length + ys.length ≤ 100000) (k : Ψ (.tup (xs ++ ys)) M) : AR2 K (rCatA K) (.tup xs) (.tup ys) M Ψ := fun H v u ok r1 r2 Q q => by
  cases r1 with
  | tup s1 l1 =>
    cases r2 with
    | tup s2 l2 =>
      have e1 := l1.length
      have e2 := l2.length
      refine ⟨_, _, _, _, rfl, rfl, sqT_mono fz_sub s1, sqT_mono fz_sub s2, Evl.sz_of (by omega), fun z => ?_, fun z1 z2 => ?_, fun z1 z2 a ha => q M _ _ _ (stp_new ha) (ok_new ok ha) (.tup (SqT.of (fz_of (ok.fresh ha) upd_same)) (RepL.mono (stp_new ha).same _ _ (l1.append l2))) k⟩
      · subst z
        have z0 : xs = [] := List.length_eq_zero_iff.mp e1
        subst z0
        exact q.here ok (.tup s2 l2) k
      · subst z2
        have z0 : ys = [] := List.length_eq_zero_iff.mp e2
        subst z0
        rw [List.append_nil] at k
        exact q.here ok (.tup s1 l1) k
/-- {} -/
theorem ae_dic0 {t : TE} (ht : ∀ σ H Q, (∀ d, H d = none → Q (.ref d) (upd H d (.dK []))) → t σ H Q) (k : Ψ (.raw fun _ => .dK []) M) : AE K W Χ Δ t M Ψ := fun σ H ok sl gx Q g =>
  ht σ H Q fun d hd => g M _ _ _ (stp_new hd) (ok_new ok hd) (.raw (fz_of (ok.fresh hd) upd_same)) k
end
end T2
/-! own exceptions: def __init__(self, F): super().__init__(lit); self.F = F -/
namespace T2
open PySem PySem.W PySem.Calls PyProof.Rows PySem.HandSPX
def xA (p1 p2 : Pos) (fx : Str) : Arguments := { posonlyargs := [], args := [{ arg := "self", annotation := none, pos := p1 }, { arg := fx, annotation := none, pos := p2 }], vararg := none, kwonlyargs := [], kw_defaults := [], kwarg := none, defaults := [] }
def xB (fx lit : Str) (k : Nat) (p0 p1 p2 p3 p4 p5 q1 q2 q3 q4 : Pos) : List Stmt :=
  [.Expr (.Call (.Attribute (.Call (.Name "super" p0) [] [] p1) "__init__" p2) [.Constant (.str lit) k p3] [] p4) p5, .Assign [.Attribute (.Name "self" q1) fx q2] (.Name fx q3) q4]
def xS (fx : Str) : Scope := { kind := .function, names := [("self", .local), (fx, .local), ("__class__", .free), ("super", .globalImplicit)], isGenerator := false, isCoroutine := false, more := [] }
/-- the text of __init__ -/
structure XTxt (st : Stmt) (fx : Str) : Prop where
  args : ∃ p1 p2, L2.defArgs st = xA p1 p2 fx
  body : ∃ lit k p0 p1 p2 p3 p4 p5 q1 q2 q3 q4, L2.defBody st = xB fx lit k p0 p1 p2 p3 p4 p5 q1 q2 q3 q4 ∧ (p2.endLine == p4.line) = true
  scope : L2.defScope st = xS fx
  hF : (xS fx).names.lookup fx = some .local
  hS : (xS fx).names.lookup ("super" : Str) = some .globalImplicit
  hC : (xS fx).names.lookup ("__class__" : Str) = some .free
  nF : ((fx : Str) == ("self" : Str)) = false
  nS : (("self" : Str) == fx) = false
  nD : ((fx : Str) == ("__debug__" : Str)) = false
  bind : ∀ (p1 p2 : Pos) (body : List Stmt) (q : Str) (kV doc pm : Value) (an : Option Addr) (cdv ct : Value) (cc : Addr) (u v : Value), bindArgs (ksFn "__init__" q (xA p1 p2 fx) body (xS fx) .none kV doc pm an cdv ct cc) ⟨[u, v], []⟩ = pure [(("self" : Str), u), (fx, v)]
/-- what the written part says of the class at C, its __init__ at fI -/
structure OwnX (P : Program) (K : Frag) (mg : Str → Option Value) (C fI : Addr) (fx : Str) : Prop where
  cls : ∃ nm q N bs bm sn sub ab col dd k0 k1 k2 k3 k5, K.lookup C = some (excClassObj nm q C N bs bm true sn sub ab col dd k0 k1 k2 k3 k5 "ValueError.__new__") ∧ refsVE bm = true ∧ alongIn K "__init__" bm = some (some (.builtin "ValueError.__init__"))
  sa : findIn K (.ref C) "__setattr__" = some (some (.builtin "object.__setattr__"))
  noN : findIn K (.ref C) fx = some none
  iC : findIn K (.ref C) "__init__" = some (some (.ref fI))
  tC : typeIn K (.ref fI) = some (.type "function")
  kC : keepIn K (.ref C) = true
  exC : subIn K (.ref C) (.type "BaseException") = some true
  veC : subIn K (.ref C) (.type "ValueError") = some true
  tyC : typeIn K (.ref C) = some (.type "type")
  op : nsIn K cStatics "thirdparty.any" = some none
  sup : mg "super" = none
  top : (P.main.scope.names.lookup ("super" : Str)).isSome = false
  fn : ∃ (st : Stmt) (q : Str) (oc ccl cl : Value) (od cdd cld : Option Addr) (osl ccs csl : Array (Option Value)) (kV doc pm ct : Value) (an : Option Addr) (cda cc : Addr) (vs : Array Value) (file : Str) (tf : Tok),
    XTxt st fx ∧ K.lookup fI = some ⟨oc, od, .func (ksFn "__init__" q (L2.defArgs st) (L2.defBody st) (L2.defScope st) .none kV doc pm an (.ref cda) ct cc), osl⟩ ∧ codeIn K (.ref cda) q = true ∧
    K.lookup cda = some ⟨ccl, cdd, .fields vs, ccs⟩ ∧ vs[2]? = some (.str file tf) ∧ ((P.main.file : Str) == file) = true ∧ K.lookup cc = some ⟨cl, cld, .cell (some (.ref C)), csl⟩
/-- what __init__ leaves of a fresh exception at x -/
structure XEnd (fx : Str) (h h' : Heap) (x C dx : Addr) (v : Value) : Prop where
  keep : ∀ b o, b ≠ x → h.get? b = some o → h'.get? b = some o
  obj : ∃ t1 : Addr, h'.get? x = some { cls := .ref C, dict := some dx, data := .fields #[.ref t1, .none, .none, .none, .bool false, .none] }
  dbig : h.objs.size ≤ dx
  dne : dx ≠ x
  ns : h'.Ns1 dx (fun y => if y = fx then some v else none)
structure XMade (fx : Str) (h h' : Heap) (e C d : Addr) (v : Value) : Prop where
  keep : ∀ b o, h.get? b = some o → h'.get? b = some o
  new : h.objs.size ≤ e
  obj : ∃ oe vs, h'.get? e = some oe ∧ oe.cls = .ref C ∧ oe.dict = some d ∧ oe.data = .fields vs ∧ vs[1]? = some .none
  dbig : h.objs.size ≤ d
  dne : d ≠ e
  ns : h'.Ns1 d (fun y => if y = fx then some v else none)
section
variable {prog : Program} {w : World} {A : Around} {E : Value → Shared → Prop} {R : Result → Shared → Prop} {s : Shared} {K : Frag} {mg : Str → Option Value} {C fI : Addr} {fx : Str}
theorem x_size (v : Value) : [v].length ≤ sizeLine := by
  rw [sizeLine_eq]
  exact (by decide : 1 ≤ 16777216)
theorem x_call {h : Heap} {g : Array GenState} {d : Drawn} {t : Nat} {os : OsState} {nm q : Str} {N : Addr} {bs bm : List Value} {hdct : Bool} {sn : List Str} {sub : List Value} {ab : Bool} {col : Option Bool} {dd : Option Addr} {k0 k1 k2 k3 k5 : Option Value}
    {u e t0 : Addr} {rest : List Value} {Q : Value → Shared → Prop}
    (hC : h.get? C = some (excClassObj nm q C N bs bm hdct sn sub ab col dd k0 k1 k2 k3 k5 "ValueError.__new__")) (he : h.get? e = some (excO C t0)) (hu : h.get? u = some (kxs_mw "ValueError.__init__" e)) (hrest : rest.length ≤ sizeLine)
    (hq : ∀ h' t1, (∀ b o, b ≠ e → h.get? b = some o → h'.get? b = some o) → h'.get? e = some (excO C t1) → Q .none ⟨h', g, d, t, os⟩) :
    wpAny (model prog w) A (call (.ref u) rest) Q E ⟨h, g, d, t, os⟩ := by
  refine wpAny_call (codeAny_of_tree ?_)
  show wpAny _ A.in1 (callAny (.ref u) ⟨rest, []⟩) _ _ _
  simp only [callAny]
  refine wpAny_bind (wpAny_load hu ?_)
  simp only [kxs_mw, show (Value.type "method-wrapper" == Value.type "method" || Value.type "method-wrapper" == Value.type "builtin_function_or_method" || Value.type "method-wrapper" == Value.type "method-wrapper") = true by decide, if_true]
  refine W.KFB.if_so (by decide) ?_
  refine wpAny_bind (PySem.ESX.check_bound PySem.F.excBase_ValueError hC he rfl ?_)
  refine wpAny_bind (wpAny_pure (wpAny_pure ?_))
  refine ⟨Code.quiet_builtin _ (by decide +kernel), codeAny_builtin PySem.F.excBase_ValueError.initEntry ?_⟩
  rw [Around.under_plainId PySem.F.excBase_ValueError.init.plain _]
  wp_walk
  refine hq _ h.objs.size (fun b o hb ho => ?_) ?_
  · rw [Heap.get?_update_other _ _ (Ne.symm hb)]
    exact Heap.get?_push_of_some _ ho
  · rw [Heap.get?_update_self _ (Heap.get?_push_of_some _ he) rfl]
    rfl
theorem own_init (T : OwnX prog K mg C fI fx) {x t0 : Addr} {v : Value} (X : K.In s.heap) (G : s.heap.Ns mainGlobals mg) (B : ∃ mb, s.heap.Ns builtinsNs mb ∧ ∀ y : Str, y ≠ "__name__" → mb y = bootBuiltins y) (hlim : s.heap.NoLimit)
    (hx : s.heap.get? x = some (excO C t0)) (hnx : K.lookup x = none) (hroom : A.depth < recursionLimit)
    (hq : ∀ h' tk dx, XEnd fx s.heap h' x C dx v → R (.ok (.ret .none)) { s with heap := h', toks := tk }) :
    codeAny (model prog w) A (.call (.ref fI) ⟨[.ref x, v], []⟩) R s := by
  obtain ⟨st, q, oc, ccl, cl, od, cdd, cld, osl, ccs, csl, kV, doc, pm, ct, an, cda, cc, vs, file, tf, TT, hf, hcd, hco, hvs, hfile, hcell⟩ := T.fn
  obtain ⟨nm, qn, N, bs, bm, sn, sub, ab, col, dd, k0, k1, k2, k3, k5, hC, hbm, hal⟩ := T.cls
  obtain ⟨a1, a2, eA⟩ := TT.args
  obtain ⟨lit, kk, p0, p1, p2, p3, p4, p5, q1, q2, q3, q4, eB, hln⟩ := TT.body
  have eS := TT.scope
  rw [eA, eB, eS] at hf
  have hcl : clsIn K C = some { name := nm, bases := bs, mro := .ref C :: bm, ns := N, qualname := qn, hasDict := true, slotNames := sn, subclasses := sub, abstract := ab, collection := col, hasDel := false } := by unfold clsIn; rw [hC] <;> rfl
  obtain ⟨mb, hB, hB2⟩ := B
  have kSuper : ∀ {env : Env}, env.scope = xS fx → env.kindOf "super" = some .globalImplicit := fun {env} e => by unfold Env.kindOf; rw [e]; exact TT.hS
  have kClass : ∀ {env : Env}, env.scope = xS fx → env.kindOf "__class__" = some .free := fun {env} e => by unfold Env.kindOf; rw [e]; exact TT.hC
  have kF : ∀ {env : Env}, env.scope = xS fx → env.kindOf fx = some .local := fun {env} e => by unfold Env.kindOf; rw [e]; exact TT.hF
  have kSelf : ∀ {env : Env}, env.scope = xS fx → env.kindOf "self" = some .local := fun {env} e => by unfold Env.kindOf; rw [e]; rfl
  refine ks_codeAny_call_defAt (fd := ksFn "__init__" q (xA a1 a2 fx) (xB fx lit kk p0 p1 p2 p3 p4 p5 q1 q2 q3 q4) (xS fx) .none kV doc pm an (.ref cda) ct cc) (body := xB fx lit kk p0 p1 p2 p3 p4 p5 q1 q2 q3 q4) (binds := [("self", .ref x), (fx, v)])
    hroom (X _ _ hf) rfl hlim (codeRec_of X hcd) rfl (BindsTo.of_eq (TT.bind _ _ _ _ _ _ _ _ _ _ _ _ _)) ?_ ?_ (fun h₁ hn k => ?_) rfl rfl rfl
  · intro y hy
    unfold ksFn fnX xS at hy
    simp only [List.mem_cons, List.mem_nil_iff, or_false] at hy
    rcases hy with rfl | rfl | rfl | rfl <;> exact fun z => NameKind.noConfusion z
  · intro y hy
    rcases List.mem_cons.mp hy with rfl | hy
    · rfl
    · rcases List.mem_cons.mp hy with rfl | hy
      · exact TT.hF
      · cases hy
  have X₁ : K.In h₁ := X.keeps k
  have hx₁ := k _ _ hx
  have hself : ([(("self" : Str), Value.ref x), (fx, v)].reverse.lookup ("self" : Str)) = some (.ref x) := by
    show List.lookup ("self" : Str) [(fx, v), ("self", .ref x)] = _
    unfold List.lookup
    rw [TT.nS]
    rfl
  have hfv : ([(("self" : Str), Value.ref x), (fx, v)].reverse.lookup fx) = some v := by
    show List.lookup fx [(fx, v), ("self", .ref x)] = _
    unfold List.lookup
    rw [beq_self_eq_true]
  generalize hm : (fun y => [(("self" : Str), Value.ref x), (fx, v)].reverse.lookup y) = m at hn
  have hself' : m "self" = some (.ref x) := by rw [← hm]; exact hself
  have hfv' : m fx = some v := by rw [← hm]; exact hfv
  obtain ⟨hp, g, dr, tk, os⟩ := s
  generalize hL : hp.objs.size = L at hn ⊢
  show _root_.PySem.wpAt _ _ _ (execs (xB fx lit kk p0 p1 p2 p3 p4 p5 q1 q2 q3 q4) (ksEnv q (xS fx) L fI (.ref cda) cc)) _ _ _
  have he : ∀ (o e : Expr) (env : Env) (ov : Value), starEach [e] env = [(false, eval e env)] → methodCall o "__init__" p2 p4 env ov 1 (backTo p4 (starEach [e] env)) [] = (do
      let (f, first) ← holding [ov] (getMethod ov "__init__" (do return (← importBound o env).getD true))
      callWith p4 f first (backTo p4 (starEach [e] env)) []) := fun o e env ov hs => by
    have hform : methodCallForm 1 (backTo p4 (starEach [e] env)) [] = true := by rw [hs]; rfl
    unfold methodCall methodCallPos calleeOf
    simp only [hform, hln, Bool.not_true, Bool.false_or, if_true, pure_bind]
  refine ks_wpAt_execs_cons (ks_wpAt_Expr_any (ks_wpAt_MethodCall (pl := do return (← importBound (.Call (.Name "super" p0) [] [] p1) (ksEnv q (xS fx) L fI (.ref cda) cc)).getD true) ?_ ?_))
  rotate_left
  · simp only [← he _ _ _ _ (show starEach [Expr.Constant (Const.str lit) kk p3] (ksEnv q (xS fx) L fI (.ref cda) cc) = [(false, eval (Expr.Constant (Const.str lit) kk p3) (ksEnv q (xS fx) L fI (.ref cda) cc))] from rfl)]
    rfl
  -- super()
  refine ks_wpAt_super_base (kSuper rfl) (kClass rfl) (by decide) rfl (X₁ _ _ hf) rfl (ar := { arg := "self", annotation := none, pos := a1 }) rfl rfl (X₁ _ _ hco) rfl hvs hfile T.top ?_
  refine ks_loadName_global rfl (kSuper rfl) (loadGlobal_builtin (env := ksEnv q (xS fx) L fI (.ref cda) cc) (G.keeps k) T.sup (hB.keeps k) ((hB2 "super" (by decide +kernel)).trans (by first | boot_by_name | rfl | kernel_rfl)) ⟨rfl, ?_⟩)
  refine wpAny_loadName_free rfl (kClass rfl) rfl ⟨_, X₁ _ _ hcell, rfl⟩ ?_
  refine wpAny_loadName_local rfl (kSelf rfl) hn hself' ?_
  refine ks_wpAny_isType_cls (X₁ _ _ hC) rfl ⟨rfl, ?_⟩
  have hsub : mroIn K C (.ref C) = some true := by
    unfold mroIn
    rw [hcl, Option.bind_some]
    simp
  refine ks_wpAny_call_super (X₁ _ _ hC) rfl hx₁ rfl (fun c e => by cases e) (looks_mroIn X₁ hsub) (fun h₂ hso k₂ => ?_)
  have X₂ : K.In h₂ := X₁.keeps k₂
  have hC₂ := X₂ _ _ hC
  have hx₂ := k₂ _ _ hx₁
  have I₂ : InstAt h₂ x (excO C t0) C none := ⟨hx₂, rfl, rfl, trivial⟩
  have hxC : x ≠ C := ks_ne X₂ I₂ hcl
  have hmro : Looks (model prog w) h₂ (mroOf (.ref C)) (.ref C :: bm) := fun A Q E s k q => wpAny_bind ((looks_clsIn X₂ hcl) A _ E s k (wpAny_pure q))
  have hI : Looks (model prog w) h₂ (isInstance (.ref x) (.type "ValueError")) true := I₂.type.andThen (looks_subIn X₂ T.veC)
  have hdrop : ((Value.ref C :: bm).dropWhile (· != .ref C)).drop 1 = bm := by simp [List.dropWhile_cons]
  refine kxs_getMethod kxs_ValueError hso (looks_opaque X₂ T.op) hmro hdrop X₂ hal hI hxC (by decide) ?_
  -- the call
  have kp : ∀ b o, h₂.get? b = some o → (h₂.push (kxs_mw "ValueError.__init__" x)).get? b = some o := fun b o e => Heap.get?_push_of_some _ e
  have hmw : (h₂.push (kxs_mw "ValueError.__init__" x)).get? h₂.objs.size = some (kxs_mw "ValueError.__init__" x) := Heap.get?_push_at rfl rfl
  refine kxs_callWith (i := "ValueError.__init__") (x := x) rfl ?_
  refine evalArgs_plain (spliced_cons (Constant_str (k := kk) (pos := p3) (spliced_nil ⟨hmw, ?_⟩)))
  refine x_call (kp _ _ hC₂) (kp _ _ hx₂) hmw (x_size _) fun h₄ t1 k₄ hx₄ => ?_
  -- self.f = f
  have ne2 : ∀ {b : Addr} {o : Obj}, hp.get? b = some o → b ≠ x → h₄.get? b = some o := fun {b o} e hb => k₄ b o hb (kp _ _ (k₂ _ _ (k _ _ e)))
  have hK₄ : K.In h₄ := fun a o e => k₄ a o (fun z => by rw [z, hnx] at e; cases e) (kp _ _ (X₂ _ _ e))
  have hn₄ : h₄.Ns L m := by
    obtain ⟨oL, es, ep, e1, r⟩ := hn
    refine ⟨oL, es, ep, k₄ _ _ (fun z => ?_) (kp _ _ (k₂ _ _ e1)), r⟩
    have hlt := Heap.lt_size (show hp.get? x = some _ from hx)
    rw [hL, z] at hlt
    exact Nat.lt_irrefl _ hlt
  refine wpAt_of_wpAny (wpAny_execs_cons (plainObj_wpAny_Assign_Attribute ?_))
  refine wpAny_Name (wpAny_loadName_local rfl (kF rfl) hn₄ hfv' ?_) TT.nD
  refine wpAny_Name (wpAny_loadName_local rfl (kSelf rfl) hn₄ hself' ?_) (by decide)
  refine set_plain hK₄ (ox := excO C t1) (od := none) ⟨hx₄, rfl, rfl, trivial⟩ T.sa ?_
  refine exc_osa hK₄ hx₄ hcl (show refsVE (.ref C :: bm) = true from hbm) rfl T.noN (fun h₅ tk₅ dx k₅ dn dne hx₅ hn₅ => ?_)
  show wpAny _ _ (execs _ _) _ _ _
  refine wpAny_execs_nil (hq h₅ tk₅ dx ⟨fun b o hb e => k₅ b o hb (ne2 e hb), ⟨_, hx₅⟩, ?_, dne, hn₅⟩)
  have z := hn₄.lt
  rw [← hL] at z
  exact Nat.le_of_lt (Nat.lt_of_lt_of_le z dn)
theorem own_made (T : OwnX prog K mg C fI fx) {v : Value} (X : K.In s.heap) (G : s.heap.Ns mainGlobals mg) (B : ∃ mb, s.heap.Ns builtinsNs mb ∧ ∀ y : Str, y ≠ "__name__" → mb y = bootBuiltins y) (hlim : s.heap.NoLimit) (hroom : A.depth + 1 < recursionLimit)
    (hq : ∀ h' tk e d, XMade fx s.heap h' e C d v → R (.ok (.ret (.ref e))) { s with heap := h', toks := tk }) :
    codeAny (model prog w) A (.call (.ref C) ⟨[v], []⟩) R s := by
  obtain ⟨nm, q, N, bs, bm, sn, sub, ab, col, dd, k0, k1, k2, k3, k5, hC, hbm, _⟩ := T.cls
  obtain ⟨hp, g, dr, tk, os⟩ := s
  have k : ∀ b o, hp.get? b = some o → ((hp.push (kdv_tup [v])).push (excO C hp.objs.size)).get? b = some o := fun b o e => Heap.get?_push_of_some _ (Heap.get?_push_of_some _ e)
  have hget : ((hp.push (kdv_tup [v])).push (excO C hp.objs.size)).get? (hp.objs.size + 1) = some (excO C hp.objs.size) := by heap_get
  have hnx : K.lookup (hp.objs.size + 1) = none := by
    cases e : K.lookup (hp.objs.size + 1) with
    | none => rfl
    | some o =>
      have z : hp.get? (hp.objs.size + 1) = some o := X _ _ e
      exact absurd (Nat.lt_of_succ_lt (Heap.lt_size z)) (Nat.lt_irrefl _)
  obtain ⟨mb, hB, hB2⟩ := B
  refine call_own PySem.F.excBase_ValueError (fun X => refsVE_contains X bm hbm) (X _ _ hC) (looks_findIn X T.iC) (fun self => bind_fn X self T.tC) (x_size v) ?_
  refine own_init (s := ⟨(hp.push (kdv_tup [v])).push (excO C hp.objs.size), g, dr, tk, os⟩) T (X.keeps k) (G.keeps k) ⟨mb, hB.keeps k, hB2⟩ (hlim.keeps k) hget hnx ?_ fun h' tk' dx ⟨k', ⟨t1, hx⟩, dn, dne, hns⟩ => ?_
  · show A.depth + 1 < recursionLimit
    exact hroom
  · have old : ∀ b o, hp.get? b = some o → h'.get? b = some o := fun b o e => k' b o (Nat.ne_of_lt (Nat.lt_succ_of_lt (Heap.lt_size e))) (k b o e)
    have z : hp.objs.size + 1 + 1 ≤ dx := by
      first
        | (simpa only [Heap.size_push] using dn)
        | exact dn
        | (have q := dn; rw [Heap.size_push, Heap.size_push] at q; exact q)
    exact ⟨rfl, hq h' tk' (hp.objs.size + 1) dx ⟨old, Nat.le_succ _, ⟨_, _, hx, rfl, rfl, rfl, rfl⟩, Nat.le_trans (Nat.le_trans (Nat.le_succ _) (Nat.le_succ _)) z, dne, hns⟩⟩
end
end T2
namespace T2
open PySem PySem.Spec PyProof.Rows L2 RZ
theorem relO_one {v : V} {v' : Value} {fx : Str} (r : RelV v v') (f : Str) : RelO (List.lookup f [(fx, v)]) (if f = fx then some v' else none) := by
  by_cases hw : f = fx
  · subst hw
    rw [if_pos rfl]
    have q : List.lookup f [(f, v)] = some v := by simp [List.lookup]
    rw [q]
    exact r
  · rw [if_neg hw]
    have qw : (f == fx) = false := by simpa using hw
    have q2 : List.lookup f [(fx, v)] = none := by simp [List.lookup, qw]
    rw [q2]
    trivial
section
variable {X : Cx} {C fI : Addr} {fx : Str}
/-- C(e) -/
def tMkx (fx : Str) (C : Addr) (ta : TA) : L2.St → Hp → XK → Prop := fun σ H Q => ta σ H fun vs H1 => ∃ v, vs = [v] ∧ ∀ d, H1 d = none → Q (.ref C) (some d) (upd H1 d (.xd [(fx, v)]))
theorem pmk_own {a : Expr} {ta : TA} {x : Str} {p pos : Pos} {k : Nat} (T : OwnX X.prog X.K X.mg C fI fx) (hr : Room k X.A) (hm : X.mg x = some (.ref C)) (ha : PA X [a] ta) (hg : Gl X x := by rfl) (hdb : (x == ("__debug__" : Str)) = false := by decide)
    (he : starEach (a :: []) X.env = (false, eval a X.env) :: starEach [] X.env := by rfl) (hpl : (backTo pos (starEach [] X.env)).any (·.1) = false := by rfl) :
    PMk X (.Call (.Name x p) [a] [] pos) (tMkx fx C ta) := by
  intro pins s σ H Q I h
  refine wpAny_Call_Name_kw (ld_glob I hg hm ?_ hdb)
  refine PySem.W.callWith_K (h₀ := X.base) I.ok.mod.kin T.kC (thn (ha.run pos pins s σ H _ I h) fun us s1 hh => ?_) he hpl
  obtain ⟨vs, H1, I1, r1, v, ev, q1⟩ := hh
  subst ev
  refine ⟨I1.kIn, ?_⟩
  cases r1 with
  | cons rv rn =>
    rename_i v' us'
    cases rn
    show wpAny _ _ (call (.ref C) [v']) _ _ _
    have hlim := I1.nolimit
    have hG := I1.mod.glob.keeps I1.bk
    obtain ⟨mb, hB0, hB2⟩ := I1.mod.blt
    have hB := hB0.keeps I1.bk
    obtain ⟨hp, g, dr, tk, os⟩ := s1
    refine wpAny_call (own_made T I1.kIn hG ⟨mb, hB, hB2⟩ hlim (by have := hr.dp; omega) fun h' tk' e d M => ?_)
    show MkP X pins σ Q (.ref e) ⟨h', g, dr, tk', os⟩
    obtain ⟨oe, fv, hoe, hc, hd, hdat, h1⟩ := M.obj
    have hns := M.ns
    obtain ⟨G', g1, g2⟩ := restrict h' fun b => decide (b ≠ e)
    have gk : ∀ b, b ≠ e → G'.get? b = h'.get? b := fun b hb => g1 b (decide_eq_true hb)
    have ge : G'.get? e = none := g2 e (by simp)
    have old : ∀ b o, hp.get? b = some o → G'.get? b = some o := fun b o q => (gk b (Nat.ne_of_lt (Nat.lt_of_lt_of_le (Heap.lt_size q) M.new))).trans (M.keep b o q)
    have ob : ObjOk X.prog X.w (upd H1 d (.xd [(fx, v)])) G' d (.xd [(fx, v)]) :=
      ⟨_, hns.at (fun o q => (gk d M.dne).trans q), fun f => relO_one rv f⟩
    have J : Inv X pins σ (upd H1 d (.xd [(fx, v)])) ⟨G', g, dr, tk', os⟩ := I1.laid (t' := tk') old M.dbig ob
    refine ⟨e, oe, fv, ⟨G', g, dr, tk', os⟩, _, .ref C, some d, rfl, J, fun b o q => ?_, ge, hoe, ⟨hc, hd⟩, hdat, h1, ?_, rfl, I1.bare, raises_own T.exC T.tyC, q1 d (I1.hok.fresh M.dbig)⟩
    · by_cases hb : b = e
      · have q' : G'.get? b = some o := q
        rw [hb, ge] at q'; cases q'
      · exact (gk b hb).symm.trans q
    · rw [upd_ne (Ne.symm M.dne)]
      exact I1.hok.fresh M.new
/-- raise C(e) -/
def tRaiseX (fx : Str) (C : Addr) (W : WX) (ta : TA) : TS := fun _ σ H => tMkx fx C ta σ H fun cls d H' => W cls d σ H'
theorem ps_raiseX {a : Expr} {ta : TA} {W : WX} {x : Str} {p pos pos2 : Pos} {k : Nat} (hc : X.calm = true) (T : OwnX X.prog X.K X.mg C fI fx) (hr : Room k X.A) (hm : X.mg x = some (.ref C)) (tk : Takes X W) (ha : PA X [a] ta) (hg : Gl X x := by rfl) (hdb : (x == ("__debug__" : Str)) = false := by decide)
    (he : starEach (a :: []) X.env = (false, eval a X.env) :: starEach [] X.env := by rfl) (hpl : (backTo pos (starEach [] X.env)).any (·.1) = false := by rfl) :
    PS X (.Raise (some (.Call (.Name x p) [a] [] pos)) none pos2) (tRaiseX fx C W ta) := ps_raise hc tk (pmk_own T hr hm ha hg hdb he hpl)
end
/-- raise over trees -/
theorem as_raiseX {K : PySem.W.Frag} {W : WX} {M : Mem} {P : Post} {Δ : Sls} {ta : TA} {fx : Str} {C : Addr} (h : AA K W (fun c f M' => P.xr c f Δ M') Δ ta M fun xs M1 => ∃ v, xs = [v] ∧ P.xr (.ref C) [(fx, v)] Δ M1) :
    AS K W (tRaiseX fx C W ta) P Δ M := fun σ H ok sl D gp =>
  h σ H ok sl (gp.x sl) _ fun M1 H1 xs vs s1 ok1 r1 ⟨v, e, k⟩ => by
    subst e
    cases r1 with
    | cons r1 r2 =>
      cases r2
      rename_i u
      refine ⟨u, rfl, fun d hd => ?_⟩
      have s2 : Stp M1 H1 M1 (upd H1 d (.xd [(fx, u)])) := stp_new hd
      exact gp.xr Δ M1 σ _ (.ref C) d [(fx, v)] _ (s1.trans s2) (ok_new ok1 hd) (sl.mono (s1.trans s2).same) upd_same (ok1.fresh hd) (.cons (Rep.mono s2.same _ _ r1) .nil) k
end T2
/-! own exceptions that are caught: except X as e, e.f, isinstance(e, C) -/
namespace T2
open PySem PySem.W PySem.Spec PySem.Calls PyProof.Rows
section
variable {prog : Program} {w : World} {A : Around} {E : Value → Shared → Prop} {s : Shared} {K : Frag} {x D : Addr} {ox : Obj}
theorem findObj_dat {C : Addr} {od : Option Obj} {name : Str} {a g : Value} (hc : (clsIn K C).isSome = true) (ha : findIn K (.ref C) name = some (some a)) (hg : specialIn K a "__get__" = some (some g)) (ht : takesIn K a = some true) : findObj K C od name = some (.bind g a) := by
  obtain ⟨cd, hc⟩ := Option.isSome_iff_exists.mp hc
  unfold findObj
  rw [hc, Option.bind_some, ha, Option.bind_some]
  simp [hg, ht]
theorem clsX {od : Option Obj} {Q : Option Value → Shared → Prop} (hga : findIn K (.ref D) "__getattribute__" = some (some (.builtin "BaseException.__getattribute__"))) (hgt : findIn K (.ref D) "__getattr__" = some none) (hsub : subIn K (.ref D) (.type "BaseException") = some true)
    (hdct : hasDictIn K D = true) (ha : findIn K (.ref D) "__class__" = some (some (.builtin "object.__class__")))
    (hn : specialIn K (.builtin "object.__class__") "__get__" = some (some (.builtin "getset_descriptor.__get__"))) (htk : takesIn K (.builtin "object.__class__") = some true) (hm : mroIn K D (.type "object") = some true)
    (X : K.In s.heap) (I : InstAt s.heap x ox D od) (h : Q (some (.ref D)) { s with toks := s.toks + 1 }) : wpAny (model prog w) A (getAttr? (.ref x) "__class__") Q E s := by
  have hf : findObj K D od "__class__" = some (.bind (.builtin "getset_descriptor.__get__") (.builtin "object.__class__")) := findObj_dat (by obtain ⟨cd, hc, _⟩ := any_some hdct; rw [hc]; rfl) ha hn htk
  obtain ⟨hp, g, d, t, os⟩ := s
  have L0 := I.type (M := model prog w)
  have L1 := looks_findIn (M := model prog w) X hga
  have L2 := looks_findIn (M := model prog w) X hgt
  have L3 := looks_find (M := model prog w) X I hf
  have sub : Looks (model prog w) hp (isInstance (.ref x) (.type "BaseException")) true := L0.andThen (looks_subIn X hsub)
  have hx0 : (false && onTheHeap (Value.builtin "BaseException.__getattribute__")) = false := rfl
  have hx2 : (Value.builtin "BaseException.__getattribute__" == Value.builtin "object.__getattribute__") = false := by decide +kernel
  have hx1 : (onTheHeap (Value.ref D) && Value.builtin "BaseException.__getattribute__" == Value.builtin "object.__getattribute__") = false := by rw [hx2]; rfl
  unfold getAttr? getAttrBy? getAttrBy
  refine wpAny_bind (wpAny_mkText (wpAny_bind (wpAny_attempt (wpAny_holding (wpAny_bind (L0.at (wpAny_bind (L1.at ?_))))))))
  show wpAny _ _ (if (onTheHeap (Value.ref D) && Value.builtin "BaseException.__getattribute__" == Value.builtin "object.__getattribute__") = true then _ else _) _ _ _
  rw [hx1, if_neg Bool.false_ne_true]
  unfold getAttrByItsOwn hookBefore
  refine wpAny_bind ?_
  rw [if_pos (show onTheHeap (Value.ref D) = true from rfl)]
  refine L2.at ?_
  refine wpAny_bind (wpAny_attempt (wpAny_holding ?_))
  unfold callGetattribute
  rw [hx0, if_neg Bool.false_ne_true]
  unfold boundAndCalled
  rw [PySem.F.excAttr_ValueError.ga.bind (.ref x)]
  refine wpAny_bind (wpAny_pure ?_)
  show wpAny _ _ (call (.builtin "BaseException.__getattribute__") [.ref x, .str "__class__" t]) _ _ _
  refine wpAny_call (codeAny_call_builtin PySem.F.excAttr_ValueError.ga.plain PySem.F.entry_bexc_ga ?_)
  refine @check_slot (model prog w) _ _ ⟨hp, g, d, t + 1, os⟩ "BaseException.__getattribute__" "BaseException" "__getattribute__" (.ref x) [.str "__class__" t] [] _ (by decide +kernel) (by decide +kernel) sub (PySem.F.args_bexc_ga (.ref x) (.str "__class__" t)) ?_
  unfold Builtin.«object.__getattribute__»
  refine wpAny_bind (wpAny_of_eq (a := ((Value.ref x : Value), [Value.str "__class__" t])) (by first | rfl | (simp only [slotArgs]; rfl)) ?_)
  refine wpAny_bind (wpAny_pure (wpAny_bind (L0.at (wpAny_bind (L3.at ?_)))))
  show wpAny _ _ (holding [Value.builtin "object.__class__"] (call (.builtin "getset_descriptor.__get__") [.builtin "object.__class__", .ref x, .ref D]) >>= ret) _ _ _
  refine wpAny_bind (wpAny_holding (wpAny_call (class_get (s := ⟨hp, g, d, t + 1, os⟩) (ox := ox) (od := od) X I hm ?_)))
  refine wpAny_pure ?_
  show wpAny _ _ (handedOut (.ref D)) _ _ _
  rw [handedOut_of (v := .ref D) rfl]
  first
    | exact wpAny_pure (wpAny_pure h)
    | exact wpAny_pure h
    | exact wpAny_pure (wpAny_bind (wpAny_pure (wpAny_pure h)))
theorem kitX_own {od : Option Obj} (hga : findIn K (.ref D) "__getattribute__" = some (some (.builtin "BaseException.__getattribute__"))) (hgt : findIn K (.ref D) "__getattr__" = some none) (hsub : subIn K (.ref D) (.type "BaseException") = some true) (hdct : hasDictIn K D = true) (ha : findIn K (.ref D) "__class__" = some (some (.builtin "object.__class__")))
    (hn : specialIn K (.builtin "object.__class__") "__get__" = some (some (.builtin "getset_descriptor.__get__"))) (htk : takesIn K (.builtin "object.__class__") = some true) (hm : mroIn K D (.type "object") = some true) :
    KitX K (.ref x) (.ref D) (fun h => InstAt h x ox D od) where
  ty := fun _ _ _ I => I.type
  it := fun _ _ X _ => by
    obtain ⟨cdD, hcD, _⟩ := any_some hdct
    unfold clsIn at hcD
    split at hcD
    · rename_i c' d' cd' sl' ho
      intro A' Q' E' s' k q
      unfold isType loadHead
      exact wpAny_bind (wpAny_loadPart (k _ _ (X _ _ ho)) (wpAny_pure q))
    · cases hcD
  ne := fun h tp dd its n sl X htp => by
    obtain ⟨cdD, hcD, _⟩ := any_some hdct
    refine Bool.eq_false_iff.mpr fun q => ?_
    have e : D = tp := Value.ref.inj (beq_iff_eq.mp q)
    subst e
    unfold clsIn at hcD
    split at hcD
    · rename_i c' d' cd' sl' ho
      have z := (X _ _ ho).symm.trans htp
      cases z
    · cases hcD
  ca := fun X I k => clsX hga hgt hsub hdct ha hn htk hm X I k
end
end T2
namespace T2
open PySem PySem.Spec PyProof.Rows L2 RZ
def rIsX (K : PySem.W.Frag) (a : Addr) (cls : Value) (d : Option Addr) : List V → Hp → VK → Prop := fun xs H Q => ∃ (C dd C2 : Addr) (fv : List (Str × V)) (b : Bool), xs = [.ref a, .ref C2] ∧ cls = .ref C ∧ d = some dd ∧ H dd = some (.xd fv) ∧ ExcC K C ∧ PySem.W.kitOne K (.ref C) (.ref C2) = some b ∧ Q (.bl b) H
theorem call_isX {X : Cx} {a : Addr} {cls : Value} {d : Option Addr} {oe : Obj} {pn : List (Addr × Obj)} (hz : Zc cls d oe) (hf : ∃ vs, oe.data = .fields vs) : CallR (X.suite a ((a, oe) :: pn)) (.builtin "isinstance") (rIsX X.K a cls d) := by
  intro pins s σ H xs us Q I r h
  obtain ⟨C, dd, C2, fv, b, rfl, ec, ed, hH, T, e, q⟩ := h
  subst ec ed
  cases r with
  | cons rx rr =>
    cases rr with
    | cons rt rr =>
      cases rr
      cases rx
      obtain ⟨hget, _⟩ := I.pin (a, oe) (List.mem_append.mpr (.inl List.mem_cons_self))
      obtain ⟨vs, hv⟩ := hf
      have hx : ObjOk X.prog X.w H s.heap dd (.xd fv) := I.hok dd _ hH
      obtain ⟨mA, hns, hr⟩ := hx
      obtain ⟨od, ho, hl⟩ := lookIn_ns hns
      have J : PySem.W.InstAt s.heap a oe C (some od) := ⟨hget, hz.1, by unfold PySem.W.notCls; rw [hv] <;> rfl, by rw [hz.2]; exact ho⟩
      obtain rfl := (show _ = Value.ref C2 from rt)
      exact PySem.W.kia_one (kitX_own T.hg T.hk T.hs T.hd T.ha T.hn T.ht T.hm) I.kIn J e (fun z => nomatch z) fun tk => ⟨.bl b, H, I.kept (t' := tk) fun _ _ z => z, rfl, q⟩
/-- e.f, whatever own class e is of -/
def tXfA (K : PySem.W.Frag) (a : Addr) (cls : Value) (d : Option Addr) (f : Str) (te : TE) : TE := fun σ H Q => ∃ C, XfC K C ∧ PySem.W.findIn K (.ref C) f = some none ∧ tXf a cls d C f te σ H Q
theorem pe_xfA {X : Cx} {a : Addr} {oe : Obj} {cls : Value} {d : Option Addr} {pn : List (Addr × Obj)} {e : Expr} {te : TE} {pos : Pos} {n : Str} (hz : Zc cls d oe) (hf : ∃ vs, oe.data = .fields vs) (he : PE (X.suite a ((a, oe) :: pn)) e te)
    (hb : attributeBase e n X.env (eval e X.env) = eval e X.env := by rfl) : PE (X.suite a ((a, oe) :: pn)) (.Attribute e n pos) (tXfA X.K a cls d n te) :=
  ⟨fun pins s σ H Q I ⟨C, T, hno, h⟩ => (pe_xf (X := X) (C := C) T hno hz hf he hb).run pins s σ H Q I h⟩
def tTryAs (K : PySem.W.Frag) (c : Value) (i : Nat) (tb : WX → TS) (ts : Addr → Value → Option Addr → TS) (Wout : WX) : TS := fun D σ H => tb (wAs K c i ts Wout D) D σ H
section
variable {K : PySem.W.Frag} {W : WX} {M : Mem} {P : Post} {Δ : Sls} {Χ : Exc} {Ψ : PsiE}
/-- try: .. except C as e: .. -/
theorem as_tryAs {c : Value} {i : Nat} {tb : WX → TS} {ts : Addr → Value → Option Addr → TS}
    (h : ∀ W', AS K W' (tb W') { P with xr := fun cls fs Δ' M' => ∃ b, PySem.W.exmOne K cls c = some b ∧
      (b = true → ∀ a dd, M' a = none → AS K W0 (ts a cls (some dd)) { nx := fun Δ2 M2 => P.nx (Δ2.set i none) M2, rt := P.rt, bk := fun Δ2 M2 => P.bk (Δ2.set i none) M2, ct := fun Δ2 M2 => P.ct (Δ2.set i none) M2 } (Δ'.set i (some (.exc a dd fs))) M') ∧
      (b = false → P.xr cls fs Δ' M') } Δ M) : AS K W (tTryAs K c i tb ts W) P Δ M := fun σ H ok sl D gp =>
  h (wAs K c i ts W D) σ H ok sl D ⟨gp.nx, gp.rt, gp.bk, gp.ct, fun Δ' M' σ' H' cls d fs vs s' ok' sl' hx hm rf ⟨b, e1, e2, e3⟩ => ⟨b, e1, fun hb a ha => by
    refine e2 hb a d (ok'.fresh ha) (σ'.set i (some (.ref a))) H' ok' (sl'.set (.exc (fz_of hm hx) rf)) _ ⟨?_, gp.rt.step s', ?_, ?_, ?_⟩
    · exact fun Δ2 M2 σ2 H2 s2 o2 l2 p => gp.nx _ M2 _ H2 (s'.trans s2) o2 (slots_gone l2) p
    · exact fun Δ2 M2 σ2 H2 s2 o2 l2 p => gp.bk _ M2 _ H2 (s'.trans s2) o2 (slots_gone l2) p
    · exact fun Δ2 M2 σ2 H2 s2 o2 l2 p => gp.ct _ M2 _ H2 (s'.trans s2) o2 (slots_gone l2) p
    · exact fun _ _ _ _ _ _ _ _ _ _ _ _ _ _ p => p, fun hb => gp.xr Δ' M' σ' H' cls d fs vs s' ok' sl' hx hm rf (e3 hb)⟩⟩
/-- e.f -/
theorem ae_xf {a dd : Addr} {C : Addr} {f : Str} {te : TE} (T : XfC K C) (hno : PySem.W.findIn K (.ref C) f = some none) (h : AE K W Χ Δ te M fun x M1 => ∃ fs v, x = .exc a dd fs ∧ fs.lookup f = some v ∧ Ψ v M1) : AE K W Χ Δ (tXfA K a (.ref C) (some dd) f te) M Ψ := fun σ H ok sl gx Q g => ⟨C, T, hno,
  h σ H ok sl gx _ fun M1 H1 x u s1 ok1 r1 ⟨fs, v, e, hl, k⟩ => by
    subst e
    cases r1 with
    | exc hF rf =>
      obtain ⟨v', hv, rv⟩ := rf.lookup hl
      exact ⟨rfl, rfl, dd, _, v', rfl, fz_sub _ _ hF, hv, g M1 H1 v v' s1 ok1 rv k⟩⟩
theorem arl_isX {a dd C C2 : Addr} {fs : List (Str × D)} {b : Bool} (T : ExcC K C) (e : PySem.W.kitOne K (.ref C) (.ref C2) = some b) (k : Ψ (.bl b) M) : ARL K (rIsX K a (.ref C) (some dd)) [.exc a dd fs, .ref C2] M Ψ := fun H vs ok r Q q => by
  cases r with
  | cons r1 r2 =>
    cases r2 with
    | cons r2 r3 =>
      cases r3
      cases r2
      cases r1 with
      | exc hF rf => exact ⟨C, dd, C2, _, b, rfl, rfl, rfl, fz_sub _ _ hF, T, e, q.here ok (.bl b) k⟩
end
end T2
/-! the end, for promises over trees; how arguments bind -/
namespace T2
open PySem PySem.Spec PyProof.Rows L2 RZ
theorem cx_no {P : Program} {w : World} {R : List Env} {H : Hp} {s s' : Shared} {e : Value} (h : L2.CX P w R H s (fun _ _ _ => False) e s') : False := by
  obtain ⟨_, _, _, _, _, _, _, _, _, _, _, _, z⟩ := h
  exact z
/-- THE HEAD: the law's promise, at the heap behind the top. F, the promise of the law's def, may use that base is part of the heap (so K.In base, base.Ns mainGlobals mg stand in Mod) -/
theorem law_callG {P : Program} {w : World} {K : PySem.W.Frag} {mg mb : Str → Option Value} {k : Nat} {fa a : Addr} {fd : FuncData} {x : Str} {sp : Sp} {s₁ : Shared} {vs : List Value} {ns : List Int}
    (KX : K.In s₁.heap) (hns : s₁.heap.Ns mainGlobals mg) (hb : s₁.heap.Ns builtinsNs mb) (hbb : ∀ x : Str, x ≠ "__name__" → mb x = bootBuiltins x) (hlim : s₁.heap.NoLimit) (hg : s₁.gens = #[])
    (ha : s₁.heap.get? a = some { cls := .type "list", data := .seq vs.toArray }) (hi : IntsAre vs ns) (hl : ns.length ≤ sizeLine) (hr : Room k callerA)
    (F : ∀ base : Heap, K.In base → base.Ns mainGlobals mg → FnG P w K mg base k fa fd [x] sp) (hbind : ∀ (s : Shared) (u : Value), BindsTo s fd ⟨[u], []⟩ [(x, u)])
    (hsp : ∀ H : Hp, Only H → SqL K H a (ns.map V.int) → sp [.ref a] H (fun v _ => v = .bl true) fun _ _ _ => False)
    :
    codeAny (model P w) callerA (.call (.ref fa) ⟨[.ref a], []⟩) (fun r s' => r = .ok (.ret (.bool true)) ∧ OldK s₁.heap s'.heap ∧ s'.os = s₁.os ∧ AllBare s'.gens) s₁ := by
  have rv := vals_ints hi
  have lenV := hi.length
  -- from an abstract heap in which nothing but the script may be tracked
  have core : ∀ H : Hp, Only H → SqL K H a (ns.map V.int) → HOk P w H s₁.heap → (∀ b, H b ≠ none → b = a) → (H a ≠ none → K.lookup a = none) →
      codeAny (model P w) callerA (.call (.ref fa) ⟨[.ref a], []⟩) (fun r s' => r = .ok (.ret (.bool true)) ∧ OldK s₁.heap s'.heap ∧ s'.os = s₁.os ∧ AllBare s'.gens) s₁ := by
    intro H hO hS hok hA hK
    have base_of : ∀ {b : Addr} {o : Obj}, s₁.heap.get? b = some o → H b = none → (hidT s₁.heap H).get? b = some o := fun e n => hidT_get e n
    have noA : ∀ {b : Addr} {o : Obj} {es : Array DictEntry} {ep : Nat}, s₁.heap.get? b = some o → o.data = .dict es ep → H b = none := fun {b o es ep} e d => by
      cases q : H b with
      | none => rfl
      | some u =>
        have e' : b = a := hA b (by rw [q]; simp)
        subst e'
        rw [ha] at e; cases e
        have d' : Data.seq vs.toArray _ = Data.dict es ep := d
        cases d'
    have nsK : ∀ {b : Addr} {m : Str → Option Value}, s₁.heap.Ns b m → (hidT s₁.heap H).Ns b m := fun {b m} ⟨o, es, ep, e, d, r⟩ => ⟨o, es, ep, base_of e (noA e d), d, r⟩
    have hKb : K.In (hidT s₁.heap H) := fun b o e => base_of (KX b o e) (by
      cases q : H b with
      | none => rfl
      | some u =>
        have e' : b = a := hA b (by rw [q]; simp)
        subst e'
        rw [hK (by rw [q]; simp)] at e; cases e)
    have hM : Mod K mg (hidT s₁.heap H) := ⟨hKb, nsK hns, ⟨mb, nsK hb, hbb⟩, let ⟨mc, h1, h2⟩ := hlim; ⟨mc, nsK h1, h2⟩⟩
    have e0 : Env0 P w K mg (hidT s₁.heap H) callerA [] s₁ H := ⟨rfl, hM, fun b o e => of_hidT e, Nat.le_of_eq (hidT_size _ _), trivial, fun b hb => absurd (show b ∈ ([] : List Addr) from hb) (by simp), hok, .of_eq hg⟩
    refine codeAny_mono ((F _ hKb (nsK hns)).run callerA [] s₁ H ⟨[.ref a], []⟩ [.ref a] [.ref a] _ _ hr rfl e0 (hbind s₁ (.ref a)) (.cons rfl .nil) (hsp H hO hS)) fun r s' h => ?_
    cases r with
    | error e => exact (cx_no h).elim
    | ok fl =>
      cases fl with
      | next => exact False.elim h
      | brk => exact False.elim h
      | cont => exact False.elim h
      | ret u =>
        obtain ⟨v, H', os, bare, un, hok', r', q⟩ := h
        have q' : v = .bl true := q
        subst q'
        obtain rfl : u = Value.bool true := r'
        refine ⟨rfl, OldK.of_keep fun b o e => ?_, os, bare⟩
        cases q : H b with
        | none => exact un.keep b o e q (by intro z; exact absurd (show b ∈ ([] : List Addr) from z) (by simp)) (by simp)
        | some u =>
          rcases hO b with z | ⟨ob, xs, z⟩
          · rw [q] at z; cases z
          · have z2 := un.frzs b ob _ z
            obtain ⟨e1, _⟩ := hok b _ z
            obtain ⟨e2, _⟩ := hok' b _ z2
            rw [e] at e1; cases e1
            exact e2
  cases hk : K.lookup a with
  | some o =>
    -- the script is one of the module's own objects
    have e := KX a o hk
    rw [ha] at e
    cases e
    refine core (fun _ => none) (fun _ => .inl rfl) (.inr ⟨_, vs.toArray, _, hk, rfl, rfl, rfl, by rw [List.size_toArray, lenV]; exact hl, by simpa using rv⟩) (fun b u z => by have z' : (none : Option HO) = some u := z; cases z') (fun b z => absurd rfl z) fun z => absurd rfl z
  | none =>
    refine core (fun b => if b = a then some (.frz { cls := .type "list", data := .seq vs.toArray } (.lst (ns.map V.int))) else none) (fun b => ?_) (.inl (.inr ⟨{ cls := .type "list", data := .seq vs.toArray }, if_pos rfl⟩)) (fun b u z => ?_) (fun b z => ?_) fun _ => hk
    · by_cases hb : b = a
      · exact .inr ⟨_, _, if_pos hb⟩
      · exact .inl (if_neg hb)
    · by_cases hb : b = a
      · have z' := (if_pos hb).symm.trans z
        cases z'
        subst hb
        exact ⟨ha, by rw [List.length_map]; exact hl, vs, _, rv, ha⟩
      · have z' := (if_neg hb).symm.trans z
        cases z'
    · by_cases hb : b = a
      · exact hb
      · exact absurd (if_neg hb) z

theorem ite3 {b : Bool} {A B : Prop} (h1 : b = true → A) (h2 : b = false → B) : if b = true then A else B := by
  cases b with
  | true => exact h1 rfl
  | false => exact h2 rfl
theorem only_ok {K : PySem.W.Frag} {H : Hp} : Ok K (fun _ => none) H := fun a m h => by cases h
/-- THE END: the law's def keeps a promise over trees -/
theorem walk_G {l : PySem.W.OpenLaw} {n k : Nat} {q : Program} {loose : List Str} {XP : (Str → Option Value) → Heap → Prop} {YP : World → Heap → Prop} {d : DefRec} {K : Params → PySem.W.Frag} {a : PySem.W.Frag → ASp} {x : Str}
    (hn : l.most = some n) (hn2 : n ≤ sizeLine) (hdf : d.params.defaults = []) (hr : Room k callerA)
    (hY : ∀ (w : World) (h : Heap), YP w h → (K w.params).In h)
    (F : ∀ (w : World) (mg : Str → Option Value) (fa : Addr) (h : Heap), (K w.params).In h → h.Ns mainGlobals mg → mg d.name = some (.ref fa) →
      ∃ fd : FuncData, (∀ (s : Shared) (u : Value), BindsTo s fd ⟨[u], []⟩ [(x, u)]) ∧
        ∀ base : Heap, (K w.params).In base → base.Ns mainGlobals mg → FnG l.prog w (K w.params) mg base k fa fd [x] (lift (K w.params) (a (K w.params))))
    (ha : ∀ (K : PySem.W.Frag) (ns : List Int), ns.length ≤ n → a K [.lst (ns.map D.int)] (fun _ => none) (fun d _ => d = .bl true) fun _ _ _ => False) :
    PySem.W.WalkO q loose XP YP l.row.toRowW d [] (fun f vs => PySem.call f vs) := by
  refine Att.attach_call hn hdf fun w s₀ s₁ mg mb fa o pm cd doc ad vs ns G Y ho hd hcd hmg hobj hints hlen hg => ?_
  have KX := hY w _ Y
  obtain ⟨fd, hb, hF⟩ := F w mg fa _ KX G.T.g hmg
  refine law_callG KX G.T.g G.T.b G.T.builtins G.T.nolimit hg hobj hints (Nat.le_trans hlen hn2) hr hF hb (fun H hO hS => ⟨fun _ => none, [.lst (ns.map D.int)], _, _, only_ok, .cons (.lst ?_ ints_repL) .nil, ha _ ns hlen, ?_, ?_⟩)
  · exact sqL_mono (fun b o e => fz_of rfl e) hS
  · intro M' H' d v s' ok' r e
    subst e
    cases r
    rfl
  · exact fun _ _ _ _ _ _ _ _ _ _ _ p => p
/-- how arguments bind: by place and by keyword -/
theorem bindG {K : PySem.W.Frag} {x qual : Str} {st : Stmt} {f : Addr} {fd : FuncData} {ps ks : List Str} {n : Nat} {π : List Nat} (F : Fun K x qual st f fd)
    (h : ∀ (kV doc pm : Value) (an : Option Addr) (cdv ct : Value) (us ws : List Value), us.length = n → ws.length = ks.length →
      bindArgs (PySem.W.fnOf x qual (defArgs st) (defBody st) (defScope st) .none kV doc pm an cdv ct) ⟨us, ks.zip ws⟩ = pure (ps.zip (pick π (us ++ ws)))) : BindG K fd ps n ks π := by
  obtain ⟨oc, od, kV, doc, pm, an, cdv, ct, osl, rfl, lk, hcd⟩ := F.ex
  exact fun s us ws h1 h2 => BindsTo.of_eq (h kV doc pm an cdv ct us ws h1 h2)
section
variable {X : Cx} {x nm : Str} {c : Value} {i n : Nat} {body suite : List Stmt} {b₀ : Stmt} {np pos pos' : Pos} {tb : WX → TS} {ts : Addr → Value → Option Addr → TS} {Wout : WX}
/-- a module's int -/
theorem pe_globI {z : Int} (h : ∃ t, X.mg x = some (.int z t)) (hg : Gl X x := by rfl) (hd : (x == ("__debug__" : Str)) = false := by decide) : PE X (.Name x pos) (tC (.int z)) := by
  obtain ⟨t, e⟩ := h
  exact pe_glob (v := .int z) hg e ⟨t, rfl⟩ hd
theorem ps_tryAs (hs : X.stack = X.env :: X.outer) (hf : X.env.frame = some X.env.locals) (hN : X.N.Nodup) (hi : X.N[i]? = some nm) (hln : X.env.kindOf nm = some .local) (hc : Names X x c) (tk : Takes X Wout)
    (hb : ∀ (W : WX) (pn : List (Addr × Obj)) (xe : Value → Shared → Prop), Takes (X.tr pn xe) W → PassesOwn (model X.prog X.w) X.A X.env xe → PSs (X.tr pn xe) body (tb W))
    (hsu : ∀ (a : Addr) (oe : Obj) (cls : Value) (d : Option Addr) (pn : List (Addr × Obj)), Zc cls d oe → (∃ vs, oe.data = .fields vs) → PSs (X.suite a ((a, oe) :: pn)) (b₀ :: suite) (ts a cls d)) :
    PS X (.Try body [.ExceptHandler (some (.Name x np)) (some nm) (b₀ :: suite) pos'] [] [] pos) (tTryAs X.K c i tb ts Wout) := ps_try_as hs hf hN hi hln hc tk hb hsu
end
end T2
namespace T2
open PySem PySem.Spec PyProof.Rows L2 RZ
theorem hun64 {k : Nat} {A : Around} (hr : Room k A) : A.units + 64 < cLine := by have := hr.un; omega
theorem hun150 {k : Nat} {A : Around} (hr : Room k A) : A.units + 150 < cLine := by have := hr.un; omega
section
variable {K : PySem.W.Frag} {W : WX} {M : Mem} {Χ : Exc} {Ψ : PsiE} {Δ : Sls} {ds : List D} {p : Addr} {y : D}
theorem dp_mem {H : Hp} {n : Nat} (ok : Ok K M H) (hm : M p = some (.lst ds)) (g : goods n ds = true) : Dp K H (.ref p) (.list (toPs ds)) := by
  obtain ⟨vs, hp, rl⟩ := ok p _ hm
  exact .lst (SqL.of hp) (dps_of fz_sub ds n vs g rl)
theorem shaped_lst {n : Nat} (g : goods n ds = true) (hn : n + 1 ≤ 64) : SeqAt.shaped (.list (toPs ds)) = true := shaped_of (d := .lst ds) (n := n + 1) (by simpa only [good] using g) hn
/-- a list that may change == plain data -/
theorem ar_eqM {n m : Nat} (hm : M p = some (.lst ds)) (gx : goods n ds = true) (gy : good m y = true) (hn : n + 1 ≤ 64) (hm2 : m ≤ 64) (k : Ψ (.bl (eqD (.lst ds) y)) M) : AR2 K (rEqD K) (.ref p) y M Ψ := fun H v u ok r1 r2 Q q => by
  cases r1
  exact ⟨_, toP y, dp_mem ok hm gx, dp_of fz_sub y m u gy r2, shaped_lst gx hn, shaped_of gy hm2, q.here ok (.bl _) k⟩
theorem ar_neM {n m : Nat} (hm : M p = some (.lst ds)) (gx : goods n ds = true) (gy : good m y = true) (hn : n + 1 ≤ 64) (hm2 : m ≤ 64) (k : Ψ (.bl (!eqD (.lst ds) y)) M) : AR2 K (rNeD K) (.ref p) y M Ψ := fun H v u ok r1 r2 Q q => by
  cases r1
  exact ⟨_, toP y, dp_mem ok hm gx, dp_of fz_sub y m u gy r2, shaped_lst gx hn, shaped_of gy hm2, q.here ok (.bl _) k⟩
theorem goods_ints {n : Nat} : ∀ ns : List Int, goods n (ns.map D.int) = true
  | [] => rfl
  | i :: ns => by
    show (good n (.int i) && goods n (ns.map D.int)) = true
    rw [goods_ints ns, Bool.and_true]
    cases n <;> rfl
theorem eq_nil {ds : List D} : eqD (.lst ds) (.lst []) = ds.isEmpty := by
  cases ds with
  | nil => rfl
  | cons d ds => rfl
theorem as_whileP {P : Post} {t : TS} {c : TT} (I : Nat → Sls → Mem → Prop) (J : Sls → Mem → Prop) (m0 : Nat) (h0 : I m0 Δ M) (hJ : ∀ Δ' M', J Δ' M' → P.nx Δ' M')
    (hs : ∀ m Δ' M', I m Δ' M' → AT K W (fun c f M2 => P.xr c f Δ' M2) Δ' c M' fun b M1 => if b = true then AS K W t { P with nx := fun Δ2 M2 => ∃ m', m' < m ∧ I m' Δ2 M2, ct := fun Δ2 M2 => ∃ m', m' < m ∧ I m' Δ2 M2, bk := J } Δ' M1 else J Δ' M1) :
    AS K W (tWhile c t) P Δ M := (as_while (P := { P with nx := J }) I m0 h0 hs).mono hJ (fun _ _ z => z) (fun _ _ z => z) (fun _ _ z => z) fun _ _ _ _ z => z
theorem as_seqP {P : Post} {t u : TS} (J : Sls → Mem → Prop) (h : AS K W t { P with nx := J } Δ M) (hJ : ∀ Δ' M', J Δ' M' → AS K W u P Δ' M') : AS K W (tSeq t u) P Δ M :=
  as_seq (h.mono hJ (fun _ _ z => z) (fun _ _ z => z) (fun _ _ z => z) fun _ _ _ _ z => z)
theorem ar_neg {i : Int} (k : Ψ (.int (-i)) M) : AR1 K (rU fun i => .int (-i)) (.int i) M Ψ := fun H v ok r1 Q q => by
  cases r1
  exact ⟨i, rfl, q.here ok (.int _) k⟩
theorem atI_last {α : Type} {xs : List α} {x : α} : atI (xs ++ [x]) (-1) = some x := by
  have e : ixN (xs ++ [x]).length (-1) = some xs.length := by
    unfold ixN
    rw [if_neg (by omega), if_pos (by rw [List.length_append]; simp; omega), List.length_append]
    congr 1
    simp
    omega
  unfold atI
  rw [e]
  simp
theorem atI_at {α : Type} {xs : List α} {x : α} {j : Nat} (h : xs[j]? = some x) : atI xs (j : Int) = some x := by
  have hj : j < xs.length := (List.getElem?_eq_some_iff.mp h).1
  have e : ixN xs.length (j : Int) = some j := by
    unfold ixN
    rw [if_pos (by omega), if_pos (by omega)]
    simp
  unfold atI
  rw [e]
  exact h
theorem atI_int {α : Type} {xs : List α} {x : α} {i : Int} (h0 : 0 ≤ i) (h : xs[i.toNat]? = some x) : atI xs i = some x := by
  have e : i = (i.toNat : Int) := (Int.toNat_of_nonneg h0).symm
  rw [e]
  exact atI_at h
theorem at_yes {Φ : Bool → Mem → Prop} (k : Φ true M) : AT K W Χ Δ tYes M Φ := fun σ H ok sl gx Q g => g.here ok k
/-- the int of a tree -/
def iv : D → Int
  | .int i => i
  | _ => 0
theorem map_iv {f : Int → Int} {ns : List Int} : (ns.map D.int).map (fun d => D.int (f (iv d))) = (ns.map f).map D.int := by
  rw [List.map_map, List.map_map]
  rfl
theorem filter_true {α : Type} {xs : List α} : xs.filter (fun _ => true) = xs := List.filter_eq_self.mpr fun _ _ => rfl
theorem cut_to {xs : List D} {i : Int} (h : 0 ≤ i) : T2.cutD xs none (some i) = xs.take i.toNat := by
  unfold T2.cutD
  show (xs.drop 0).take ((if i < 0 then (i + (xs.length : Int)).toNat else min i.toNat xs.length) - 0) = _
  rw [if_neg (by omega), List.drop_zero, Nat.sub_zero]
  by_cases hl : i.toNat ≤ xs.length
  · rw [Nat.min_eq_left hl]
  · rw [Nat.min_eq_right (by omega), List.take_of_length_le (Nat.le_refl _), List.take_of_length_le (by omega)]
/-- what stands in memory may be forgotten behind an expression -/
theorem ae_fgt {te : TE} (h : AE K W Χ Δ te M fun d M' => ∃ M0 : Mem, (∀ a m, M0 a = some m → M' a = some m) ∧ Ψ d M0) : AE K W Χ Δ te M Ψ := fun σ H ok sl gx Q g =>
  h σ H ok sl gx _ fun M1 H1 d v s1 ok1 r1 ⟨M0, hle, k⟩ => g M0 H1 d v (s1.trans (stp_less hle)) (ok_less ok1 hle) (Rep.mono (stp_less hle).same _ _ r1) k
theorem as_forP {P : Post} {wi : TI} {g : TG} {t : TS} (J : Sls → Mem → Prop) (hJ : ∀ Δ' M', J Δ' M' → P.nx Δ' M') (h : AI K W (fun c f M' => P.xr c f Δ M') Δ wi M fun xs M1 => ∃ I : Nat → Sls → Mem → Prop, I 0 Δ M1 ∧
    (∀ i d Δ' M', xs[i]? = some d → I i Δ' M' → AG K W P.xr g d Δ' M' fun Δ2 M2 => AS K W t { P with nx := I (i + 1), ct := I (i + 1), bk := J } Δ2 M2) ∧ (∀ Δ' M', I xs.length Δ' M' → J Δ' M')) :
    AS K W (tFor wi g t) P Δ M := (as_for (P := { P with nx := J }) h).mono hJ (fun _ _ z => z) (fun _ _ z => z) (fun _ _ z => z) fun _ _ _ _ z => z
/-- M stands in M' -/
def Le (M M' : Mem) : Prop := ∀ a m, M a = some m → M' a = some m
theorem Le.refl {M : Mem} : Le M M := fun _ _ h => h
theorem Le.trans {M M1 M2 : Mem} (a : Le M M1) (b : Le M1 M2) : Le M M2 := fun x m h => b x m (a x m h)
theorem Le.set {M M' : Mem} {p : Addr} {m : MO} (a : Le M M') (h : M p = none) : Le M (M'.set p m) := fun x m' e => by
  rw [Mem.set_ne (Mem.ne_of e h)]
  exact a x m' e
theorem Le.none {M M' : Mem} {p : Addr} (a : Le M M') (h : M' p = none) : M p = none := by
  cases e : M p with
  | none => rfl
  | some m => rw [a p m e] at h; cases h
/-- a target of names alone -/
theorem ag_of {xr : Value → List (Str × D) → Sls → Mem → Prop} {g : TG} {d : D} {Φ : Sls → Mem → Prop} (vs : List Nat) (h : AGc K g vs d Δ M Φ) : AG K W xr g d Δ M Φ := fun σ H v ok sl r gx Q q =>
  h σ H v ok sl r Q fun Δ' M' σ' H' s o l _ p => q Δ' M' σ' H' s o l p
end
end T2
namespace T2
open PySem PySem.Spec PyProof.Rows L2 RZ
/-! ### how long a tuple's repr is -/
theorem piled_le {n : Nat} : ∀ {ts : List Str}, (∀ t ∈ ts, t.length ≤ n) → piled ts ≤ ts.length * (n + 2)
  | [], _ => by simp [piled]
  | t :: ts, h => by
    have ih := piled_le (n := n) (ts := ts) fun x hx => h x (List.mem_cons_of_mem _ hx)
    have h1 := h t (List.mem_cons_self ..)
    have e : piled (t :: ts) = t.length + 2 + piled ts := by simp [piled]
    rw [e, List.length_cons, Nat.succ_mul]
    omega
theorem tupleText_le {n : Nat} {ts : List Str} (h : ∀ t ∈ ts, t.length ≤ n) : (tupleText ts).length ≤ ts.length * (n + 2) + 3 := by
  have hp := piled_le h
  unfold tupleText
  rw [strLen_append, strLen_append]
  have e1 : (("(" : String) : Str).length = 1 := rfl
  have e2 : (((if (ts.length == 1) = true then ",)" else ")" : String)) : Str).length ≤ 2 := by
    by_cases hq : (ts.length == 1) = true
    · rw [if_pos hq]; decide
    · rw [if_neg hq]; decide
  by_cases he : ts = []
  · subst he
    have e3 : (Str.join ", " []).length = 0 := rfl
    rw [e1, e3]
    omega
  · have := join_length_add ts he
    rw [e1]
    omega
theorem listText_le {n : Nat} {ts : List Str} (h : ∀ t ∈ ts, t.length ≤ n) : (listText ts).length ≤ ts.length * (n + 2) + 3 := by
  have g : ∀ (ts : List Str) (k : Nat) (acc : Str), (∀ t ∈ ts, t.length ≤ n) → (textFrom k acc ts).length ≤ acc.length + ts.length * (n + 2) := by
    intro ts
    induction ts with
    | nil => intro k acc _; show acc.length ≤ _; omega
    | cons t r ih =>
      intro k acc hk
      show (textFrom (k + 1) (acc ++ (if k > 0 then ", " else "" : String) ++ t) r).length ≤ _
      have h1 := ih (k + 1) (acc ++ (if k > 0 then ", " else "" : String) ++ t) fun x hx => hk x (List.mem_cons_of_mem _ hx)
      have e : (acc ++ (if k > 0 then ", " else "" : String) ++ t).length = acc.length + (if k > 0 then 2 else 0) + t.length := by
        rw [strLen_append, strLen_append]
        by_cases hq : k > 0
        · rw [if_pos hq, if_pos hq]; rfl
        · rw [if_neg hq, if_neg hq]; rfl
      have h2 := hk t (List.mem_cons_self ..)
      have h3 : (if k > 0 then 2 else 0) ≤ 2 := by split <;> omega
      rw [e] at h1
      rw [List.length_cons, Nat.succ_mul]
      omega
  unfold listText
  rw [strLen_append]
  have h1 := g ts 0 "[" h
  have e1 : (("[" : String) : Str).length = 1 := rfl
  have e2 : (("]" : String) : Str).length = 1 := rfl
  omega
theorem shownAll_eq : ∀ ds : List D, PyData.shownAll (toPs ds) = ds.map shownD
  | [] => rfl
  | d :: ds => by
    simp only [toPs, PyData.shownAll, List.map_cons]
    rw [shownAll_eq ds]
    rfl
theorem showableAll_eq : ∀ ds : List D, PyData.showableAll (toPs ds) = ds.all fun d => (toP d).showable
  | [] => rfl
  | d :: ds => by
    simp only [toPs, PyData.showableAll, List.all_cons]
    rw [showableAll_eq ds]
/-- short: a repr of at most 60 signs -/
def Sho (d : D) : Prop := (shownD d).length ≤ 60 ∧ (toP d).showable = true
theorem shown_tup {ds : List D} {n : Nat} (h : ∀ d ∈ ds, (shownD d).length ≤ n) : (shownD (.tup ds)).length ≤ ds.length * (n + 2) + 3 := by
  have e : shownD (.tup ds) = tupleText (ds.map shownD) := by
    unfold shownD
    simp only [toP, PyData.shown]
    rw [shownAll_eq]
    rfl
  rw [e]
  have := tupleText_le (n := n) (ts := ds.map shownD) fun t ht => by
    obtain ⟨d, hd, rfl⟩ := List.mem_map.mp ht
    exact h d hd
  rw [List.length_map] at this
  exact this
theorem showable_tup {ds : List D} (h : ∀ d ∈ ds, (toP d).showable = true) : (toP (.tup ds)).showable = true := by
  simp only [toP, PyData.showable]
  rw [showableAll_eq]
  exact List.all_eq_true.mpr h
theorem small_int : ∀ n : Nat, n < 1000 → ((toString (n : Int) : String) : Str).length ≤ 10 := by decide +kernel
theorem sho_int {i : Int} (h0 : 0 ≤ i) (h1 : i < 1000) : (shownD (.int i)).length ≤ 10 ∧ (toP (.int i)).showable = true := by
  refine ⟨?_, ?_⟩
  · have := small_int i.toNat (by omega)
    rw [Int.toNat_of_nonneg h0] at this
    unfold shownD
    simp only [toP, PyData.shown]
    exact this
  · simp only [toP, PyData.showable]
    refine decide_eq_true ?_
    have : i.natAbs.log2 ≤ i.natAbs := Nat.log2_le_self _
    omega
theorem sho_none : (shownD .non).length ≤ 10 ∧ (toP .non).showable = true := by
  refine ⟨?_, ?_⟩
  · unfold shownD
    simp only [toP, PyData.shown]
    decide
  · simp only [toP, PyData.showable]
section
variable {K : PySem.W.Frag} {M : Mem} {Ψ : PsiE}
theorem arl_reprT {ds : List D} {n : Nat} (g : goods n ds = true) (hn : n < 64) (h : ∀ d ∈ ds, Sho d) (hl : ds.length ≤ 10000) (k : Ψ (.str (shownD (.tup ds))) M) : ARL K (rRepr K) [.tup ds] M Ψ := by
  refine arl_repr (n := n + 1) rfl (by simpa only [good] using g) (by omega) (showable_tup fun d hd => (h d hd).2) ?_ k
  have := shown_tup (ds := ds) (n := 60) fun d hd => (h d hd).1
  omega
theorem sho_ints {ns : List Int} (h : ∀ i ∈ ns, 0 ≤ i ∧ i < 1000) : ∀ d ∈ ns.map D.int, Sho d := by
  intro d hd
  obtain ⟨i, hi, rfl⟩ := List.mem_map.mp hd
  have := sho_int (h i hi).1 (h i hi).2
  exact ⟨by omega, this.2⟩
theorem goods_all {n : Nat} : ∀ {ds : List D}, (∀ d ∈ ds, good n d = true) → goods n ds = true
  | [], _ => rfl
  | d :: ds, h => by
    show (good n d && goods n ds) = true
    rw [h d (List.mem_cons_self ..), goods_all fun x hx => h x (List.mem_cons_of_mem _ hx)]
    rfl
end
mutual
theorem eqv_self : ∀ (d : D) (n : Nat), good n d = true → PyData.eqv (toP d) (toP d) = true
  | .non, _, _ => by simp [toP, PyData.eqv]
  | .bl b, _, _ => by simp [toP, PyData.eqv]
  | .int i, _, _ => by simp [toP, PyData.eqv]
  | .str x, _, _ => by simp [toP, PyData.eqv]
  | .tup ds, 0, g => by simp [good] at g
  | .tup ds, n + 1, g => by
    simp only [toP, PyData.eqv]
    exact eqvs_self ds n (by simpa only [good] using g)
  | .lst ds, 0, g => by simp [good] at g
  | .lst ds, n + 1, g => by
    simp only [toP, PyData.eqv]
    exact eqvs_self ds n (by simpa only [good] using g)
  | .ref _, _, g => by simp [good] at g
  | .ty _, _, g => by simp [good] at g
  | .obj _ _, _, g => by simp [good] at g
  | .raw _, _, g => by simp [good] at g
  | .xtup _, _, g => by simp [good] at g
  | .exc _ _ _, _, g => by simp [good] at g
theorem eqvs_self : ∀ (ds : List D) (n : Nat), goods n ds = true → PyData.eqvAll (toPs ds) (toPs ds) = true
  | [], _, _ => by simp [toPs, PyData.eqvAll]
  | d :: ds, n, g => by
    simp only [goods, Bool.and_eq_true] at g
    simp only [toPs, PyData.eqvAll]
    rw [eqv_self d n g.1, eqvs_self ds n g.2]
    rfl
end
theorem eqD_self {d : D} {n : Nat} (g : good n d = true) : eqD d d = true := eqv_self d n g
end T2
namespace T2
open PySem PySem.Spec PyProof.Rows L2 RZ
section
variable {K : PySem.W.Frag} {W : WX} {M : Mem} {Χ : Exc} {Ψ : PsiE} {Δ : Sls}
/-- a comprehension that reads the memory alone -/
theorem ae_lcR {wi : TI} {g : TG} {te : TE} {vs : List Nat}
    (h : AI K W Χ Δ wi M fun xs M1 => xs.length ≤ 100000 ∧ ∃ e : D → D,
      (∀ (i : Nat) (d : D) (acc : List D) (p : Addr), xs[i]? = some d → M1 p = none → AGc K g vs d (wipeD Δ vs) (M1.set p (.lst acc)) fun Δ2 M2 => M2 = M1.set p (.lst acc) ∧ AE K W0 X0 Δ2 te M2 fun y M4 => y = e d ∧ M4 = M2) ∧
      Ψ (.lst (xs.map e)) M1) : AE K W Χ Δ (tLc wi g tYes te vs) M Ψ :=
  ae_lcF fun σ H ok sl gx R q => h σ H ok sl gx R fun M1 H1 J xs s o w ⟨a, e, b, c⟩ => q M1 H1 J xs s o w ⟨a, fun i acc M' => acc = (xs.take i).map e ∧ M' = M1, ⟨rfl, rfl⟩, by
    rintro i d acc M' p hx ⟨ea, em⟩ hp hl
    subst ea em
    refine fun σ1 H2 v ok2 sl2 r2 Q2 g2 => b i d _ p hx hp σ1 H2 v ok2 sl2 r2 Q2 fun Δ3 M3 σ3 H3 s3 ok3 sl3 w3 ⟨e3, t3⟩ => g2 Δ3 M3 σ3 H3 s3 ok3 sl3 w3 ?_
    subst e3
    refine at_yes (by
      rw [if_pos rfl]
      refine t3.mono fun y M6 ⟨ey, e6⟩ => ⟨_, e6, hp, ?_, rfl⟩
      rw [ey, List.take_add_one, hx, List.map_append]
      rfl), fun acc M' ⟨ea, em⟩ => by
    subst ea em
    rw [List.take_length]
    exact c⟩
end
end T2
namespace K59
open PySem PySem.Spec PyProof.Rows L2 RZ T2
def top (i : Nat) : Stmt := PySem.Challenge.pw_neverregret_k59_whole_disks_and_cuts.main.body.getD i (.Pass ⟨0, 0, 0, 0⟩)
abbrev s_is_integer : Stmt := top 6
abbrev s_is_number : Stmt := top 7
abbrev s_is_octet : Stmt := top 11
abbrev s_Disk___init__ : Stmt := inClass (top 12) 0
abbrev s_Disk_look : Stmt := inClass (top 12) 1
abbrev s_Disk_put : Stmt := inClass (top 12) 2
abbrev s_Disk_flush : Stmt := inClass (top 12) 3
abbrev s_Disk_events : Stmt := inClass (top 12) 4
abbrev s_pending_places : Stmt := top 13
abbrev s_cut_cells : Stmt := top 14
abbrev s__law_heap : Stmt := top 16
abbrev s__law_draw : Stmt := top 17
abbrev s__law_pick : Stmt := top 18
abbrev s__law_octet : Stmt := top 19
abbrev s__law_last : Stmt := top 20
abbrev s__law_pending : Stmt := top 21
abbrev s__law_cut_right : Stmt := top 22
abbrev s__law_play : Stmt := top 23
abbrev s__law_odds_right : Stmt := top 24
abbrev s__law_great_right : Stmt := top 25
abbrev s_law : Stmt := top 26
/-- where the top has put what it made -/
structure Ad where
  DeskError : Addr
  InvalidNumber : Addr
  Refused : Addr
  Broken : Addr
  Disk : Addr
  Refused___init__ : Addr
  is_integer : Addr
  is_number : Addr
  is_octet : Addr
  Disk___init__ : Addr
  Disk_look : Addr
  Disk_put : Addr
  Disk_flush : Addr
  Disk_events : Addr
  pending_places : Addr
  cut_cells : Addr
  _law_heap : Addr
  _law_draw : Addr
  _law_pick : Addr
  _law_octet : Addr
  _law_last : Addr
  _law_pending : Addr
  _law_cut_right : Addr
  _law_play : Addr
  _law_odds_right : Addr
  _law_great_right : Addr
  law : Addr
structure Fds where
  is_integer : FuncData
  is_number : FuncData
  is_octet : FuncData
  Disk___init__ : FuncData
  Disk_look : FuncData
  Disk_put : FuncData
  Disk_flush : FuncData
  Disk_events : FuncData
  pending_places : FuncData
  cut_cells : FuncData
  _law_heap : FuncData
  _law_draw : FuncData
  _law_pick : FuncData
  _law_octet : FuncData
  _law_last : FuncData
  _law_pending : FuncData
  _law_cut_right : FuncData
  _law_play : FuncData
  _law_odds_right : FuncData
  _law_great_right : FuncData
  law : FuncData
structure Txt (P : Program) (K : PySem.W.Frag) (mg : Str → Option Value) (a : Ad) : Prop where
  g_MOST_CELLS : ∃ t, mg "MOST_CELLS" = some (.int 20000 t)
  g_OCTETS : ∃ t, mg "OCTETS" = some (.int 256 t)
  n_abs : mg "abs" = none
  n_all : mg "all" = none
  n_bool : mg "bool" = none
  n_int : mg "int" = none
  n_isinstance : mg "isinstance" = none
  n_len : mg "len" = none
  n_list : mg "list" = none
  n_range : mg "range" = none
  n_repr : mg "repr" = none
  n_set : mg "set" = none
  n_sorted : mg "sorted" = none
  n_tuple : mg "tuple" = none
  n_zip : mg "zip" = none
  g_DeskError : mg "DeskError" = some (.ref a.DeskError)
  g_InvalidNumber : mg "InvalidNumber" = some (.ref a.InvalidNumber)
  g_Refused : mg "Refused" = some (.ref a.Refused)
  g_Broken : mg "Broken" = some (.ref a.Broken)
  g_Disk : mg "Disk" = some (.ref a.Disk)
  g_is_integer : mg "is_integer" = some (.ref a.is_integer)
  k_is_integer : PySem.W.keepIn K (.ref a.is_integer) = true
  g_is_number : mg "is_number" = some (.ref a.is_number)
  k_is_number : PySem.W.keepIn K (.ref a.is_number) = true
  g_is_octet : mg "is_octet" = some (.ref a.is_octet)
  k_is_octet : PySem.W.keepIn K (.ref a.is_octet) = true
  g_pending_places : mg "pending_places" = some (.ref a.pending_places)
  k_pending_places : PySem.W.keepIn K (.ref a.pending_places) = true
  g_cut_cells : mg "cut_cells" = some (.ref a.cut_cells)
  k_cut_cells : PySem.W.keepIn K (.ref a.cut_cells) = true
  g__law_heap : mg "_law_heap" = some (.ref a._law_heap)
  k__law_heap : PySem.W.keepIn K (.ref a._law_heap) = true
  g__law_draw : mg "_law_draw" = some (.ref a._law_draw)
  k__law_draw : PySem.W.keepIn K (.ref a._law_draw) = true
  g__law_pick : mg "_law_pick" = some (.ref a._law_pick)
  k__law_pick : PySem.W.keepIn K (.ref a._law_pick) = true
  g__law_octet : mg "_law_octet" = some (.ref a._law_octet)
  k__law_octet : PySem.W.keepIn K (.ref a._law_octet) = true
  g__law_last : mg "_law_last" = some (.ref a._law_last)
  k__law_last : PySem.W.keepIn K (.ref a._law_last) = true
  g__law_pending : mg "_law_pending" = some (.ref a._law_pending)
  k__law_pending : PySem.W.keepIn K (.ref a._law_pending) = true
  g__law_cut_right : mg "_law_cut_right" = some (.ref a._law_cut_right)
  k__law_cut_right : PySem.W.keepIn K (.ref a._law_cut_right) = true
  g__law_play : mg "_law_play" = some (.ref a._law_play)
  k__law_play : PySem.W.keepIn K (.ref a._law_play) = true
  g__law_odds_right : mg "_law_odds_right" = some (.ref a._law_odds_right)
  k__law_odds_right : PySem.W.keepIn K (.ref a._law_odds_right) = true
  g__law_great_right : mg "_law_great_right" = some (.ref a._law_great_right)
  k__law_great_right : PySem.W.keepIn K (.ref a._law_great_right) = true
  g_law : mg "law" = some (.ref a.law)
  k_law : PySem.W.keepIn K (.ref a.law) = true
  cl_Disk : Cls K a.Disk
  mk_Disk : Mk K a.Disk a.Disk___init__
  nf_Disk_cells : NoAttr K a.Disk "cells"
  nf_Disk__octets : NoAttr K a.Disk "_octets"
  nf_Disk__events : NoAttr K a.Disk "_events"
  me_Disk_look : Meth K a.Disk "look" a.Disk_look
  me_Disk_put : Meth K a.Disk "put" a.Disk_put
  me_Disk_flush : Meth K a.Disk "flush" a.Disk_flush
  me_Disk_events : Meth K a.Disk "events" a.Disk_events
  x_Refused : OwnX P K mg a.Refused a.Refused___init__ "word"
  xf_Refused : XfC K a.Refused
  xn_Refused : PySem.W.findIn K (.ref a.Refused) "word" = some none
  ec_Refused : ExcC K a.Refused
  exm_Refused_DeskError : PySem.W.exmOne K (.ref a.Refused) (.ref a.DeskError) = some true
  exm_Refused_Refused : PySem.W.exmOne K (.ref a.Refused) (.ref a.Refused) = some true
  kit_Refused_Broken : PySem.W.kitOne K (.ref a.Refused) (.ref a.Broken) = some false
  kit_Refused_InvalidNumber : PySem.W.kitOne K (.ref a.Refused) (.ref a.InvalidNumber) = some false
  kit_Refused_Refused : PySem.W.kitOne K (.ref a.Refused) (.ref a.Refused) = some true
structure Defs (K : PySem.W.Frag) (a : Ad) (fd : Fds) : Prop where
  is_integer : Fun K "is_integer" "is_integer" s_is_integer a.is_integer fd.is_integer
  is_number : Fun K "is_number" "is_number" s_is_number a.is_number fd.is_number
  is_octet : Fun K "is_octet" "is_octet" s_is_octet a.is_octet fd.is_octet
  Disk___init__ : Fun K "__init__" "Disk.__init__" s_Disk___init__ a.Disk___init__ fd.Disk___init__
  Disk_look : Fun K "look" "Disk.look" s_Disk_look a.Disk_look fd.Disk_look
  Disk_put : Fun K "put" "Disk.put" s_Disk_put a.Disk_put fd.Disk_put
  Disk_flush : Fun K "flush" "Disk.flush" s_Disk_flush a.Disk_flush fd.Disk_flush
  Disk_events : Fun K "events" "Disk.events" s_Disk_events a.Disk_events fd.Disk_events
  pending_places : Fun K "pending_places" "pending_places" s_pending_places a.pending_places fd.pending_places
  cut_cells : Fun K "cut_cells" "cut_cells" s_cut_cells a.cut_cells fd.cut_cells
  _law_heap : Fun K "_law_heap" "_law_heap" s__law_heap a._law_heap fd._law_heap
  _law_draw : Fun K "_law_draw" "_law_draw" s__law_draw a._law_draw fd._law_draw
  _law_pick : Fun K "_law_pick" "_law_pick" s__law_pick a._law_pick fd._law_pick
  _law_octet : Fun K "_law_octet" "_law_octet" s__law_octet a._law_octet fd._law_octet
  _law_last : Fun K "_law_last" "_law_last" s__law_last a._law_last fd._law_last
  _law_pending : Fun K "_law_pending" "_law_pending" s__law_pending a._law_pending fd._law_pending
  _law_cut_right : Fun K "_law_cut_right" "_law_cut_right" s__law_cut_right a._law_cut_right fd._law_cut_right
  _law_play : Fun K "_law_play" "_law_play" s__law_play a._law_play fd._law_play
  _law_odds_right : Fun K "_law_odds_right" "_law_odds_right" s__law_odds_right a._law_odds_right fd._law_odds_right
  _law_great_right : Fun K "_law_great_right" "_law_great_right" s__law_great_right a._law_great_right fd._law_great_right
  law : Fun K "law" "law" s_law a.law fd.law
abbrev N_is_integer : List Str := ["value"]
abbrev ps_is_integer : List Str := ["value"]
theorem sc_is_integer : FnScope N_is_integer ps_is_integer (defScope s_is_integer) := ⟨rfl, rfl, rfl, by decide +kernel, rfl, by decide +kernel, by decide +kernel⟩
abbrev N_is_number : List Str := ["value"]
abbrev ps_is_number : List Str := ["value"]
theorem sc_is_number : FnScope N_is_number ps_is_number (defScope s_is_number) := ⟨rfl, rfl, rfl, by decide +kernel, rfl, by decide +kernel, by decide +kernel⟩
abbrev N_is_octet : List Str := ["value"]
abbrev ps_is_octet : List Str := ["value"]
theorem sc_is_octet : FnScope N_is_octet ps_is_octet (defScope s_is_octet) := ⟨rfl, rfl, rfl, by decide +kernel, rfl, by decide +kernel, by decide +kernel⟩
abbrev N_Disk___init__ : List Str := ["self", "cells", "cell"]
abbrev ps_Disk___init__ : List Str := ["self", "cells"]
theorem sc_Disk___init__ : FnScope N_Disk___init__ ps_Disk___init__ (defScope s_Disk___init__) := ⟨rfl, rfl, rfl, by decide +kernel, rfl, by decide +kernel, by decide +kernel⟩
abbrev N_Disk_look : List Str := ["self", "at"]
abbrev ps_Disk_look : List Str := ["self", "at"]
theorem sc_Disk_look : FnScope N_Disk_look ps_Disk_look (defScope s_Disk_look) := ⟨rfl, rfl, rfl, by decide +kernel, rfl, by decide +kernel, by decide +kernel⟩
abbrev N_Disk_put : List Str := ["self", "at", "octet"]
abbrev ps_Disk_put : List Str := ["self", "at", "octet"]
theorem sc_Disk_put : FnScope N_Disk_put ps_Disk_put (defScope s_Disk_put) := ⟨rfl, rfl, rfl, by decide +kernel, rfl, by decide +kernel, by decide +kernel⟩
abbrev N_Disk_flush : List Str := ["self"]
abbrev ps_Disk_flush : List Str := ["self"]
theorem sc_Disk_flush : FnScope N_Disk_flush ps_Disk_flush (defScope s_Disk_flush) := ⟨rfl, rfl, rfl, by decide +kernel, rfl, by decide +kernel, by decide +kernel⟩
abbrev N_Disk_events : List Str := ["self"]
abbrev ps_Disk_events : List Str := ["self"]
theorem sc_Disk_events : FnScope N_Disk_events ps_Disk_events (defScope s_Disk_events) := ⟨rfl, rfl, rfl, by decide +kernel, rfl, by decide +kernel, by decide +kernel⟩
abbrev N_pending_places : List Str := ["events", "found", "event"]
abbrev ps_pending_places : List Str := ["events"]
theorem sc_pending_places : FnScope N_pending_places ps_pending_places (defScope s_pending_places) := ⟨rfl, rfl, rfl, by decide +kernel, rfl, by decide +kernel, by decide +kernel⟩
abbrev N_cut_cells : List Str := ["cells", "events", "octets", "found", "event", "at", "octet"]
abbrev ps_cut_cells : List Str := ["cells", "events", "octets"]
theorem sc_cut_cells : FnScope N_cut_cells ps_cut_cells (defScope s_cut_cells) := ⟨rfl, rfl, rfl, by decide +kernel, rfl, by decide +kernel, by decide +kernel⟩
abbrev N__law_heap : List Str := ["_law_script", "_law_cells", "_law_stir", "_law_cell"]
abbrev ps__law_heap : List Str := ["_law_script"]
theorem sc__law_heap : FnScope N__law_heap ps__law_heap (defScope s__law_heap) := ⟨rfl, rfl, rfl, by decide +kernel, rfl, by decide +kernel, by decide +kernel⟩
abbrev N__law_draw : List Str := ["_law_heap_here", "_law_many", "_law_rest"]
abbrev ps__law_draw : List Str := ["_law_heap_here", "_law_many"]
theorem sc__law_draw : FnScope N__law_draw ps__law_draw (defScope s__law_draw) := ⟨rfl, rfl, rfl, by decide +kernel, rfl, by decide +kernel, by decide +kernel⟩
abbrev N__law_pick : List Str := ["_law_heap_here", "_law_some"]
abbrev ps__law_pick : List Str := ["_law_heap_here", "_law_some"]
theorem sc__law_pick : FnScope N__law_pick ps__law_pick (defScope s__law_pick) := ⟨rfl, rfl, rfl, by decide +kernel, rfl, by decide +kernel, by decide +kernel⟩
abbrev N__law_octet : List Str := ["_law_heap_here", "_law_kind"]
abbrev ps__law_octet : List Str := ["_law_heap_here"]
theorem sc__law_octet : FnScope N__law_octet ps__law_octet (defScope s__law_octet) := ⟨rfl, rfl, rfl, by decide +kernel, rfl, by decide +kernel, by decide +kernel⟩
abbrev N__law_last : List Str := ["_law_events", "_law_at", "_law_old", "_law_back", "_law_event"]
abbrev ps__law_last : List Str := ["_law_events", "_law_at", "_law_old"]
theorem sc__law_last : FnScope N__law_last ps__law_last (defScope s__law_last) := ⟨rfl, rfl, rfl, by decide +kernel, rfl, by decide +kernel, by decide +kernel⟩
abbrev N__law_pending : List Str := ["_law_events", "_law_found", "_law_back", "_law_event"]
abbrev ps__law_pending : List Str := ["_law_events"]
theorem sc__law_pending : FnScope N__law_pending ps__law_pending (defScope s__law_pending) := ⟨rfl, rfl, rfl, by decide +kernel, rfl, by decide +kernel, by decide +kernel⟩
abbrev N__law_cut_right : List Str := ["_law_heap_here", "_law_cells", "_law_events", "_law_places", "_law_octets", "_law_due", "_law_at"]
abbrev ps__law_cut_right : List Str := ["_law_heap_here", "_law_cells", "_law_events"]
theorem sc__law_cut_right : FnScope N__law_cut_right ps__law_cut_right (defScope s__law_cut_right) := ⟨rfl, rfl, rfl, by decide +kernel, rfl, by decide +kernel, by decide +kernel⟩
abbrev N__law_play : List Str := ["_law_heap_here", "_law_disk", "_law_cells", "_law_events", "_law_many", "_law_deed", "_law_at", "_law_octet_here", "_law_told"]
abbrev ps__law_play : List Str := ["_law_heap_here", "_law_disk", "_law_cells", "_law_events"]
theorem sc__law_play : FnScope N__law_play ps__law_play (defScope s__law_play) := ⟨rfl, rfl, rfl, by decide +kernel, rfl, by decide +kernel, by decide +kernel⟩
abbrev N__law_odds_right : List Str := ["_law_heap_here", "_law_odds", "_law_turn", "error", "_law_cells"]
abbrev ps__law_odds_right : List Str := ["_law_heap_here"]
theorem sc__law_odds_right : FnScope N__law_odds_right ps__law_odds_right (defScope s__law_odds_right) := ⟨rfl, rfl, rfl, by decide +kernel, rfl, by decide +kernel, by decide +kernel⟩
abbrev N__law_great_right : List Str := ["_law_heap_here", "_law_octet_here", "_law_disk", "error"]
abbrev ps__law_great_right : List Str := ["_law_heap_here"]
theorem sc__law_great_right : FnScope N__law_great_right ps__law_great_right (defScope s__law_great_right) := ⟨rfl, rfl, rfl, by decide +kernel, rfl, by decide +kernel, by decide +kernel⟩
abbrev N_law : List Str := ["_law_script", "_law_heap_here", "_law_sizes", "_law_rows", "_law_disks", "_law_runs", "_law_turn", "_law_at", "_law_events", "_law_many", "_law_row", "_law_place"]
abbrev ps_law : List Str := ["_law_script"]
theorem sc_law : FnScope N_law ps_law (defScope s_law) := ⟨rfl, rfl, rfl, by decide +kernel, rfl, by decide +kernel, by decide +kernel⟩
theorem bd_Disk___init___1_cells {K : PySem.W.Frag} {a : Ad} {fd : Fds} (Df : Defs K a fd) : BindG K fd.Disk___init__ ps_Disk___init__ 1 ["cells"] [0, 1] := bindG Df.Disk___init__ fun _ _ _ _ _ _ us ws h1 h2 => match us, ws, h1, h2 with | [_], [_], _, _ => rfl
theorem bd_Disk___init___2_ {K : PySem.W.Frag} {a : Ad} {fd : Fds} (Df : Defs K a fd) : BindG K fd.Disk___init__ ps_Disk___init__ 2 [] [0, 1] := bindG Df.Disk___init__ fun _ _ _ _ _ _ us ws h1 h2 => match us, ws, h1, h2 with | [_, _], [], _, _ => rfl
theorem bd_Disk_events_1_ {K : PySem.W.Frag} {a : Ad} {fd : Fds} (Df : Defs K a fd) : BindG K fd.Disk_events ps_Disk_events 1 [] [0] := bindG Df.Disk_events fun _ _ _ _ _ _ us ws h1 h2 => match us, ws, h1, h2 with | [_], [], _, _ => rfl
theorem bd_Disk_flush_1_ {K : PySem.W.Frag} {a : Ad} {fd : Fds} (Df : Defs K a fd) : BindG K fd.Disk_flush ps_Disk_flush 1 [] [0] := bindG Df.Disk_flush fun _ _ _ _ _ _ us ws h1 h2 => match us, ws, h1, h2 with | [_], [], _, _ => rfl
theorem bd_Disk_look_1_at {K : PySem.W.Frag} {a : Ad} {fd : Fds} (Df : Defs K a fd) : BindG K fd.Disk_look ps_Disk_look 1 ["at"] [0, 1] := bindG Df.Disk_look fun _ _ _ _ _ _ us ws h1 h2 => match us, ws, h1, h2 with | [_], [_], _, _ => rfl
theorem bd_Disk_look_2_ {K : PySem.W.Frag} {a : Ad} {fd : Fds} (Df : Defs K a fd) : BindG K fd.Disk_look ps_Disk_look 2 [] [0, 1] := bindG Df.Disk_look fun _ _ _ _ _ _ us ws h1 h2 => match us, ws, h1, h2 with | [_, _], [], _, _ => rfl
theorem bd_Disk_put_1_octet_at {K : PySem.W.Frag} {a : Ad} {fd : Fds} (Df : Defs K a fd) : BindG K fd.Disk_put ps_Disk_put 1 ["octet", "at"] [0, 2, 1] := bindG Df.Disk_put fun _ _ _ _ _ _ us ws h1 h2 => match us, ws, h1, h2 with | [_], [_, _], _, _ => rfl
theorem bd_Disk_put_3_ {K : PySem.W.Frag} {a : Ad} {fd : Fds} (Df : Defs K a fd) : BindG K fd.Disk_put ps_Disk_put 3 [] [0, 1, 2] := bindG Df.Disk_put fun _ _ _ _ _ _ us ws h1 h2 => match us, ws, h1, h2 with | [_, _, _], [], _, _ => rfl
theorem bd__law_cut_right_3_ {K : PySem.W.Frag} {a : Ad} {fd : Fds} (Df : Defs K a fd) : BindG K fd._law_cut_right ps__law_cut_right 3 [] [0, 1, 2] := bindG Df._law_cut_right fun _ _ _ _ _ _ us ws h1 h2 => match us, ws, h1, h2 with | [_, _, _], [], _, _ => rfl
theorem bd__law_draw_2_ {K : PySem.W.Frag} {a : Ad} {fd : Fds} (Df : Defs K a fd) : BindG K fd._law_draw ps__law_draw 2 [] [0, 1] := bindG Df._law_draw fun _ _ _ _ _ _ us ws h1 h2 => match us, ws, h1, h2 with | [_, _], [], _, _ => rfl
theorem bd__law_great_right_1_ {K : PySem.W.Frag} {a : Ad} {fd : Fds} (Df : Defs K a fd) : BindG K fd._law_great_right ps__law_great_right 1 [] [0] := bindG Df._law_great_right fun _ _ _ _ _ _ us ws h1 h2 => match us, ws, h1, h2 with | [_], [], _, _ => rfl
theorem bd__law_heap_1_ {K : PySem.W.Frag} {a : Ad} {fd : Fds} (Df : Defs K a fd) : BindG K fd._law_heap ps__law_heap 1 [] [0] := bindG Df._law_heap fun _ _ _ _ _ _ us ws h1 h2 => match us, ws, h1, h2 with | [_], [], _, _ => rfl
theorem bd__law_last_3_ {K : PySem.W.Frag} {a : Ad} {fd : Fds} (Df : Defs K a fd) : BindG K fd._law_last ps__law_last 3 [] [0, 1, 2] := bindG Df._law_last fun _ _ _ _ _ _ us ws h1 h2 => match us, ws, h1, h2 with | [_, _, _], [], _, _ => rfl
theorem bd__law_octet_1_ {K : PySem.W.Frag} {a : Ad} {fd : Fds} (Df : Defs K a fd) : BindG K fd._law_octet ps__law_octet 1 [] [0] := bindG Df._law_octet fun _ _ _ _ _ _ us ws h1 h2 => match us, ws, h1, h2 with | [_], [], _, _ => rfl
theorem bd__law_odds_right_1_ {K : PySem.W.Frag} {a : Ad} {fd : Fds} (Df : Defs K a fd) : BindG K fd._law_odds_right ps__law_odds_right 1 [] [0] := bindG Df._law_odds_right fun _ _ _ _ _ _ us ws h1 h2 => match us, ws, h1, h2 with | [_], [], _, _ => rfl
theorem bd__law_pending_1_ {K : PySem.W.Frag} {a : Ad} {fd : Fds} (Df : Defs K a fd) : BindG K fd._law_pending ps__law_pending 1 [] [0] := bindG Df._law_pending fun _ _ _ _ _ _ us ws h1 h2 => match us, ws, h1, h2 with | [_], [], _, _ => rfl
theorem bd__law_pick_2_ {K : PySem.W.Frag} {a : Ad} {fd : Fds} (Df : Defs K a fd) : BindG K fd._law_pick ps__law_pick 2 [] [0, 1] := bindG Df._law_pick fun _ _ _ _ _ _ us ws h1 h2 => match us, ws, h1, h2 with | [_, _], [], _, _ => rfl
theorem bd__law_play_4_ {K : PySem.W.Frag} {a : Ad} {fd : Fds} (Df : Defs K a fd) : BindG K fd._law_play ps__law_play 4 [] [0, 1, 2, 3] := bindG Df._law_play fun _ _ _ _ _ _ us ws h1 h2 => match us, ws, h1, h2 with | [_, _, _, _], [], _, _ => rfl
theorem bd_cut_cells_0_octets_events_cells {K : PySem.W.Frag} {a : Ad} {fd : Fds} (Df : Defs K a fd) : BindG K fd.cut_cells ps_cut_cells 0 ["octets", "events", "cells"] [2, 1, 0] := bindG Df.cut_cells fun _ _ _ _ _ _ us ws h1 h2 => match us, ws, h1, h2 with | [], [_, _, _], _, _ => rfl
theorem bd_cut_cells_3_ {K : PySem.W.Frag} {a : Ad} {fd : Fds} (Df : Defs K a fd) : BindG K fd.cut_cells ps_cut_cells 3 [] [0, 1, 2] := bindG Df.cut_cells fun _ _ _ _ _ _ us ws h1 h2 => match us, ws, h1, h2 with | [_, _, _], [], _, _ => rfl
theorem bd_is_integer_1_ {K : PySem.W.Frag} {a : Ad} {fd : Fds} (Df : Defs K a fd) : BindG K fd.is_integer ps_is_integer 1 [] [0] := bindG Df.is_integer fun _ _ _ _ _ _ us ws h1 h2 => match us, ws, h1, h2 with | [_], [], _, _ => rfl
theorem bd_is_number_1_ {K : PySem.W.Frag} {a : Ad} {fd : Fds} (Df : Defs K a fd) : BindG K fd.is_number ps_is_number 1 [] [0] := bindG Df.is_number fun _ _ _ _ _ _ us ws h1 h2 => match us, ws, h1, h2 with | [_], [], _, _ => rfl
theorem bd_is_octet_1_ {K : PySem.W.Frag} {a : Ad} {fd : Fds} (Df : Defs K a fd) : BindG K fd.is_octet ps_is_octet 1 [] [0] := bindG Df.is_octet fun _ _ _ _ _ _ us ws h1 h2 => match us, ws, h1, h2 with | [_], [], _, _ => rfl
theorem bd_pending_places_0_events {K : PySem.W.Frag} {a : Ad} {fd : Fds} (Df : Defs K a fd) : BindG K fd.pending_places ps_pending_places 0 ["events"] [0] := bindG Df.pending_places fun _ _ _ _ _ _ us ws h1 h2 => match us, ws, h1, h2 with | [], [_], _, _ => rfl
theorem bd_pending_places_1_ {K : PySem.W.Frag} {a : Ad} {fd : Fds} (Df : Defs K a fd) : BindG K fd.pending_places ps_pending_places 1 [] [0] := bindG Df.pending_places fun _ _ _ _ _ _ us ws h1 h2 => match us, ws, h1, h2 with | [_], [], _, _ => rfl
end K59
namespace K59
open PySem PySem.Spec PyProof.Rows L2 RZ T2
local macro_rules | `(tactic| walk_at "st") => `(tactic| first
  | with_reducible refine as_seq ?_ | with_reducible refine as_if ?_ | with_reducible refine as_ret ?_ | with_reducible refine as_set ?_ | with_reducible refine as_drop ?_ | with_reducible refine as_next ?_
  | with_reducible refine as_asg ?_ | with_reducible refine as_retN ?_ | with_reducible refine as_brk ?_ | with_reducible refine as_cont ?_
  | with_reducible refine at_test ?_ | with_reducible refine at_B ?_ | with_reducible refine at_and ?_ | with_reducible refine at_or ?_ | with_reducible refine at_not ?_ | with_reducible refine at_yes ?_
  | with_reducible refine ae_op ?_ | with_reducible refine ae_un ?_ | with_reducible refine ae_cb ?_ | with_reducible refine aa_cons ?_ | with_reducible refine aa_nil ?_ | with_reducible refine ae_if ?_
  | with_reducible refine ae_andV ?_ | with_reducible refine ae_orV ?_ | with_reducible refine ae_notV ?_ | with_reducible refine ae_chain ?_
  | with_reducible refine ae_int ?_ | with_reducible refine ae_str ?_ | with_reducible refine ae_bl ?_ | with_reducible refine ae_non ?_ | with_reducible refine ae_ty ?_ | with_reducible refine ae_ref ?_
  | refine ae_var rfl ?_
  | with_reducible refine ar_add ?_ | with_reducible refine ar_sub ?_ | with_reducible refine ar_lt ?_ | with_reducible refine ar_le ?_ | with_reducible refine ar_gt ?_ | with_reducible refine ar_ge ?_
  | with_reducible refine ar_eqI ?_ | with_reducible refine ar_neI ?_
  | with_reducible refine ⟨_, rfl, ?_⟩
  | refine ae_callG ?_)
section
variable {P : Program} {w : World} {K : PySem.W.Frag} {mg : Str → Option Value} {base : Heap} {a : Ad} {fd : Fds}

/-! ### numbers -/
def isInt : D → Bool
  | .int _ => true
  | _ => false
def isNum : D → Bool
  | .int i => decide (0 ≤ i)
  | _ => false
def isOct : D → Bool
  | .int i => decide (0 ≤ i) && decide (i < 256)
  | _ => false
abbrev a_is_integer : ASp := fun ds M Ψ Χ => ∃ d t, ds = [d] ∧ dty d = some t ∧ Ψ (.bl (isInt d)) M
theorem kit_int {d : D} {t : String} (h : dty d = some t) : ∃ b c, kitB t "int" = some b ∧ kitB t "bool" = some c ∧ (b && !c) = isInt d := by
  cases d <;> cases h <;> exact ⟨_, _, rfl, rfl, rfl⟩
theorem ok_is_integer (T : Txt P K mg a) (Df : Defs K a fd) : FnG P w K mg base 1 a.is_integer fd.is_integer ps_is_integer (lift K a_is_integer) := by
  refine okG Df.is_integer sc_is_integer (fun ds M Ψ Χ ⟨_, _, h, _⟩ => by subst h; rfl) fun cdv A outer s H E hr hg => ?_
  refine ⟨_, (pss_one (ps_ret (pe_and (pe_callB call_isi (by rfl) T.n_isinstance (by decide +kernel) (pa_cons (pv 0) (pa_cons (pe_bltn (v := .ty "int") (by rfl) T.n_int (by decide +kernel) rfl) pa_nil))) (pe_one (pe_not (pe_callB call_isi (by rfl) T.n_isinstance (by decide +kernel) (pa_cons (pv 0) (pa_cons (pe_bltn (v := .ty "bool") (by rfl) T.n_bool (by decide +kernel) rfl) pa_nil)))))))), ?_⟩
  rintro ds M Ψ Χ ⟨d, t, rfl, ht, k⟩
  obtain ⟨b, c, kb, kc, e⟩ := kit_int ht
  repeat walk_at "st"
  refine arl_isi ht kb ?_
  refine ⟨_, rfl, ite3 (fun hb => ?_) (fun hb => ?_)⟩
  · repeat walk_at "st"
    refine arl_isi ht kc ?_
    repeat walk_at "st"
    rw [← e, hb] at k
    exact k
  · rw [← e, hb] at k
    exact k
abbrev a_is_number : ASp := fun ds M Ψ Χ => ∃ d t, ds = [d] ∧ dty d = some t ∧ Ψ (.bl (isNum d)) M
theorem ok_is_number (T : Txt P K mg a) (Df : Defs K a fd) : FnG P w K mg base 2 a.is_number fd.is_number ps_is_number (lift K a_is_number) := by
  refine okG Df.is_number sc_is_number (fun ds M Ψ Χ ⟨_, _, h, _⟩ => by subst h; rfl) fun cdv A outer s H E hr hg => ?_
  refine ⟨_, (pss_one (ps_ret (pe_and (pg_call (ok_is_integer T Df) (hr.mono (by decide)) hg (by rfl) T.g_is_integer T.k_is_integer (bd_is_integer_1_ Df) (takes_of rfl rfl rfl rfl) (pa_cons (pv 0) pa_nil) pk_nil) (pe_one (pe_cmpR op_ge (pv 0) pe_int (nomark _)))))), ?_⟩
  rintro ds M Ψ Χ ⟨d, t, rfl, ht, k⟩
  repeat walk_at "st"
  refine ⟨rfl, rfl, d, t, rfl, ht, ?_⟩
  refine ⟨_, rfl, ite3 (fun hb => ?_) (fun hb => ?_)⟩
  · cases d <;> try cases hb
    repeat walk_at "st"
    exact k
  · cases d <;> first | exact k | cases hb
abbrev a_is_octet : ASp := fun ds M Ψ Χ => ∃ d t, ds = [d] ∧ dty d = some t ∧ Ψ (.bl (isOct d)) M
theorem ok_is_octet (T : Txt P K mg a) (Df : Defs K a fd) : FnG P w K mg base 3 a.is_octet fd.is_octet ps_is_octet (lift K a_is_octet) := by
  refine okG Df.is_octet sc_is_octet (fun ds M Ψ Χ ⟨_, _, h, _⟩ => by subst h; rfl) fun cdv A outer s H E hr hg => ?_
  refine ⟨_, (pss_one (ps_ret (pe_and (pg_call (ok_is_number T Df) (hr.mono (by decide)) hg (by rfl) T.g_is_number T.k_is_number (bd_is_number_1_ Df) (takes_of rfl rfl rfl rfl) (pa_cons (pv 0) pa_nil) pk_nil) (pe_one (pe_cmpR op_lt (pv 0) (pe_globI T.g_OCTETS) (nomark _)))))), ?_⟩
  rintro ds M Ψ Χ ⟨d, t, rfl, ht, k⟩
  repeat walk_at "st"
  refine ⟨rfl, rfl, d, t, rfl, ht, ?_⟩
  refine ⟨_, rfl, ite3 (fun hb => ?_) (fun hb => ?_)⟩
  · cases d <;> try cases hb
    rename_i i
    repeat walk_at "st"
    have hb' : decide (0 ≤ i) = true := hb
    have k' : Ψ (.bl (decide (0 ≤ i) && decide (i < 256))) M := k
    rw [hb', Bool.true_and] at k'
    exact k'
  · cases d <;> first | exact k | cases hb | skip
    rename_i i
    have hb' : decide (0 ≤ i) = false := hb
    have k' : Ψ (.bl (decide (0 ≤ i) && decide (i < 256))) M := k
    rw [hb', Bool.false_and] at k'
    exact k'

/-! ### draws -/
/-- a heap of draws at h, its numbers at c -/
def Rng (h c : Addr) (M : Mem) : Prop := h ≠ c ∧ ∃ (dg : List Int) (st : Int), M h = some (.lst [.ref c, .int st]) ∧ M c = some (.lst (dg.map D.int)) ∧ dg.length ≤ 100 ∧ 0 ≤ st ∧ st < 2147483647
def But2 (h c : Addr) (M M' : Mem) : Prop := ∀ b, b ≠ h → b ≠ c → M' b = M b
theorem But2.refl {h c : Addr} {M : Mem} : But2 h c M M := fun _ _ _ => rfl
theorem But2.trans {h c : Addr} {M M1 M2 : Mem} (a : But2 h c M M1) (b : But2 h c M1 M2) : But2 h c M M2 := fun x y z => Eq.trans (b x y z) (a x y z)
theorem But2.none {h c : Addr} {M M' : Mem} (a : But2 h c M M') {p : Addr} (hp : M' p = Option.none) (r' : Rng h c M') : M p = Option.none := by
  obtain ⟨_, _, _, e1, e2, _⟩ := r'
  exact (a p (fun z => by rw [z, e1] at hp; cases hp) (fun z => by rw [z, e2] at hp; cases hp)).symm.trans hp
theorem Rng.of {h c : Addr} {M M' : Mem} (r : Rng h c M) (e1 : M' h = M h) (e2 : M' c = M c) : Rng h c M' := by
  obtain ⟨n, dg, st, a, b, z⟩ := r
  exact ⟨n, dg, st, e1.trans a, e2.trans b, z⟩
theorem Rng.set {h c p : Addr} {M : Mem} {m : MO} (r : Rng h c M) (n1 : p ≠ h) (n2 : p ≠ c) : Rng h c (M.set p m) := r.of (Mem.set_ne (Ne.symm n1)) (Mem.set_ne (Ne.symm n2))
theorem Rng.fresh {h c p : Addr} {M : Mem} (r : Rng h c M) (hp : M p = Option.none) : p ≠ h ∧ p ≠ c := by
  obtain ⟨_, _, _, e1, e2, _⟩ := r
  exact ⟨fun z => (by rw [z, e1] at hp; cases hp), fun z => (by rw [z, e2] at hp; cases hp)⟩
abbrev a_draw : ASp := fun ds M Ψ Χ => ∃ (h c : Addr) (many : Int), ds = [.ref h, .int many] ∧ Rng h c M ∧ 0 < many ∧ many < 1073741824 ∧ ∀ r M', 0 ≤ r → r < many → Rng h c M' → But2 h c M M' → Ψ (.int r) M'
/-- .. its numbers told; M0: as it was -/
structure RngF (h c : Addr) (dg : List Int) (st : Int) (M0 M : Mem) : Prop where
  ne : h ≠ c
  mh : M h = some (.lst [.ref c, .int st])
  mc : M c = some (.lst (dg.map T2.D.int))
  len : dg.length ≤ 100
  s0 : 0 ≤ st
  s1 : st < 2147483647
  bt : But2 h c M0 M
theorem RngF.of {h c : Addr} {M : Mem} (r : Rng h c M) : ∃ dg st, RngF h c dg st M M := by
  obtain ⟨n, dg, st, a, b, l, z1, z2⟩ := r
  exact ⟨dg, st, n, a, b, l, z1, z2, But2.refl⟩
theorem RngF.rng {h c : Addr} {dg : List Int} {st : Int} {M0 M : Mem} (r : RngF h c dg st M0 M) : Rng h c M := ⟨r.ne, dg, st, r.mh, r.mc, r.len, r.s0, r.s1⟩
theorem RngF.setC {h c : Addr} {dg dg' : List Int} {st : Int} {M0 M : Mem} (r : RngF h c dg st M0 M) (hl : dg'.length ≤ 100) : RngF h c dg' st M0 (M.set c (.lst (dg'.map T2.D.int))) :=
  ⟨r.ne, (Mem.set_ne r.ne).trans r.mh, Mem.set_same, hl, r.s0, r.s1, fun b x y => Eq.trans (Mem.set_ne y) (r.bt b x y)⟩
theorem RngF.setH {h c : Addr} {dg : List Int} {st st' : Int} {M0 M : Mem} (r : RngF h c dg st M0 M) (s0 : 0 ≤ st') (s1 : st' < 2147483647) : RngF h c dg st' M0 (M.set h (.lst [.ref c, .int st'])) :=
  ⟨r.ne, Mem.set_same, (Mem.set_ne (Ne.symm r.ne)).trans r.mc, r.len, s0, s1, fun b x y => Eq.trans (Mem.set_ne x) (r.bt b x y)⟩
theorem ne_nil {dg : List Int} (h : (!eqD (.lst (dg.map T2.D.int)) (.lst [])) = true) : ∃ dg' x, dg = dg' ++ [x] := by
  rw [eq_nil] at h
  cases dg with
  | nil => cases h
  | cons a r => exact ⟨(a :: r).dropLast, (a :: r).getLast (by simp), (List.dropLast_concat_getLast (by simp)).symm⟩
theorem ok__law_draw (T : Txt P K mg a) (Df : Defs K a fd) : FnG P w K mg base 1 a._law_draw fd._law_draw ps__law_draw (lift K a_draw) := by
  refine okG Df._law_draw sc__law_draw (fun ds M Ψ Χ ⟨_, _, _, h, _⟩ => by subst h; rfl) fun cdv A outer s H E hr hg => ?_
  refine ⟨_, (pss_cons (ps_while (passes_of rfl) (PW.pt (pw_and (pt_cmpR (op_neD (hun64 hr)) (pe_ix ix_seq (pv 0) pe_int (fun _ _ => rfl)) (pe_lst pa_nil) (nomark _)) (pw_and1 (pt_cmpR op_eq (pe_ix ix_seq (pe_ix ix_seq (pv 0) pe_int (fun _ _ => rfl)) (pe_un un_neg pe_int) (fun _ _ => rfl)) pe_int (nomark _))))) (pss_one (ps_expr (pe_bm0 PySem.F.plainAttrs_list PySem.F.slot_list_pop PySem.F.type_list_pop mt_pop (pe_ix ix_seq (pv 0) pe_int (fun _ _ => rfl))))))
      (pss_cons (ps_if (pt_cmpR (op_neD (hun64 hr)) (pe_ix ix_seq (pv 0) pe_int (fun _ _ => rfl)) (pe_lst pa_nil) (nomark _))
      (pss_cons (ps_set (i := 2) sc__law_draw.nd rfl (Or.inl rfl) (pe_bm0 PySem.F.plainAttrs_list PySem.F.slot_list_pop PySem.F.type_list_pop mt_pop (pe_ix ix_seq (pv 0) pe_int (fun _ _ => rfl))))
      (pss_cons (ps_expr (pe_bm PySem.F.plainAttrs_list PySem.F.slot_list_append PySem.F.type_list_append mt_append (pe_ix ix_seq (pv 0) pe_int (fun _ _ => rfl)) (pa_cons (pe_op op_fdiv (pv 2) (pv 1)) pa_nil)))
      (pss_one (ps_ret (pe_op op_mod (pe_callTy call_int1 (by rfl) T.n_int (by decide +kernel) (pa_cons (pv 2) pa_nil)) (pv 1))))))
      pss_nil)
      (pss_cons (ps_asg (pe_op op_mod (pe_callTy call_int1 (by rfl) T.n_int (by decide +kernel) (pa_cons (pe_op op_add (pe_op op_mul (pe_ix ix_seq (pv 0) pe_int (fun _ _ => rfl)) pe_int) pe_int) pa_nil)) pe_int) (pg_sub (pv 0) pe_int set_list))
      (pss_one (ps_ret (pe_op op_mod (pe_callTy call_int1 (by rfl) T.n_int (by decide +kernel) (pa_cons (pe_op op_fdiv (pe_ix ix_seq (pv 0) pe_int (fun _ _ => rfl)) pe_int) pa_nil)) (pv 1))))))), ?_⟩
  rintro ds M Ψ Χ ⟨h, c, many, rfl, R, m0, m1, k⟩
  obtain ⟨dg, st, R⟩ := RngF.of R
  refine as_seq (as_whileP (fun m Δ' M' => ∃ (dg : List Int) (st : Int), m = dg.length ∧ Δ' = [some (.ref h), some (.int many), none] ∧ RngF h c dg st M M') (fun Δ' M' => ∃ (dg : List Int) (st : Int), Δ' = [some (.ref h), some (.int many), none] ∧ RngF h c dg st M M') dg.length ⟨dg, st, rfl, rfl, R⟩ ?_ ?_)
  · -- behind the loop
    rintro Δ' M' ⟨dg, st, rfl, R⟩
    repeat walk_at "st"
    refine ar_ix_L (ar_ixM R.mh rfl ?_)
    refine ae_lst (aa_nil ⟨by decide, ?_⟩)
    refine ar_neM R.mc (n := 0) (m := 1) (goods_ints _) rfl (by decide) (by decide) ?_
    refine ⟨_, rfl, ite3 (fun hb => ?_) (fun hb => ?_)⟩
    · obtain ⟨dg, x, rfl⟩ := ne_nil hb
      repeat walk_at "st"
      refine ae_pop ?_
      repeat walk_at "st"
      refine ar_ix_L (ar_ixM R.mh rfl ?_)
      refine ⟨c, dg.map T2.D.int, .int x, rfl, by rw [R.mc, List.map_append]; rfl, ?_⟩
      have hl := R.len
      rw [List.length_append] at hl
      have R2 := R.setC (dg' := dg) (by simp at hl; omega)
      repeat walk_at "st"
      refine ae_append ?_
      repeat walk_at "st"
      refine ar_ix_L (ar_ixM R2.mh rfl ?_)
      refine ⟨c, _, rfl, R2.mc, ?_⟩
      repeat walk_at "st"
      refine ar_fdiv ⟨m0, m1⟩ ?_
      refine ⟨_, R2.mc, by rw [List.length_map]; simp at hl; omega, ?_⟩
      have R3 := R2.setC (dg' := dg ++ [x / many]) (by simpa using hl)
      have e : (M'.set c (.lst (dg.map T2.D.int))).set c (.lst (dg.map T2.D.int ++ [.int (x / many)])) = (M'.set c (.lst (dg.map T2.D.int))).set c (.lst ((dg ++ [x / many]).map T2.D.int)) := by rw [List.map_append]; rfl
      rw [e]
      repeat walk_at "st"
      refine arl_intI ?_
      repeat walk_at "st"
      refine ar_mod m0 ?_
      exact k _ _ (Int.emod_nonneg _ (by omega)) (Int.emod_lt_of_pos _ m0) R3.rng R3.bt
    · have hs0 := R.s0
      have hs1 := R.s1
      repeat walk_at "st"
      refine ar_ix_L (ar_ixM R.mh rfl ?_)
      repeat walk_at "st"
      refine ar_mul (.inr ⟨by decide, by decide⟩) ?_
      repeat walk_at "st"
      refine arl_intI ?_
      repeat walk_at "st"
      refine ar_mod (by decide) ?_
      have R2 := R.setH (st' := (st * 69621 + 59) % 2147483647) (Int.emod_nonneg _ (by decide)) (Int.emod_lt_of_pos _ (by decide))
      refine ag_sub ?_
      repeat walk_at "st"
      refine ⟨h, _, 1, 1, rfl, rfl, R.mh, rfl, ?_⟩
      repeat walk_at "st"
      refine ar_ix_L (ar_ixM R2.mh rfl ?_)
      repeat walk_at "st"
      refine ar_fdiv ⟨by decide, by decide⟩ ?_
      repeat walk_at "st"
      refine arl_intI ?_
      repeat walk_at "st"
      refine ar_mod m0 ?_
      exact k _ _ (Int.emod_nonneg _ (by omega)) (Int.emod_lt_of_pos _ m0) R2.rng R2.bt
  · rintro m Δ' M' ⟨dg, st, rfl, rfl, R⟩
    repeat walk_at "st"
    refine ar_ix_L (ar_ixM R.mh rfl ?_)
    refine ae_lst (aa_nil ⟨by decide, ?_⟩)
    refine ar_neM R.mc (n := 0) (m := 1) (goods_ints _) rfl (by decide) (by decide) ?_
    refine ⟨_, rfl, ite3 (fun hb => ?_) (fun hb => ⟨dg, st, rfl, R⟩)⟩
    obtain ⟨dg, x, rfl⟩ := ne_nil hb
    repeat walk_at "st"
    refine ar_ix_L (ar_ixM R.mh rfl ?_)
    repeat walk_at "st"
    refine ar_neg ?_
    refine ar_ix_L (ar_ixM R.mc (by rw [List.map_append]; exact atI_last) ?_)
    repeat walk_at "st"
    refine ite3 (fun hz => ?_) (fun hz => ⟨_, st, rfl, R⟩)
    repeat walk_at "st"
    refine ae_pop ?_
    repeat walk_at "st"
    refine ar_ix_L (ar_ixM R.mh rfl ?_)
    have hl := R.len
    rw [List.length_append] at hl
    have R2 := R.setC (dg' := dg) (by simp at hl; omega)
    refine ⟨c, dg.map T2.D.int, .int x, rfl, by rw [R.mc, List.map_append]; rfl, ?_⟩
    exact ⟨dg.length, by simp, dg, st, rfl, rfl, R2⟩
end
end K59
namespace K59
open PySem PySem.Spec PyProof.Rows L2 RZ T2
local macro_rules | `(tactic| walk_at "st") => `(tactic| first
  | with_reducible refine as_seq ?_ | with_reducible refine as_if ?_ | with_reducible refine as_ret ?_ | with_reducible refine as_set ?_ | with_reducible refine as_drop ?_ | with_reducible refine as_next ?_
  | with_reducible refine as_asg ?_ | with_reducible refine as_retN ?_ | with_reducible refine as_brk ?_ | with_reducible refine as_cont ?_
  | with_reducible refine at_test ?_ | with_reducible refine at_B ?_ | with_reducible refine at_and ?_ | with_reducible refine at_or ?_ | with_reducible refine at_not ?_ | with_reducible refine at_yes ?_
  | with_reducible refine ae_op ?_ | with_reducible refine ae_un ?_ | with_reducible refine ae_cb ?_ | with_reducible refine aa_cons ?_ | with_reducible refine aa_nil ?_ | with_reducible refine ae_if ?_
  | with_reducible refine ae_andV ?_ | with_reducible refine ae_orV ?_ | with_reducible refine ae_notV ?_ | with_reducible refine ae_chain ?_
  | with_reducible refine ae_int ?_ | with_reducible refine ae_str ?_ | with_reducible refine ae_bl ?_ | with_reducible refine ae_non ?_ | with_reducible refine ae_ty ?_ | with_reducible refine ae_ref ?_
  | refine ae_var rfl ?_
  | with_reducible refine ar_add ?_ | with_reducible refine ar_sub ?_ | with_reducible refine ar_lt ?_ | with_reducible refine ar_le ?_ | with_reducible refine ar_gt ?_ | with_reducible refine ar_ge ?_
  | with_reducible refine ar_eqI ?_ | with_reducible refine ar_neI ?_
  | with_reducible refine ⟨_, rfl, ?_⟩
  | refine ae_callG ?_)
section
variable {P : Program} {w : World} {K : PySem.W.Frag} {mg : Str → Option Value} {base : Heap} {a : Ad} {fd : Fds}

abbrev a_pick : ASp := fun ds M Ψ Χ => ∃ (h c : Addr) (xs : List D), ds = [.ref h, .lst xs] ∧ Rng h c M ∧ 0 < xs.length ∧ xs.length ≤ 100000 ∧ ∀ d M', d ∈ xs → Rng h c M' → But2 h c M M' → Ψ d M'
theorem ok__law_pick (T : Txt P K mg a) (Df : Defs K a fd) : FnG P w K mg base 2 a._law_pick fd._law_pick ps__law_pick (lift K a_pick) := by
  refine okG Df._law_pick sc__law_pick (fun ds M Ψ Χ ⟨_, _, _, h, _⟩ => by subst h; rfl) fun cdv A outer s H E hr hg => ?_
  refine ⟨_, (pss_one (ps_ret (pe_ix ix_seq (pv 1) (pg_call (ok__law_draw T Df) (hr.mono (by decide)) hg (by rfl) T.g__law_draw T.k__law_draw (bd__law_draw_2_ Df) (takes_of rfl rfl rfl rfl) (pa_cons (pv 0) (pa_cons (pe_callB call_len (by rfl) T.n_len (by decide +kernel) (pa_cons (pv 1) pa_nil)) pa_nil)) pk_nil) (fun _ _ => rfl)))), ?_⟩
  rintro ds M Ψ Χ ⟨h, c, xs, rfl, R, m0, m1, k⟩
  repeat walk_at "st"
  refine arl_lenL ?_
  repeat walk_at "st"
  refine ⟨rfl, rfl, h, c, _, rfl, R, by omega, by omega, fun r M' r0 r1 R' bt => ?_⟩
  have hr : r.toNat < xs.length := by omega
  refine ar_ix_L (ar_ixL (atI_int r0 (List.getElem?_eq_getElem hr)) (k _ _ (List.getElem_mem hr) R' bt))
abbrev a_octet : ASp := fun ds M Ψ Χ => ∃ (h c : Addr), ds = [.ref h] ∧ Rng h c M ∧ ∀ r M', 0 ≤ r → r < 256 → Rng h c M' → But2 h c M M' → Ψ (.int r) M'
theorem ok__law_octet (T : Txt P K mg a) (Df : Defs K a fd) : FnG P w K mg base 3 a._law_octet fd._law_octet ps__law_octet (lift K a_octet) := by
  refine okG Df._law_octet sc__law_octet (fun ds M Ψ Χ ⟨_, _, h, _⟩ => by subst h; rfl) fun cdv A outer s H E hr hg => ?_
  refine ⟨_, (pss_cons (ps_set (i := 1) sc__law_octet.nd rfl (Or.inl rfl) (pg_call (ok__law_draw T Df) (hr.mono (by decide)) hg (by rfl) T.g__law_draw T.k__law_draw (bd__law_draw_2_ Df) (takes_of rfl rfl rfl rfl) (pa_cons (pv 0) (pa_cons pe_int pa_nil)) pk_nil))
      (pss_cons (ps_if (pt_cmpR op_eq (pv 1) pe_int (nomark _))
      (pss_one (ps_ret (pg_call (ok__law_pick T Df) (hr.mono (by decide)) hg (by rfl) T.g__law_pick T.k__law_pick (bd__law_pick_2_ Df) (takes_of rfl rfl rfl rfl) (pa_cons (pv 0) (pa_cons (pe_lst (pa_cons pe_int (pa_cons pe_int (pa_cons pe_int (pa_cons pe_int (pa_cons pe_int (pa_cons pe_int pa_nil))))))) pa_nil)) pk_nil)))
      pss_nil)
      (pss_one (ps_ret (pg_call (ok__law_draw T Df) (hr.mono (by decide)) hg (by rfl) T.g__law_draw T.k__law_draw (bd__law_draw_2_ Df) (takes_of rfl rfl rfl rfl) (pa_cons (pv 0) (pa_cons (pe_ifExp (pt_cmpR op_lt (pv 1) pe_int (nomark _)) pe_int pe_int) pa_nil)) pk_nil))))), ?_⟩
  rintro ds M Ψ Χ ⟨h, c, rfl, R, k⟩
  repeat walk_at "st"
  refine ⟨rfl, rfl, h, c, _, rfl, R, by omega, by omega, fun kd M' r0 r1 R' bt => ?_⟩
  repeat walk_at "st"
  refine ite3 (fun hz => ?_) (fun hz => ?_)
  · repeat walk_at "st"
    refine ae_lst ?_
    repeat walk_at "st"
    refine ⟨by decide, ?_⟩
    repeat walk_at "st"
    refine ⟨rfl, rfl, h, c, _, rfl, R', by decide, by decide, fun d M2 hd R2 b2 => ?_⟩
    simp only [List.mem_cons, List.mem_nil_iff, or_false] at hd
    rcases hd with rfl | rfl | rfl | rfl | rfl | rfl <;> exact k _ _ (by decide) (by decide) R2 (bt.trans b2)
  · repeat walk_at "st"
    refine ite3 (fun hz => ?_) (fun hz => ?_)
    · repeat walk_at "st"
      exact ⟨rfl, rfl, h, c, _, rfl, R', by decide, by decide, fun d M2 d0 d1 R2 b2 => k _ _ d0 d1 R2 (bt.trans b2)⟩
    · repeat walk_at "st"
      exact ⟨rfl, rfl, h, c, _, rfl, R', by decide, by decide, fun d M2 d0 d1 R2 b2 => k _ _ d0 (by omega) R2 (bt.trans b2)⟩
abbrev a_heap : ASp := fun ds M Ψ Χ => ∃ (ns : List Int), ds = [.lst (ns.map D.int)] ∧ ∀ h c M', M h = none → M c = none → Rng h c M' → But2 h c M M' → Ψ (.ref h) M'
theorem ok__law_heap (T : Txt P K mg a) (Df : Defs K a fd) : FnG P w K mg base 1 a._law_heap fd._law_heap ps__law_heap (lift K a_heap) := by
  refine okG Df._law_heap sc__law_heap (fun ds M Ψ Χ ⟨_, h, _⟩ => by subst h; rfl) fun cdv A outer s H E hr hg => ?_
  refine ⟨_, (pss_cons (ps_par (i := 1) (j := 2) (by rfl) sc__law_heap.nd rfl rfl (by decide) rfl rfl (pa_cons (pe_lc (own := [("_law_cell", 3)]) rfl sc__law_heap.nd (pi_list (pe_slice sl_list (pv 0) po_none (po_some pe_int))) (blkOk_by (own := [("_law_cell", 3)]) (N := N__law_heap) (sc := defScope s__law_heap) (by decide +kernel)) (fun _ _ _ _ _ => (pg_name (i := 3) sc__law_heap.nd rfl (Or.inl rfl))) (fun _ _ _ _ _ => pts_nil) (fun _ _ _ _ _ => (pe_op op_add (pe_op op_mul pe_int (pe_callB call_abs (by rfl) T.n_abs (by decide +kernel) (pa_cons (pv 3) pa_nil))) (pe_callTy call_int1 (by rfl) T.n_int (by decide +kernel) (pa_cons (pe_cmpR op_lt (pv 3) pe_int (nomark _)) pa_nil))))) (pa_cons pe_int pa_nil)) (by rfl))
      (pss_cons (ps_for (passes_of rfl) rfl (pi_list (pv 1)) (pg_name (i := 3) sc__law_heap.nd rfl (Or.inl rfl))
      (pss_one (ps_set (i := 2) sc__law_heap.nd rfl (Or.inl rfl) (pe_op op_mod (pe_callTy call_int1 (by rfl) T.n_int (by decide +kernel) (pa_cons (pe_op op_add (pe_op op_add (pe_op op_mul (pv 2) pe_int) (pe_op op_mod (pe_callTy call_int1 (by rfl) T.n_int (by decide +kernel) (pa_cons (pv 3) pa_nil)) pe_int)) pe_int) pa_nil)) pe_int))))
      (pss_one (ps_ret (pe_lst (pa_cons (pe_revL (pe_lc (own := [("_law_cell", 3)]) rfl sc__law_heap.nd (pi_list (pv 1)) (blkOk_by (own := [("_law_cell", 3)]) (N := N__law_heap) (sc := defScope s__law_heap) (by decide +kernel)) (fun _ _ _ _ _ => (pg_name (i := 3) sc__law_heap.nd rfl (Or.inl rfl))) (fun _ _ _ _ _ => (pts_one (pt_cmpR op_ge (pv 3) (pe_op op_pow pe_int pe_int) (nomark _)))) (fun _ _ _ _ _ => (pv 3)))) (pa_cons (pv 2) pa_nil))))))), ?_⟩
  rintro ds M Ψ Χ ⟨ns, rfl, k⟩
  refine as_seq (as_par ?_)
  repeat walk_at "st"
  refine ae_lcP (ai_lst (ae_slL ?_))
  repeat walk_at "st"
  refine ao_none (ao_some ?_)
  repeat walk_at "st"
  rw [cut_to (by decide), show ((60 : Int).toNat = 60) from rfl, ← List.map_take]
  have hl : (ns.take 60).length ≤ 60 := by rw [List.length_take]; omega
  generalize ns.take 60 = ms at hl
  refine ⟨by rw [List.length_map]; omega, fun _ => true, fun d => .int (2 * (if iv d < 0 then -iv d else iv d) + (if decide (iv d < 0) = true then 1 else 0)), fun d M' hd => ?_, ?_⟩
  · obtain ⟨i, _, rfl⟩ := List.mem_map.mp hd
    refine agc_name (by decide) ⟨rfl, ?_⟩
    repeat walk_at "st"
    refine ⟨rfl, rfl, fun _ => ?_⟩
    repeat walk_at "st"
    refine arl_abs ?_
    repeat walk_at "st"
    refine ar_mul (.inl ⟨by decide, by decide⟩) ?_
    repeat walk_at "st"
    refine arl_intB ?_
    repeat walk_at "st"
    exact ⟨rfl, rfl⟩
  · rw [filter_true, map_iv (f := fun i => 2 * (if i < 0 then -i else i) + (if decide (i < 0) = true then 1 else 0))]
    have hl2 : (ms.map fun i => 2 * (if i < 0 then -i else i) + (if decide (i < 0) = true then 1 else 0)).length ≤ 60 := by rw [List.length_map]; exact hl
    generalize (ms.map fun i => 2 * (if i < 0 then -i else i) + (if decide (i < 0) = true then 1 else 0)) = cs at hl2
    repeat walk_at "st"
    refine ⟨_, _, rfl, ?_⟩
    -- the stir
    refine as_seq (as_for (ai_lst ?_))
    repeat walk_at "st"
    refine ⟨fun i Δ' M' => ∃ (v : Option D) (st : Int), Δ' = [some (.lst (ns.map D.int)), some (.lst (cs.map D.int)), some (.int st), v] ∧ 0 ≤ st ∧ st < 2147483647 ∧ M' = M, ⟨_, _, rfl, by decide, by decide, rfl⟩, ?_, ?_⟩
    · rintro i d Δ' M' hd ⟨v, st, rfl, s0, s1, rfl⟩
      rw [List.getElem?_map] at hd
      obtain ⟨x, _, rfl⟩ := Option.map_eq_some_iff.mp hd
      refine ag_name ?_
      repeat walk_at "st"
      refine ar_mul (.inr ⟨by decide, by decide⟩) ?_
      repeat walk_at "st"
      refine arl_intI ?_
      repeat walk_at "st"
      refine ar_mod (by decide) ?_
      repeat walk_at "st"
      refine arl_intI ?_
      repeat walk_at "st"
      refine ar_mod (by decide) ?_
      exact ⟨_, _, rfl, Int.emod_nonneg _ (by decide), Int.emod_lt_of_pos _ (by decide), rfl⟩
    · rintro Δ' M' ⟨v, st, rfl, s0, s1, rfl⟩
      repeat walk_at "st"
      refine ae_lstM ?_
      repeat walk_at "st"
      refine ae_revLM (ae_lcP (ai_lst ?_))
      repeat walk_at "st"
      refine ⟨by rw [List.length_map]; omega, fun d => decide (1000000000000000000 ≤ iv d), id, fun d M2 hd => ?_, ?_⟩
      · obtain ⟨i, _, rfl⟩ := List.mem_map.mp hd
        refine agc_name (by decide) ⟨rfl, ?_⟩
        repeat walk_at "st"
        refine ar_pow ⟨by decide, by decide, by decide⟩ ?_
        repeat walk_at "st"
        refine ⟨rfl, rfl, fun _ => ?_⟩
        repeat walk_at "st"
        exact ⟨rfl, rfl⟩
      · rw [List.map_id, List.filter_map]
        refine ⟨_, rfl, fun c hc => ?_⟩
        rw [← List.map_reverse]
        repeat walk_at "st"
        refine ⟨by simp, fun h hh => ?_⟩
        have hne : h ≠ c := fun z => by rw [z, Mem.set_same] at hh; cases hh
        rw [Mem.set_ne hne] at hh
        refine k h c _ hh hc ⟨hne, _, st, Mem.set_same, (Mem.set_ne (Ne.symm hne)).trans Mem.set_same, ?_, s0, s1⟩ fun b x y => (Mem.set_ne x).trans (Mem.set_ne y)
        rw [List.length_reverse]
        exact Nat.le_trans (List.length_filter_le _ _) (by omega)
end
end K59
namespace K59
open PySem PySem.Spec PyProof.Rows L2 RZ T2
local macro_rules | `(tactic| walk_at "st") => `(tactic| first
  | with_reducible refine as_seq ?_ | with_reducible refine as_if ?_ | with_reducible refine as_ret ?_ | with_reducible refine as_set ?_ | with_reducible refine as_drop ?_ | with_reducible refine as_next ?_
  | with_reducible refine as_asg ?_ | with_reducible refine as_retN ?_ | with_reducible refine as_brk ?_ | with_reducible refine as_cont ?_
  | with_reducible refine at_test ?_ | with_reducible refine at_B ?_ | with_reducible refine at_and ?_ | with_reducible refine at_or ?_ | with_reducible refine at_not ?_ | with_reducible refine at_yes ?_
  | with_reducible refine ae_op ?_ | with_reducible refine ae_un ?_ | with_reducible refine ae_cb ?_ | with_reducible refine aa_cons ?_ | with_reducible refine aa_nil ?_ | with_reducible refine ae_if ?_
  | with_reducible refine ae_andV ?_ | with_reducible refine ae_orV ?_ | with_reducible refine ae_notV ?_ | with_reducible refine ae_chain ?_
  | with_reducible refine ae_int ?_ | with_reducible refine ae_str ?_ | with_reducible refine ae_bl ?_ | with_reducible refine ae_non ?_ | with_reducible refine ae_ty ?_ | with_reducible refine ae_ref ?_
  | refine ae_varX rfl ?_ | refine ae_var rfl ?_
  | with_reducible refine ar_add ?_ | with_reducible refine ar_sub ?_ | with_reducible refine ar_lt ?_ | with_reducible refine ar_le ?_ | with_reducible refine ar_gt ?_ | with_reducible refine ar_ge ?_
  | with_reducible refine ar_eqI ?_ | with_reducible refine ar_neI ?_
  | with_reducible refine ⟨_, rfl, ?_⟩
  | refine ae_callG ?_ | refine ae_methG ?_)
section
variable {P : Program} {w : World} {K : PySem.W.Frag} {mg : Str → Option Value} {base : Heap} {a : Ad} {fd : Fds}
/-! ### events -/
abbrev Ev := Option (Int × Int)
def evD : Ev → D
  | none => .non
  | some (x, o) => .tup [.int x, .int o]
/-- the last octet put at a place -/
def last (es : List Ev) (at_ old : Int) : Int := es.foldl (fun acc e => match e with
  | none => acc
  | some (x, o) => if x = at_ then o else acc) old
theorem last_snoc (es : List Ev) (e : Ev) (at_ old : Int) : last (es ++ [e]) at_ old = match e with
  | none => last es at_ old
  | some (x, o) => if x = at_ then o else last es at_ old := by
  unfold last
  rw [List.foldl_append]
  rfl
theorem take_snoc {α : Type} {xs : List α} {j : Nat} {x : α} (h : xs[j]? = some x) : xs.take (j + 1) = xs.take j ++ [x] := by
  rw [List.take_add_one, h]
  rfl
theorem evs_get {es : List Ev} {j : Nat} {e : Ev} (h : es[j]? = some e) : (es.map evD)[j]? = some (evD e) := by rw [List.getElem?_map, h]; rfl
/-- a tuple of events, or a list that may change -/
def SeqE (M : Mem) (d : D) (es : List Ev) : Prop := d = .tup (es.map evD) ∨ ∃ r, d = .ref r ∧ M r = some (.lst (es.map evD))
theorem arl_lenE {M : Mem} {d : D} {es : List Ev} {Ψ : PsiE} (h : SeqE M d es) (k : Ψ (.int es.length) M) : ARL K (cLen K) [d] M Ψ := by
  rcases h with rfl | ⟨r, rfl, hm⟩
  · exact arl_lenT (by rw [List.length_map]; exact k)
  · exact arl_lenM hm (by rw [List.length_map]; exact k)
theorem ar_ixE {M : Mem} {d : D} {es : List Ev} {i : Int} {e : Ev} {Ψ : PsiE} (h : SeqE M d es) (i0 : 0 ≤ i) (he : es[i.toNat]? = some e) (k : Ψ (evD e) M) : AR2 K (rIx K) d (.int i) M Ψ := by
  rcases h with rfl | ⟨r, rfl, hm⟩
  · exact ar_ix_T (ar_ixT (atI_int i0 (evs_get he)) k)
  · exact ar_ix_L (ar_ixM hm (atI_int i0 (evs_get he)) k)
abbrev a_last : ASp := fun ds M Ψ Χ => ∃ (dE : D) (es : List Ev) (x old : Int), ds = [dE, .int x, .int old] ∧ SeqE M dE es ∧ es.length ≤ 100000 ∧ Ψ (.int (last es x old)) M
theorem ok__law_last (T : Txt P K mg a) (Df : Defs K a fd) : FnG P w K mg base 1 a._law_last fd._law_last ps__law_last (lift K a_last) := by
  refine okG Df._law_last sc__law_last (fun ds M Ψ Χ ⟨_, _, _, _, h, _⟩ => by subst h; rfl) fun cdv A outer s H E hr hg => ?_
  refine ⟨_, (pss_cons (ps_for (passes_of rfl) rfl (pi_range1 (by rfl) T.n_range (pa_cons (pe_callB call_len (by rfl) T.n_len (by decide +kernel) (pa_cons (pv 0) pa_nil)) pa_nil)) (pg_name (i := 3) sc__law_last.nd rfl (Or.inl rfl))
      (pss_cons (ps_set (i := 4) sc__law_last.nd rfl (Or.inl rfl) (pe_ix ix_seq (pv 0) (pe_op op_sub (pe_op op_sub (pe_callB call_len (by rfl) T.n_len (by decide +kernel) (pa_cons (pv 0) pa_nil)) pe_int) (pv 3)) (fun _ _ => rfl)))
      (pss_one (ps_if (PW.pt (pw_and (pt_cmpR op_notN (pv 4) pe_non (nomark _)) (pw_and1 (pt_cmpR op_eq (pe_ix ix_seq (pv 4) pe_int (fun _ _ => rfl)) (pv 1) (nomark _)))))
      (pss_one (ps_ret (pe_ix ix_seq (pv 4) pe_int (fun _ _ => rfl))))
      pss_nil))))
      (pss_one (ps_ret (pv 2)))), ?_⟩
  rintro ds M Ψ Χ ⟨dE, es, x, old, rfl, hE, hl, k⟩
  refine as_seq (as_for (ai_rng1 ?_))
  repeat walk_at "st"
  refine arl_lenE hE ?_
  repeat walk_at "st"
  refine ⟨by omega, fun i Δ' M' => i ≤ es.length ∧ M' = M ∧ last es x old = last (es.take (es.length - i)) x old ∧ ∃ u v, Δ' = [some dE, some (.int x), some (.int old), u, v], ⟨by omega, rfl, by rw [Nat.sub_zero, List.take_length], _, _, rfl⟩, ?_, ?_⟩
  · rintro i d Δ' M' hd ⟨hi, rfl, hlast, u, v, rfl⟩
    obtain ⟨hi2, rfl⟩ := rngD_get hd
    have hi3 : i < es.length := by omega
    obtain ⟨e, he⟩ : ∃ e, es[es.length - (i + 1)]? = some e := ⟨_, List.getElem?_eq_getElem (by omega)⟩
    have hidx : ((es.length : Int) - 1 - (0 + (i : Int))).toNat = es.length - (i + 1) := by omega
    rw [show es.length - i = (es.length - (i + 1)) + 1 by omega, take_snoc he, last_snoc] at hlast
    refine ag_name ?_
    repeat walk_at "st"
    refine arl_lenE hE ?_
    repeat walk_at "st"
    refine ar_ixE hE (by omega) (by rw [hidx]; exact he) ?_
    repeat walk_at "st"
    refine ar_notN ?_
    cases e with
    | none =>
      refine ⟨false, rfl, ite3 (fun z => by cases z) fun _ => as_next ⟨hi3, rfl, hlast, _, _, rfl⟩⟩
    | some e =>
      obtain ⟨y, o⟩ := e
      refine ⟨true, rfl, ite3 (fun _ => ?_) fun z => by cases z⟩
      repeat walk_at "st"
      refine ar_ix_T (ar_ixT (ds := [.int y, .int o]) rfl ?_)
      repeat walk_at "st"
      refine ite3 (fun hz => ?_) (fun hz => as_next ⟨hi3, rfl, ?_, _, _, rfl⟩)
      · repeat walk_at "st"
        refine ar_ix_T (ar_ixT (ds := [.int y, .int o]) rfl ?_)
        rw [hlast] at k
        have e1 : y = x := of_decide_eq_true hz
        simp only [e1, if_true] at k
        exact k
      · have e1 : ¬ y = x := of_decide_eq_false hz
        rw [hlast]
        simp only [e1, if_false]
  · rintro Δ' M' ⟨hi, rfl, hlast, u, v, rfl⟩
    repeat walk_at "st"
    have e1 : es.length - (rngD 0 (es.length : Int).toNat).length = 0 := by rw [rngD_length]; omega
    rw [e1, List.take_zero] at hlast
    rw [hlast] at k
    exact k
/-- the places put since the last flush -/
def pend (es : List Ev) : List Int := es.foldl (fun acc e => match e with
  | none => []
  | some (x, _) => acc ++ [x]) []
theorem pend_snoc (es : List Ev) (e : Ev) : pend (es ++ [e]) = match e with
  | none => []
  | some (x, _) => pend es ++ [x] := by
  unfold pend
  rw [List.foldl_append]
  rfl
theorem pend_len (es : List Ev) : (pend es).length ≤ es.length := by
  have h : ∀ (es : List Ev) (acc : List Int), (es.foldl (fun acc e => match e with
      | none => []
      | some (x, _) => acc ++ [x]) acc).length ≤ acc.length + es.length := by
    intro es
    induction es with
    | nil => intro acc; exact Nat.le_refl _
    | cons e es ih =>
      intro acc
      rw [List.foldl_cons]
      refine Nat.le_trans (ih _) ?_
      cases e with
      | none => simp; omega
      | some e => obtain ⟨x, o⟩ := e; simp; omega
  have z := h es []
  simpa [pend] using z
abbrev a_pending : ASp := fun ds M Ψ Χ => ∃ (es : List Ev), ds = [.tup (es.map evD)] ∧ es.length ≤ 60 ∧ Ψ (.tup ((lotI (pend es)).map D.int)) M
theorem ok_pending_places (T : Txt P K mg a) (Df : Defs K a fd) : FnG P w K mg base 1 a.pending_places fd.pending_places ps_pending_places (lift K a_pending) := by
  refine okG Df.pending_places sc_pending_places (fun ds M Ψ Χ ⟨_, h, _⟩ => by subst h; rfl) fun cdv A outer s H E hr hg => ?_
  refine ⟨_, (pss_cons (ps_set (i := 1) sc_pending_places.nd rfl (Or.inl rfl) (pe_lst pa_nil))
      (pss_cons (ps_for (passes_of rfl) rfl (pi_tup (pv 0)) (pg_name (i := 2) sc_pending_places.nd rfl (Or.inl rfl))
      (pss_one (ps_if (pt_cmpR op_isN (pv 2) pe_non (nomark _))
      (pss_one (ps_set (i := 1) sc_pending_places.nd rfl (Or.inl rfl) (pe_lst pa_nil)))
      (pss_one (ps_expr (pe_bm PySem.F.plainAttrs_list PySem.F.slot_list_append PySem.F.type_list_append mt_append (pv 1) (pa_cons (pe_ix ix_seq (pv 2) pe_int (fun _ _ => rfl)) pa_nil)))))))
      (pss_one (ps_ret (pe_callTy call_tuple_of (by rfl) T.n_tuple (by decide +kernel) (pa_cons (pe_callB (cr_sortedSet rfl) (by rfl) T.n_sorted (by decide +kernel) (pa_cons (pe_callTy (cr_setL rfl) (by rfl) T.n_set (by decide +kernel) (pa_cons (pv 1) pa_nil)) pa_nil)) pa_nil)))))), ?_⟩
  rintro ds M Ψ Χ ⟨es, rfl, hl, k⟩
  repeat walk_at "st"
  refine ae_lstM (aa_nil ⟨by simp, fun f hf => ?_⟩)
  refine as_seq (as_for (ai_tup ?_))
  repeat walk_at "st"
  refine ⟨fun i Δ' M' => ∃ f v, M f = none ∧ M' f = some (.lst ((pend (es.take i)).map D.int)) ∧ Le M M' ∧ Δ' = [some (.tup (es.map evD)), some (.ref f), v], ⟨f, _, hf, Mem.set_same, Le.refl.set hf, rfl⟩, ?_, ?_⟩
  · rintro i d Δ' M' hd ⟨f, v, hf, mf, le, rfl⟩
    rw [List.getElem?_map] at hd
    obtain ⟨e, he, rfl⟩ := Option.map_eq_some_iff.mp hd
    have hs := pend_snoc (es.take i) e
    rw [← take_snoc he] at hs
    have hpl := pend_len (es.take i)
    have htl : (es.take i).length ≤ es.length := by rw [List.length_take]; omega
    refine ag_name ?_
    repeat walk_at "st"
    refine ar_isN ?_
    cases e with
    | none =>
      refine ⟨true, rfl, ite3 (fun _ => ?_) fun z => by cases z⟩
      repeat walk_at "st"
      refine ae_lstM (aa_nil ⟨by simp, fun f2 hf2 => ?_⟩)
      exact ⟨f2, _, le.none hf2, by rw [hs]; exact Mem.set_same, le.set (le.none hf2), rfl⟩
    | some e =>
      obtain ⟨y, o⟩ := e
      refine ⟨false, rfl, ite3 (fun z => by cases z) fun _ => ?_⟩
      repeat walk_at "st"
      refine ae_append ?_
      repeat walk_at "st"
      refine ⟨f, _, rfl, mf, ?_⟩
      repeat walk_at "st"
      refine ar_ix_T (ar_ixT (ds := [.int y, .int o]) rfl ?_)
      refine ⟨_, mf, by rw [List.length_map]; omega, ?_⟩
      exact ⟨f, _, hf, by rw [hs, Mem.set_same, List.map_append]; rfl, le.set hf, rfl⟩
  · rintro Δ' M' ⟨f, v, hf, mf, le, rfl⟩
    rw [List.length_map, List.take_length] at mf
    have hpl := pend_len es
    refine as_ret (ae_fgt ?_)
    repeat walk_at "st"
    refine arl_setM mf (by omega) fun c hc => ?_
    repeat walk_at "st"
    refine arl_sortedSet (by omega) ?_
    repeat walk_at "st"
    exact arl_tupL ⟨M, le, k⟩
abbrev a_lpending : ASp := fun ds M Ψ Χ => ∃ (es : List Ev), ds = [.tup (es.map evD)] ∧ es.length ≤ 60 ∧ Ψ (.xtup ((lotI (pend es)).map D.int)) M
theorem isort_lot {xs : List Int} {ys : List Int} (n : xs.Nodup) (h : ∀ x, x ∈ xs ↔ x ∈ ys) : isort xs = lotI ys := by
  refine lt_unique ?_ (lotI_lt ys) fun x => by rw [mem_isort, mem_lotI, h]
  have h1 := isort_sorted xs
  have h2 : (isort xs).Nodup := (isort_perm xs).nodup_iff.mpr n
  exact (h1.and h2).imp fun {a b} ⟨x, y⟩ => by omega
theorem ok__law_pending (T : Txt P K mg a) (Df : Defs K a fd) : FnG P w K mg base 1 a._law_pending fd._law_pending ps__law_pending (lift K a_lpending) := by
  refine okG Df._law_pending sc__law_pending (fun ds M Ψ Χ ⟨_, h, _⟩ => by subst h; rfl) fun cdv A outer s H E hr hg => ?_
  refine ⟨_, (pss_cons (ps_set (i := 1) sc__law_pending.nd rfl (Or.inl rfl) (pe_lst pa_nil))
      (pss_cons (ps_for (passes_of rfl) rfl (pi_range1 (by rfl) T.n_range (pa_cons (pe_callB call_len (by rfl) T.n_len (by decide +kernel) (pa_cons (pv 0) pa_nil)) pa_nil)) (pg_name (i := 2) sc__law_pending.nd rfl (Or.inl rfl))
      (pss_cons (ps_set (i := 3) sc__law_pending.nd rfl (Or.inl rfl) (pe_ix ix_seq (pv 0) (pe_op op_sub (pe_op op_sub (pe_callB call_len (by rfl) T.n_len (by decide +kernel) (pa_cons (pv 0) pa_nil)) pe_int) (pv 2)) (fun _ _ => rfl)))
      (pss_cons (ps_if (pt_cmpR op_isN (pv 3) pe_non (nomark _))
      (pss_one ps_break)
      pss_nil)
      (pss_one (ps_if (pt_cmpR op_notIn_seq (pe_ix ix_seq (pv 3) pe_int (fun _ _ => rfl)) (pv 1) (by rfl))
      (pss_one (ps_expr (pe_bm PySem.F.plainAttrs_list PySem.F.slot_list_append PySem.F.type_list_append mt_append (pv 1) (pa_cons (pe_ix ix_seq (pv 3) pe_int (fun _ _ => rfl)) pa_nil))))
      pss_nil)))))
      (pss_one (ps_ret (pe_callTy call_tupX (by rfl) T.n_tuple (by decide +kernel) (pa_cons (pe_callB cr_sortedI (by rfl) T.n_sorted (by decide +kernel) (pa_cons (pv 1) pa_nil)) pa_nil)))))), ?_⟩
  rintro ds M Ψ Χ ⟨es, rfl, hl, k⟩
  repeat walk_at "st"
  refine ae_lstM (aa_nil ⟨by simp, fun f hf => ?_⟩)
  refine as_seq (as_forP (fun Δ' M' => ∃ (xs : List Int) (u v : Option D), M' f = some (.lst (xs.map D.int)) ∧ Le M M' ∧ xs.Nodup ∧ (∀ x, x ∈ xs ↔ x ∈ pend es) ∧ Δ' = [some (.tup (es.map evD)), some (.ref f), u, v]) ?_ (ai_rng1 ?_))
  · rintro Δ' M' ⟨xs, u, v, mf, le, nd, mem, rfl⟩
    refine as_ret (ae_fgt ?_)
    repeat walk_at "st"
    refine arl_sortedM mf ?_
    repeat walk_at "st"
    rw [isort_lot nd mem]
    exact arl_tupX ⟨M, le, k⟩
  · repeat walk_at "st"
    refine arl_lenT ?_
    repeat walk_at "st"
    rw [List.length_map]
    refine ⟨by omega, fun i Δ' M' => i ≤ es.length ∧ ∃ (xs : List Int) (u v : Option D), xs.length ≤ i ∧ M' f = some (.lst (xs.map D.int)) ∧ Le M M' ∧ xs.Nodup ∧ (∀ x, x ∈ xs ∨ x ∈ pend (es.take (es.length - i)) ↔ x ∈ pend es) ∧ Δ' = [some (.tup (es.map evD)), some (.ref f), u, v],
      ⟨by omega, [], _, _, by simp, Mem.set_same, Le.refl.set hf, List.nodup_nil, fun x => by rw [Nat.sub_zero, List.take_length]; simp, rfl⟩, ?_, ?_⟩
    · rintro i d Δ' M' hd ⟨hi, xs, u, v, hxl, mf, le, nd, mem, rfl⟩
      obtain ⟨hi2, rfl⟩ := rngD_get hd
      have hi3 : i < es.length := by omega
      obtain ⟨e, he⟩ : ∃ e, es[es.length - (i + 1)]? = some e := ⟨_, List.getElem?_eq_getElem (by omega)⟩
      have hidx : ((es.length : Int) - 1 - (0 + (i : Int))).toNat = es.length - (i + 1) := by omega
      rw [show es.length - i = (es.length - (i + 1)) + 1 by omega, take_snoc he, pend_snoc] at mem
      refine ag_name ?_
      repeat walk_at "st"
      refine arl_lenT ?_
      repeat walk_at "st"
      rw [List.length_map]
      refine ar_ix_T (ar_ixT (atI_int (by omega) (by rw [hidx]; exact evs_get he)) ?_)
      repeat walk_at "st"
      refine ar_isN ?_
      cases e with
      | none =>
        refine ⟨true, rfl, ite3 (fun _ => as_brk ?_) fun z => by cases z⟩
        exact ⟨xs, _, _, mf, le, nd, fun x => by rw [← mem x]; simp, rfl⟩
      | some e =>
        obtain ⟨y, o⟩ := e
        refine ⟨false, rfl, ite3 (fun z => by cases z) fun _ => ?_⟩
        repeat walk_at "st"
        refine ar_ix_T (ar_ixT (ds := [.int y, .int o]) rfl ?_)
        repeat walk_at "st"
        refine ar_inM mf rfl (flat_ints xs) ?_
        rw [if_pos rfl, inD_ints]
        refine ⟨_, rfl, ite3 (fun hz => ?_) (fun hz => as_next ?_)⟩
        · have hy : ¬ y ∈ xs := fun z => by rw [decide_eq_true z] at hz; cases hz
          repeat walk_at "st"
          refine ae_append ?_
          repeat walk_at "st"
          refine ⟨f, _, rfl, mf, ?_⟩
          repeat walk_at "st"
          refine ar_ix_T (ar_ixT (ds := [.int y, .int o]) rfl ?_)
          refine ⟨_, mf, by rw [List.length_map]; omega, ?_⟩
          refine ⟨hi3, xs ++ [y], _, _, by simp; omega, by rw [Mem.set_same, List.map_append]; rfl, le.set hf, ?_, fun x => ?_, rfl⟩
          · rw [List.nodup_append]
            refine ⟨nd, by simp, fun p hp q hq => ?_⟩
            rw [List.mem_singleton] at hq
            rw [hq]
            exact fun z => hy (by rw [← z]; exact hp)
          · rw [← mem x, List.mem_append, List.mem_singleton, List.mem_append, List.mem_singleton]
            constructor
            · rintro ((h | h) | h)
              · exact .inl h
              · exact .inr (.inr h)
              · exact .inr (.inl h)
            · rintro (h | h | h)
              · exact .inl (.inl h)
              · exact .inr h
              · exact .inl (.inr h)
        · have hy : y ∈ xs := by
            by_cases z : y ∈ xs
            · exact z
            · rw [decide_eq_false z] at hz; cases hz
          refine ⟨hi3, xs, _, _, by omega, mf, le, nd, fun x => ?_, rfl⟩
          rw [← mem x, List.mem_append, List.mem_singleton]
          constructor
          · rintro (h | h)
            · exact .inl h
            · exact .inr (.inl h)
          · rintro (h | h | h)
            · exact .inl h
            · exact .inr h
            · rw [h]; exact .inl hy
    · rintro Δ' M' ⟨hi, xs, u, v, hxl, mf, le, nd, mem, rfl⟩
      have e1 : es.length - (rngD 0 (es.length : Int).toNat).length = 0 := by rw [rngD_length]; omega
      rw [e1, List.take_zero] at mem
      exact ⟨xs, u, v, mf, le, nd, fun x => by rw [← mem x]; simp [pend], rfl⟩
end
end K59
namespace K59
open PySem PySem.Spec PyProof.Rows L2 RZ T2
local macro_rules | `(tactic| walk_at "st") => `(tactic| first
  | with_reducible refine as_seq ?_ | with_reducible refine as_if ?_ | with_reducible refine as_ret ?_ | with_reducible refine as_set ?_ | with_reducible refine as_drop ?_ | with_reducible refine as_next ?_
  | with_reducible refine as_asg ?_ | with_reducible refine as_retN ?_ | with_reducible refine as_brk ?_ | with_reducible refine as_cont ?_
  | with_reducible refine at_test ?_ | with_reducible refine at_B ?_ | with_reducible refine at_and ?_ | with_reducible refine at_or ?_ | with_reducible refine at_not ?_ | with_reducible refine at_yes ?_
  | with_reducible refine ae_op ?_ | with_reducible refine ae_un ?_ | with_reducible refine ae_cb ?_ | with_reducible refine aa_cons ?_ | with_reducible refine aa_nil ?_ | with_reducible refine ae_if ?_
  | with_reducible refine ae_andV ?_ | with_reducible refine ae_orV ?_ | with_reducible refine ae_notV ?_ | with_reducible refine ae_chain ?_
  | with_reducible refine ae_int ?_ | with_reducible refine ae_str ?_ | with_reducible refine ae_bl ?_ | with_reducible refine ae_non ?_ | with_reducible refine ae_ty ?_ | with_reducible refine ae_ref ?_
  | refine ae_var rfl ?_
  | with_reducible refine ar_add ?_ | with_reducible refine ar_sub ?_ | with_reducible refine ar_lt ?_ | with_reducible refine ar_le ?_ | with_reducible refine ar_gt ?_ | with_reducible refine ar_ge ?_
  | with_reducible refine ar_eqI ?_ | with_reducible refine ar_neI ?_
  | with_reducible refine ⟨_, rfl, ?_⟩
  | refine ae_callG ?_)
section
variable {P : Program} {w : World} {K : PySem.W.Frag} {mg : Str → Option Value} {base : Heap} {a : Ad} {fd : Fds}
/-! ### cut_cells -/
def evOk (n : Nat) (es : List Ev) : Prop := ∀ x o, some (x, o) ∈ es → 0 ≤ x ∧ x < n
def updE (cs : List Int) (es : List Ev) : List Int := es.foldl (fun acc e => match e with
  | none => acc
  | some (x, o) => acc.set x.toNat o) cs
theorem updE_snoc (cs : List Int) (es : List Ev) (e : Ev) : updE cs (es ++ [e]) = match e with
  | none => updE cs es
  | some (x, o) => (updE cs es).set x.toNat o := by
  unfold updE
  rw [List.foldl_append]
  rfl
def updZ (cs : List Int) (ps : List (Int × Int)) : List Int := ps.foldl (fun acc p => acc.set p.1.toNat p.2) cs
theorem updZ_snoc (cs : List Int) (ps : List (Int × Int)) (p : Int × Int) : updZ cs (ps ++ [p]) = (updZ cs ps).set p.1.toNat p.2 := by
  unfold updZ
  rw [List.foldl_append]
  rfl
theorem updE_len (cs : List Int) (es : List Ev) : (updE cs es).length = cs.length := by
  unfold updE
  induction es generalizing cs with
  | nil => rfl
  | cons e es ih =>
    rw [List.foldl_cons, ih]
    cases e with
    | none => rfl
    | some e => obtain ⟨x, o⟩ := e; exact List.length_set
theorem updZ_len (cs : List Int) (ps : List (Int × Int)) : (updZ cs ps).length = cs.length := by
  unfold updZ
  induction ps generalizing cs with
  | nil => rfl
  | cons p ps ih => rw [List.foldl_cons, ih]; exact List.length_set
theorem ixN_of {n : Nat} {i : Int} (h0 : 0 ≤ i) (h1 : i < n) : ixN n i = some i.toNat := by
  unfold ixN
  rw [if_pos h0, if_pos h1]
theorem map_set {xs : List Int} {j : Nat} {x : Int} : (xs.map T2.D.int).set j (.int x) = (xs.set j x).map T2.D.int := List.map_set.symm
theorem pend_ok {n : Nat} {es : List Ev} (h : evOk n es) : ∀ x ∈ pend es, 0 ≤ x ∧ x < n := by
  have g : ∀ (es : List Ev) (acc : List Int), evOk n es → (∀ x ∈ acc, 0 ≤ x ∧ x < n) → ∀ x ∈ es.foldl (fun acc e => match e with
      | none => []
      | some (x, _) => acc ++ [x]) acc, 0 ≤ x ∧ x < n := by
    intro es
    induction es with
    | nil => intro acc _ h; exact h
    | cons e es ih =>
      intro acc hk ha
      rw [List.foldl_cons]
      refine ih _ (fun x o z => hk x o (List.mem_cons_of_mem _ z)) ?_
      cases e with
      | none => intro x hx; cases hx
      | some e =>
        obtain ⟨y, o⟩ := e
        intro x hx
        rcases List.mem_append.mp hx with hx | hx
        · exact ha x hx
        · rw [List.mem_singleton] at hx
          subst hx
          exact hk x o (List.mem_cons_self ..)
  exact g es [] h (by simp)
abbrev a_cut : ASp := fun ds M Ψ Χ => ∃ (cs os : List Int) (es : List Ev), ds = [.tup (cs.map D.int), .tup (es.map evD), .tup (os.map D.int)] ∧ es.length ≤ 60 ∧ cs.length ≤ 100000 ∧ evOk cs.length es ∧ os.length = (lotI (pend es)).length ∧
  Ψ (.tup ((updZ (updE cs es) ((lotI (pend es)).zip os)).map D.int)) M
theorem ok_cut_cells (T : Txt P K mg a) (Df : Defs K a fd) : FnG P w K mg base 2 a.cut_cells fd.cut_cells ps_cut_cells (lift K a_cut) := by
  refine okG Df.cut_cells sc_cut_cells (fun ds M Ψ Χ ⟨_, _, _, h, _⟩ => by subst h; rfl) fun cdv A outer s H E hr hg => ?_
  refine ⟨_, (pss_cons (ps_set (i := 3) sc_cut_cells.nd rfl (Or.inl rfl) (pe_callTy call_list_of (by rfl) T.n_list (by decide +kernel) (pa_cons (pv 0) pa_nil)))
      (pss_cons (ps_for (passes_of rfl) rfl (pi_tup (pv 1)) (pg_name (i := 4) sc_cut_cells.nd rfl (Or.inl rfl))
      (pss_one (ps_if (pt_cmpR op_notN (pv 4) pe_non (nomark _))
      (pss_one (ps_asg (pe_ix ix_seq (pv 4) pe_int (fun _ _ => rfl)) (pg_sub (pv 3) (pe_ix ix_seq (pv 4) pe_int (fun _ _ => rfl)) set_list)))
      pss_nil)))
      (pss_cons (ps_for (passes_of rfl) rfl (pi_zipA (by rfl) T.n_zip (pa_cons (pg_call (ok_pending_places T Df) (hr.mono (by decide)) hg (by rfl) T.g_pending_places T.k_pending_places (bd_pending_places_1_ Df) (takes_of rfl rfl rfl rfl) (pa_cons (pv 1) pa_nil) pk_nil) (pa_cons (pv 2) pa_nil))) (pg_tup rfl (pgs_cons (pg_name (i := 5) sc_cut_cells.nd rfl (Or.inl rfl)) (pgs_cons (pg_name (i := 6) sc_cut_cells.nd rfl (Or.inl rfl)) pgs_nil)))
      (pss_one (ps_asg (pv 6) (pg_sub (pv 3) (pv 5) set_list))))
      (pss_one (ps_ret (pe_callTy call_tuple_of (by rfl) T.n_tuple (by decide +kernel) (pa_cons (pv 3) pa_nil))))))), ?_⟩
  rintro ds M Ψ Χ ⟨cs, os, es, rfl, hl, hcl, hev, hos, k⟩
  repeat walk_at "st"
  refine arl_listT fun f hf => ?_
  refine as_seq (as_for (ai_tup ?_))
  repeat walk_at "st"
  refine ⟨fun i Δ' M' => ∃ v u t, M' f = some (.lst ((updE cs (es.take i)).map D.int)) ∧ Le M M' ∧ Δ' = [some (.tup (cs.map D.int)), some (.tup (es.map evD)), some (.tup (os.map D.int)), some (.ref f), v, u, t], ⟨_, _, _, Mem.set_same, Le.refl.set hf, rfl⟩, ?_, ?_⟩
  · rintro i d Δ' M' hd ⟨v, u, t, mf, le, rfl⟩
    rw [List.getElem?_map] at hd
    obtain ⟨e, he, rfl⟩ := Option.map_eq_some_iff.mp hd
    have hs := updE_snoc cs (es.take i) e
    rw [← take_snoc he] at hs
    refine ag_name ?_
    repeat walk_at "st"
    refine ar_notN ?_
    cases e with
    | none =>
      refine ⟨false, rfl, ite3 (fun z => by cases z) fun _ => as_next ?_⟩
      exact ⟨_, _, _, by rw [hs]; exact mf, le, rfl⟩
    | some e =>
      obtain ⟨y, o⟩ := e
      have hy := hev y o (List.mem_of_getElem? he)
      refine ⟨true, rfl, ite3 (fun _ => ?_) fun z => by cases z⟩
      repeat walk_at "st"
      refine ar_ix_T (ar_ixT (ds := [.int y, .int o]) rfl ?_)
      refine ag_sub ?_
      repeat walk_at "st"
      refine ar_ix_T (ar_ixT (ds := [.int y, .int o]) rfl ?_)
      refine ⟨f, _, y, y.toNat, rfl, rfl, mf, ixN_of hy.1 (by rw [List.length_map, updE_len]; exact hy.2), ?_⟩
      exact ⟨_, _, _, by rw [hs, Mem.set_same, map_set], le.set hf, rfl⟩
  · rintro Δ' M' ⟨v, u, t, mf, le, rfl⟩
    rw [List.length_map, List.take_length] at mf
    refine as_seq (as_for (ai_zipT ?_))
    repeat walk_at "st"
    refine ⟨rfl, rfl, es, rfl, hl, ?_⟩
    repeat walk_at "st"
    refine ⟨_, _, rfl, by rw [List.length_map, List.length_map]; exact hos.symm, ?_⟩
    generalize hps : lotI (pend es) = ps at hos k
    have hpk : ∀ x ∈ ps, 0 ≤ x ∧ x < cs.length := fun x hx => pend_ok hev x (by rw [← hps, mem_lotI] at hx; exact hx)
    refine ⟨fun i Δ' M' => ∃ v u t, M' f = some (.lst ((updZ (updE cs es) ((ps.zip os).take i)).map D.int)) ∧ Le M M' ∧ Δ' = [some (.tup (cs.map D.int)), some (.tup (es.map evD)), some (.tup (os.map D.int)), some (.ref f), v, u, t], ⟨_, _, _, mf, le, rfl⟩, ?_, ?_⟩
    · rintro i d Δ' M' hd ⟨v, u, t, mf, le, rfl⟩
      rw [List.zip_map, List.map_map, List.getElem?_map] at hd
      obtain ⟨⟨x, o⟩, he, rfl⟩ := Option.map_eq_some_iff.mp hd
      have hx := hpk x (List.of_mem_zip (List.mem_of_getElem? he)).1
      have hs := updZ_snoc (updE cs es) ((ps.zip os).take i) (x, o)
      rw [← take_snoc he] at hs
      refine ag_of [5, 6] (agc_tup rfl (agcs_cons (agc_name (by decide) (agcs_cons (agc_name (by decide) (agcs_nil ?_))))))
      repeat walk_at "st"
      refine ag_sub ?_
      repeat walk_at "st"
      refine ⟨f, _, x, x.toNat, rfl, rfl, mf, ixN_of hx.1 (by rw [List.length_map, updZ_len, updE_len]; exact hx.2), ?_⟩
      exact ⟨_, _, _, by rw [hs, Mem.set_same]; exact congrArg _ (congrArg _ map_set), le.set hf, rfl⟩
    · rintro Δ' M' ⟨v, u, t, mf, le, rfl⟩
      rw [List.length_map, List.zip_map, List.length_map, List.take_length] at mf
      refine as_ret (ae_fgt ?_)
      repeat walk_at "st"
      exact arl_tupM mf ⟨M, le, k⟩
end
end K59
namespace K59
open PySem PySem.Spec PyProof.Rows L2 RZ T2
local macro_rules | `(tactic| walk_at "st") => `(tactic| first
  | with_reducible refine as_seq ?_ | with_reducible refine as_if ?_ | with_reducible refine as_ret ?_ | with_reducible refine as_set ?_ | with_reducible refine as_drop ?_ | with_reducible refine as_next ?_
  | with_reducible refine as_asg ?_ | with_reducible refine as_retN ?_ | with_reducible refine as_brk ?_ | with_reducible refine as_cont ?_
  | with_reducible refine at_test ?_ | with_reducible refine at_B ?_ | with_reducible refine at_and ?_ | with_reducible refine at_or ?_ | with_reducible refine at_not ?_ | with_reducible refine at_yes ?_
  | with_reducible refine ae_op ?_ | with_reducible refine ae_un ?_ | with_reducible refine ae_cb ?_ | with_reducible refine aa_cons ?_ | with_reducible refine aa_nil ?_ | with_reducible refine ae_if ?_
  | with_reducible refine ae_andV ?_ | with_reducible refine ae_orV ?_ | with_reducible refine ae_notV ?_ | with_reducible refine ae_chain ?_
  | with_reducible refine ae_int ?_ | with_reducible refine ae_str ?_ | with_reducible refine ae_bl ?_ | with_reducible refine ae_non ?_ | with_reducible refine ae_ty ?_ | with_reducible refine ae_ref ?_
  | refine ae_var rfl ?_
  | with_reducible refine ar_add ?_ | with_reducible refine ar_sub ?_ | with_reducible refine ar_lt ?_ | with_reducible refine ar_le ?_ | with_reducible refine ar_gt ?_ | with_reducible refine ar_ge ?_
  | with_reducible refine ar_eqI ?_ | with_reducible refine ar_neI ?_
  | with_reducible refine ⟨_, rfl, ?_⟩
  | refine ae_callG ?_)
section
variable {P : Program} {w : World} {K : PySem.W.Frag} {mg : Str → Option Value} {base : Heap} {a : Ad} {fd : Fds}
/-! ### Disk -/
def okB (d : D) : Bool := (dty d).isSome
def Bad (d : D) : Prop := (∃ t, dty d = some t ∧ kitB t "tuple" = some false) ∨ d = (.raw fun _ => .dK []) ∨
  ∃ xs, d = .tup xs ∧ xs.all okB = true ∧ xs.length ≤ 100000 ∧ ((xs.length = 0 ∨ 20000 < xs.length) ∨ xs.all isOct = false)
def Fine (cs : List Int) : Prop := 1 ≤ cs.length ∧ cs.length ≤ 20000 ∧ ∀ c ∈ cs, 0 ≤ c ∧ c < 256
def dskF (xs : List D) (o e : Addr) : List (Str × D) := [("cells", .tup xs), ("_octets", .ref o), ("_events", .ref e)]
structure Made (C p o e : Addr) (xs : List D) (M M' : Mem) : Prop where
  mp : M' p = some (.ins C (dskF xs o e))
  mo : M' o = some (.lst xs)
  me : M' e = some (.lst [])
  no : M o = none
  ne : M e = none
  oe : o ≠ e
  bt : ∀ b, b ≠ p → b ≠ o → b ≠ e → M' b = M b
abbrev a_init (a : Ad) : ASp := fun ds M Ψ Χ => ∃ p d, ds = [.ref p, d] ∧ M p = some (.ins a.Disk []) ∧
  ((Bad d ∧ Χ (.ref a.Refused) [("word", .str "cells")] M) ∨ ∃ cs : List Int, d = .tup (cs.map D.int) ∧ Fine cs ∧ ∀ o e M', Made a.Disk p o e (cs.map D.int) M M' → Ψ .non M')
theorem all_okB {xs : List Int} : (xs.map T2.D.int).all okB = true := by
  rw [List.all_map]
  exact List.all_eq_true.mpr fun _ _ => rfl
theorem all_oct {xs : List Int} (h : ∀ c ∈ xs, 0 ≤ c ∧ c < 256) : (xs.map T2.D.int).all isOct = true := by
  rw [List.all_map]
  refine List.all_eq_true.mpr fun c hc => ?_
  have := h c hc
  show (decide (0 ≤ c) && decide (c < 256)) = true
  simp [this]
theorem map_bl {xs : List D} {f : D → Bool} : (xs.map fun d => T2.D.bl (f d)) = (xs.map f).map T2.D.bl := by
  rw [List.map_map]
  rfl
theorem ok_Disk___init__ (T : Txt P K mg a) (Df : Defs K a fd) : FnG P w K mg base 4 a.Disk___init__ fd.Disk___init__ ps_Disk___init__ (lift K (a_init a)) := by
  refine okG Df.Disk___init__ sc_Disk___init__ (fun ds M Ψ Χ ⟨_, _, h, _⟩ => by subst h; rfl) fun cdv A outer s H E hr hg => ?_
  refine ⟨_, (pss_cons (ps_if (PW.pt (pw_or (pt_not (pt_val (pe_callB call_isi (by rfl) T.n_isinstance (by decide +kernel) (pa_cons (pv 1) (pa_cons (pe_bltn (v := .ty "tuple") (by rfl) T.n_tuple (by decide +kernel) rfl) pa_nil))))) (pw_or1 (pt_not (pt_chain op_le op_le pe_int (pe_callB call_len (by rfl) T.n_len (by decide +kernel) (pa_cons (pv 1) pa_nil)) (pe_globI T.g_MOST_CELLS))))))
      (pss_one (ps_raiseX rfl T.x_Refused hr T.g_Refused (takes_of rfl rfl rfl rfl) (pa_cons pe_str pa_nil)))
      pss_nil)
      (pss_cons (ps_if (pt_not (pt_val (pe_callB (cr_all rfl) (by rfl) T.n_all (by decide +kernel) (pa_cons (pe_lc (own := [("cell", 2)]) rfl sc_Disk___init__.nd (pi_tup (pv 1)) (blkOk_by (own := [("cell", 2)]) (N := N_Disk___init__) (sc := defScope s_Disk___init__) (by decide +kernel)) (fun _ _ _ _ _ => (pg_name (i := 2) sc_Disk___init__.nd rfl (Or.inl rfl))) (fun _ _ _ _ _ => pts_nil) (fun _ _ _ _ _ => (pg_call (ok_is_octet T Df) (hr.mono (by decide)) hg (by rfl) T.g_is_octet T.k_is_octet (bd_is_octet_1_ Df) takes0 (pa_cons (pv 2) pa_nil) pk_nil))) pa_nil))))
      (pss_one (ps_raiseX rfl T.x_Refused hr T.g_Refused (takes_of rfl rfl rfl rfl) (pa_cons pe_str pa_nil)))
      pss_nil)
      (pss_cons (ps_fld (pv 0) (pv 1) rfl)
      (pss_cons (ps_fld (pv 0) (pe_callTy call_list_of (by rfl) T.n_list (by decide +kernel) (pa_cons (pv 1) pa_nil)) rfl)
      (pss_one (ps_fld (pv 0) (pe_lst pa_nil) rfl)))))), ?_⟩
  rintro ds M Ψ Χ ⟨p, d, rfl, mp, h⟩
  have h' : ((((∃ t, dty d = some t ∧ kitB t "tuple" = some false) ∨ d = (.raw fun _ => .dK [])) ∧ Χ (.ref a.Refused) [("word", .str "cells")] M) ∨
      ∃ xs : List D, d = .tup xs ∧ xs.all okB = true ∧ xs.length ≤ 100000 ∧ (¬ (1 ≤ xs.length ∧ xs.length ≤ 20000 ∧ xs.all isOct = true) → Χ (.ref a.Refused) [("word", .str "cells")] M) ∧
        ((1 ≤ xs.length ∧ xs.length ≤ 20000 ∧ xs.all isOct = true) → ∀ o e M', Made a.Disk p o e xs M M' → Ψ .non M')) := by
    rcases h with ⟨hb, k⟩ | ⟨cs, rfl, ⟨hc1, hc2, hc3⟩, k⟩
    · rcases hb with hb | hb | ⟨xs, rfl, hxo, hxl, hx⟩
      · exact .inl ⟨.inl hb, k⟩
      · exact .inl ⟨.inr hb, k⟩
      · refine .inr ⟨xs, rfl, hxo, hxl, fun _ => k, fun ⟨h1, h2, h3⟩ => ?_⟩
        rcases hx with hx | hx
        · omega
        · rw [h3] at hx; cases hx
    · exact .inr ⟨_, rfl, all_okB, by rw [List.length_map]; omega, fun z => absurd ⟨by rw [List.length_map]; exact hc1, by rw [List.length_map]; exact hc2, all_oct hc3⟩ z, fun _ => k⟩
  clear h
  repeat walk_at "st"
  rcases h' with ⟨hb, k⟩ | ⟨xs, rfl, hxo, hxl, kx, kf⟩
  · rcases hb with ⟨t, ht, hk⟩ | rfl
    · refine arl_isi ht hk ?_
      repeat walk_at "st"
      refine ite3 (fun _ => as_raiseX ?_) fun z => by cases z
      repeat walk_at "st"
      exact k
    · refine arl_isiD (b := false) rfl ?_
      repeat walk_at "st"
      refine ite3 (fun _ => as_raiseX ?_) fun z => by cases z
      repeat walk_at "st"
      exact k
  · refine arl_isi (t := "tuple") (b := true) rfl rfl ?_
    repeat walk_at "st"
    refine ite3 (fun z => by cases z) fun _ => ?_
    repeat walk_at "st"
    refine arl_lenT ?_
    repeat walk_at "st"
    refine ite3 (fun h1 => ?_) (fun h1 => ?_)
    · have h1 : (1 : Int) ≤ xs.length := of_decide_eq_true h1
      repeat walk_at "st"
      refine ite3 (fun h2 => as_raiseX ?_) (fun h2 => ?_)
      · repeat walk_at "st"
        refine kx fun ⟨_, z, _⟩ => ?_
        have h3 : decide ((xs.length : Int) ≤ 20000) = false := by simpa using h2
        have h4 := of_decide_eq_false h3
        omega
      · have h3 : decide ((xs.length : Int) ≤ 20000) = true := by simpa using h2
        have h3 := of_decide_eq_true h3
        repeat walk_at "st"
        refine ae_lcP (ai_tup ?_)
        repeat walk_at "st"
        refine ⟨hxl, fun _ => true, fun d => .bl (isOct d), fun d M' hd => ?_, ?_⟩
        · have hd2 := List.all_eq_true.mp hxo d hd
          obtain ⟨t, ht⟩ := Option.isSome_iff_exists.mp (show (dty d).isSome = true from hd2)
          refine agc_name (by decide) ⟨rfl, ?_⟩
          repeat walk_at "st"
          refine ⟨rfl, rfl, fun _ => ?_⟩
          repeat walk_at "st"
          exact ⟨rfl, rfl, d, t, rfl, ht, rfl, rfl⟩
        · rw [filter_true, map_bl]
          repeat walk_at "st"
          refine arl_all ?_
          rw [show (xs.map isOct).all id = xs.all isOct by rw [List.all_map]; rfl]
          refine ⟨_, rfl, ite3 (fun h4 => as_raiseX ?_) (fun h4 => ?_)⟩
          · repeat walk_at "st"
            refine kx fun ⟨_, _, z⟩ => ?_
            rw [z] at h4
            cases h4
          · have h4 : xs.all isOct = true := by simpa using h4
            have kf := kf ⟨by omega, by omega, h4⟩
            repeat walk_at "st"
            refine as_fld T.cl_Disk T.nf_Disk_cells ?_
            repeat walk_at "st"
            refine ⟨p, _, rfl, mp, by decide, ?_⟩
            repeat walk_at "st"
            refine as_fld T.cl_Disk T.nf_Disk__octets ?_
            repeat walk_at "st"
            refine arl_listT fun o ho => ?_
            repeat walk_at "st"
            have hpo : p ≠ o := fun z => by rw [← z, Mem.set_same] at ho; cases ho
            rw [Mem.set_ne (Ne.symm hpo)] at ho
            refine ⟨p, _, rfl, (Mem.set_ne hpo).trans Mem.set_same, by show 1 < 1000; decide, ?_⟩
            repeat walk_at "st"
            refine as_fld T.cl_Disk T.nf_Disk__events ?_
            refine ae_lstM (aa_nil ⟨by simp, fun e he => ?_⟩)
            have hpe : p ≠ e := fun z => by rw [← z, Mem.set_same] at he; cases he
            have hoe : o ≠ e := fun z => by rw [← z, Mem.set_ne (Ne.symm hpo), Mem.set_same] at he; cases he
            rw [Mem.set_ne (Ne.symm hpe), Mem.set_ne (Ne.symm hoe), Mem.set_ne (Ne.symm hpe)] at he
            repeat walk_at "st"
            refine ⟨p, _, rfl, (Mem.set_ne hpe).trans Mem.set_same, by show 2 < 1000; decide, ?_⟩
            refine kf o e _ ⟨Mem.set_same, ?_, ?_, ho, he, hoe, fun b x y z => ?_⟩
            · rw [Mem.set_ne (Ne.symm hpo), Mem.set_ne hoe, Mem.set_ne (Ne.symm hpo), Mem.set_same]
            · rw [Mem.set_ne (Ne.symm hpe), Mem.set_same]
            · rw [Mem.set_ne x, Mem.set_ne z, Mem.set_ne x, Mem.set_ne y, Mem.set_ne x]
    · have h1 : ¬ (1 : Int) ≤ xs.length := of_decide_eq_false h1
      repeat walk_at "st"
      refine ite3 (fun _ => as_raiseX ?_) fun z => by cases z
      repeat walk_at "st"
      exact kx fun ⟨z, _⟩ => by omega
end
end K59
namespace K59
open PySem PySem.Spec PyProof.Rows L2 RZ T2
local macro_rules | `(tactic| walk_at "st") => `(tactic| first
  | with_reducible refine as_seq ?_ | with_reducible refine as_if ?_ | with_reducible refine as_ret ?_ | with_reducible refine as_set ?_ | with_reducible refine as_drop ?_ | with_reducible refine as_next ?_
  | with_reducible refine as_asg ?_ | with_reducible refine as_retN ?_ | with_reducible refine as_brk ?_ | with_reducible refine as_cont ?_
  | with_reducible refine at_test ?_ | with_reducible refine at_B ?_ | with_reducible refine at_and ?_ | with_reducible refine at_or ?_ | with_reducible refine at_not ?_ | with_reducible refine at_yes ?_
  | with_reducible refine ae_op ?_ | with_reducible refine ae_un ?_ | with_reducible refine ae_cb ?_ | with_reducible refine aa_cons ?_ | with_reducible refine aa_nil ?_ | with_reducible refine ae_if ?_
  | with_reducible refine ae_andV ?_ | with_reducible refine ae_orV ?_ | with_reducible refine ae_notV ?_ | with_reducible refine ae_chain ?_
  | with_reducible refine ae_int ?_ | with_reducible refine ae_str ?_ | with_reducible refine ae_bl ?_ | with_reducible refine ae_non ?_ | with_reducible refine ae_ty ?_ | with_reducible refine ae_ref ?_
  | refine ae_var rfl ?_
  | with_reducible refine ar_add ?_ | with_reducible refine ar_sub ?_ | with_reducible refine ar_lt ?_ | with_reducible refine ar_le ?_ | with_reducible refine ar_gt ?_ | with_reducible refine ar_ge ?_
  | with_reducible refine ar_eqI ?_ | with_reducible refine ar_neI ?_
  | with_reducible refine ⟨_, rfl, ?_⟩
  | refine ae_callG ?_)
section
variable {P : Program} {w : World} {K : PySem.W.Frag} {mg : Str → Option Value} {base : Heap} {a : Ad} {fd : Fds}
abbrev a_look (a : Ad) : ASp := fun ds M Ψ Χ => ∃ (xs : List D) (o e : Addr) (octs : List Int) (x v : Int), ds = [.obj a.Disk (dskF xs o e), .int x] ∧ M o = some (.lst (octs.map D.int)) ∧ 0 ≤ x ∧ octs[x.toNat]? = some v ∧ Ψ (.int v) M
theorem ok_Disk_look (T : Txt P K mg a) (Df : Defs K a fd) : FnG P w K mg base 1 a.Disk_look fd.Disk_look ps_Disk_look (lift K (a_look a)) := by
  refine okG Df.Disk_look sc_Disk_look (fun ds M Ψ Χ ⟨_, _, _, _, _, _, h, _⟩ => by subst h; rfl) fun cdv A outer s H E hr hg => ?_
  refine ⟨_, (pss_one (ps_ret (pe_ix ix_seq (pe_fld (pv 0) rfl) (pv 1) (fun _ _ => rfl)))), ?_⟩
  rintro ds M Ψ Χ ⟨xs, o, e, octs, x, v, rfl, mo, x0, hx, k⟩
  repeat walk_at "st"
  refine ae_fldO T.cl_Disk T.nf_Disk__octets ?_
  repeat walk_at "st"
  refine ⟨_, .ref o, rfl, rfl, ?_⟩
  repeat walk_at "st"
  exact ar_ix_L (ar_ixM mo (atI_int x0 (by rw [List.getElem?_map, hx]; rfl)) k)
abbrev a_put (a : Ad) : ASp := fun ds M Ψ Χ => ∃ (xs : List D) (o e : Addr) (octs : List Int) (evs : List Ev) (x v : Int), ds = [.obj a.Disk (dskF xs o e), .int x, .int v] ∧ M o = some (.lst (octs.map D.int)) ∧ M e = some (.lst (evs.map evD)) ∧ o ≠ e ∧ 0 ≤ x ∧ x < octs.length ∧ evs.length < 1000 ∧
  Ψ .non ((M.set o (.lst ((octs.set x.toNat v).map D.int))).set e (.lst ((evs ++ [some (x, v)]).map evD)))
theorem ok_Disk_put (T : Txt P K mg a) (Df : Defs K a fd) : FnG P w K mg base 1 a.Disk_put fd.Disk_put ps_Disk_put (lift K (a_put a)) := by
  refine okG Df.Disk_put sc_Disk_put (fun ds M Ψ Χ ⟨_, _, _, _, _, _, _, h, _⟩ => by subst h; rfl) fun cdv A outer s H E hr hg => ?_
  refine ⟨_, (pss_cons (ps_asg (pv 2) (pg_sub (pe_fld (pv 0) rfl) (pv 1) set_list))
      (pss_one (ps_expr (pe_bm PySem.F.plainAttrs_list PySem.F.slot_list_append PySem.F.type_list_append mt_append (pe_fld (pv 0) rfl) (pa_cons (pe_tup (pa_cons (pv 1) (pa_cons (pv 2) pa_nil))) pa_nil))))), ?_⟩
  rintro ds M Ψ Χ ⟨xs, o, e, octs, evs, x, v, rfl, mo, me, oe, x0, x1, hl, k⟩
  repeat walk_at "st"
  refine ag_sub ?_
  refine ae_fldO T.cl_Disk T.nf_Disk__octets ?_
  repeat walk_at "st"
  refine ⟨_, .ref o, rfl, rfl, ?_⟩
  repeat walk_at "st"
  refine ⟨o, _, x, x.toNat, rfl, rfl, mo, ixN_of x0 (by rw [List.length_map]; exact x1), ?_⟩
  repeat walk_at "st"
  refine ae_append ?_
  refine ae_fldO T.cl_Disk T.nf_Disk__events ?_
  repeat walk_at "st"
  refine ⟨_, .ref e, rfl, rfl, e, _, rfl, (Mem.set_ne (Ne.symm oe)).trans me, ?_⟩
  refine ae_tup ?_
  repeat walk_at "st"
  refine ⟨by simp, _, (Mem.set_ne (Ne.symm oe)).trans me, by rw [List.length_map]; omega, ?_⟩
  rw [List.map_append, ← map_set] at k
  exact k
abbrev a_flush (a : Ad) : ASp := fun ds M Ψ Χ => ∃ (xs : List D) (o e : Addr) (evs : List Ev), ds = [.obj a.Disk (dskF xs o e)] ∧ M e = some (.lst (evs.map evD)) ∧ evs.length < 1000 ∧
  Ψ .non (M.set e (.lst ((evs ++ [none]).map evD)))
theorem ok_Disk_flush (T : Txt P K mg a) (Df : Defs K a fd) : FnG P w K mg base 1 a.Disk_flush fd.Disk_flush ps_Disk_flush (lift K (a_flush a)) := by
  refine okG Df.Disk_flush sc_Disk_flush (fun ds M Ψ Χ ⟨_, _, _, _, h, _⟩ => by subst h; rfl) fun cdv A outer s H E hr hg => ?_
  refine ⟨_, (pss_one (ps_expr (pe_bm PySem.F.plainAttrs_list PySem.F.slot_list_append PySem.F.type_list_append mt_append (pe_fld (pv 0) rfl) (pa_cons pe_non pa_nil)))), ?_⟩
  rintro ds M Ψ Χ ⟨xs, o, e, evs, rfl, me, hl, k⟩
  repeat walk_at "st"
  refine ae_append ?_
  refine ae_fldO T.cl_Disk T.nf_Disk__events ?_
  repeat walk_at "st"
  refine ⟨_, .ref e, rfl, rfl, e, _, rfl, me, ?_⟩
  repeat walk_at "st"
  refine ⟨_, me, by rw [List.length_map]; omega, ?_⟩
  rw [List.map_append] at k
  exact k
abbrev a_events (a : Ad) : ASp := fun ds M Ψ Χ => ∃ (xs : List D) (o e : Addr) (evs : List Ev), ds = [.obj a.Disk (dskF xs o e)] ∧ M e = some (.lst (evs.map evD)) ∧ Ψ (.tup (evs.map evD)) M
theorem ok_Disk_events (T : Txt P K mg a) (Df : Defs K a fd) : FnG P w K mg base 1 a.Disk_events fd.Disk_events ps_Disk_events (lift K (a_events a)) := by
  refine okG Df.Disk_events sc_Disk_events (fun ds M Ψ Χ ⟨_, _, _, _, h, _⟩ => by subst h; rfl) fun cdv A outer s H E hr hg => ?_
  refine ⟨_, (pss_one (ps_ret (pe_callTy call_tuple_of (by rfl) T.n_tuple (by decide +kernel) (pa_cons (pe_fld (pv 0) rfl) pa_nil)))), ?_⟩
  rintro ds M Ψ Χ ⟨xs, o, e, evs, rfl, me, k⟩
  repeat walk_at "st"
  refine ae_fldO T.cl_Disk T.nf_Disk__events ?_
  repeat walk_at "st"
  refine ⟨_, .ref e, rfl, rfl, ?_⟩
  repeat walk_at "st"
  exact arl_tupM me k
end
end K59
namespace K59
open PySem PySem.Spec PyProof.Rows L2 RZ T2
local macro_rules | `(tactic| walk_at "st") => `(tactic| first
  | with_reducible refine as_seq ?_ | with_reducible refine as_if ?_ | with_reducible refine as_ret ?_ | with_reducible refine as_set ?_ | with_reducible refine as_drop ?_ | with_reducible refine as_next ?_
  | with_reducible refine as_asg ?_ | with_reducible refine as_retN ?_ | with_reducible refine as_brk ?_ | with_reducible refine as_cont ?_
  | with_reducible refine at_test ?_ | with_reducible refine at_B ?_ | with_reducible refine at_and ?_ | with_reducible refine at_or ?_ | with_reducible refine at_not ?_ | with_reducible refine at_yes ?_
  | with_reducible refine ae_op ?_ | with_reducible refine ae_un ?_ | with_reducible refine ae_cb ?_ | with_reducible refine aa_cons ?_ | with_reducible refine aa_nil ?_ | with_reducible refine ae_if ?_
  | with_reducible refine ae_andV ?_ | with_reducible refine ae_orV ?_ | with_reducible refine ae_notV ?_ | with_reducible refine ae_chain ?_
  | with_reducible refine ae_int ?_ | with_reducible refine ae_str ?_ | with_reducible refine ae_bl ?_ | with_reducible refine ae_non ?_ | with_reducible refine ae_ty ?_ | with_reducible refine ae_ref ?_
  | refine ae_varX rfl ?_ | refine ae_var rfl ?_
  | with_reducible refine ar_add ?_ | with_reducible refine ar_sub ?_ | with_reducible refine ar_lt ?_ | with_reducible refine ar_le ?_ | with_reducible refine ar_gt ?_ | with_reducible refine ar_ge ?_
  | with_reducible refine ar_eqI ?_ | with_reducible refine ar_neI ?_
  | with_reducible refine ⟨_, rfl, ?_⟩
  | refine ae_callG ?_)
section
variable {P : Program} {w : World} {K : PySem.W.Frag} {mg : Str → Option Value} {base : Heap} {a : Ad} {fd : Fds}
/-! ### the cut, in plain Lean -/
theorem updZ_out {j : Nat} : ∀ (ps : List (Int × Int)) (cs : List Int), (∀ p ∈ ps, p.1.toNat ≠ j) → (updZ cs ps)[j]? = cs[j]?
  | [], _, _ => rfl
  | p :: ps, cs, h => by
    show (updZ (cs.set p.1.toNat p.2) ps)[j]? = _
    rw [updZ_out ps _ fun q hq => h q (List.mem_cons_of_mem _ hq), List.getElem?_set_ne (h p (List.mem_cons_self ..))]
theorem updZ_at {x v : Int} : ∀ (ps os : List Int) (k : Nat) (cs : List Int), ps.Nodup → (∀ p ∈ ps, 0 ≤ p) → ps[k]? = some x → os[k]? = some v → x.toNat < cs.length → (updZ cs (ps.zip os))[x.toNat]? = some v
  | [], _, _, _, _, _, h, _, _ => by cases h
  | p :: ps, [], _, _, _, _, _, h, _ => by cases h
  | p :: ps, o :: os, 0, cs, nd, nn, h1, h2, hl => by
    have e1 : p = x := by simpa using h1
    have e2 : o = v := by simpa using h2
    subst e1 e2
    show (updZ (cs.set p.toNat o) (ps.zip os))[p.toNat]? = _
    rw [updZ_out _ _ fun q hq => ?_, List.getElem?_set_self hl]
    intro z
    have hm := (List.of_mem_zip (a := q.1) (b := q.2) hq).1
    have hq0 := nn q.1 (List.mem_cons_of_mem _ hm)
    have hp0 := nn p (List.mem_cons_self ..)
    have e : q.1 = p := by omega
    rw [e] at hm
    exact (List.nodup_cons.mp nd).1 hm
  | p :: ps, o :: os, k + 1, cs, nd, nn, h1, h2, hl => by
    show (updZ (cs.set p.toNat o) (ps.zip os))[x.toNat]? = _
    exact updZ_at ps os k _ (List.nodup_cons.mp nd).2 (fun q hq => nn q (List.mem_cons_of_mem _ hq)) (by simpa using h1) (by simpa using h2) (by rw [List.length_set]; exact hl)
theorem updE_at {j n : Nat} : ∀ (es : List Ev) (cs : List Int) (c : Int), evOk n es → cs[j]? = some c → (updE cs es)[j]? = some (last es j c)
  | [], _, _, _, h => h
  | none :: es, cs, c, hk, h => updE_at es cs c (fun x o z => hk x o (List.mem_cons_of_mem _ z)) h
  | some (x, o) :: es, cs, c, hk, h => by
    show (updE (cs.set x.toNat o) es)[j]? = some (last es j (if x = (j : Int) then o else c))
    refine updE_at es _ _ (fun x o z => hk x o (List.mem_cons_of_mem _ z)) ?_
    have hx := (hk x o (List.mem_cons_self ..)).1
    by_cases e : x = (j : Int)
    · rw [if_pos e, show x.toNat = j by omega, List.getElem?_set_self (List.getElem?_eq_some_iff.mp h).1]
    · rw [if_neg e, List.getElem?_set_ne (by omega), h]
theorem find_ix {x : Int} : ∀ {ps : List Int}, x ∈ ps → ∃ k : Nat, ps[k]? = some x ∧ ∀ m : Nat, m < k → ps[m]? ≠ some x
  | [], h => by cases h
  | p :: ps, h => by
    by_cases e : p = x
    · exact ⟨0, by rw [e]; rfl, fun m hm => by omega⟩
    · have h' : x ∈ ps := by
        rcases List.mem_cons.mp h with z | z
        · exact absurd z.symm e
        · exact z
      obtain ⟨k, hk, hn⟩ := find_ix h'
      refine ⟨k + 1, hk, fun m hm => ?_⟩
      cases m with
      | zero => exact fun z => e (by simpa using z)
      | succ m => exact hn m (by omega)
theorem lotI_nodup (ns : List Int) : (lotI ns).Nodup := (lotI_lt ns).imp fun {a b} h => by omega
def evB (es : List Ev) : Prop := ∀ x o, some (x, o) ∈ es → 0 ≤ o ∧ o < 256
theorem last_bd {es : List Ev} {x : Int} : ∀ {old : Int}, evB es → 0 ≤ old ∧ old < 256 → 0 ≤ last es x old ∧ last es x old < 256 := by
  induction es with
  | nil => intro old _ h; exact h
  | cons e es ih =>
    intro old hb h
    cases e with
    | none => exact ih (fun x o z => hb x o (List.mem_cons_of_mem _ z)) h
    | some e =>
      obtain ⟨y, o⟩ := e
      have h2 := hb y o (List.mem_cons_self ..)
      show 0 ≤ last es x (if y = x then o else old) ∧ last es x (if y = x then o else old) < 256
      refine ih (fun x o z => hb x o (List.mem_cons_of_mem _ z)) ?_
      split
      · exact h2
      · exact h
/-- a turn of a comprehension that draws -/
theorem turn {h c p : Addr} {M M' M4 : Mem} {acc : List D} (bt : But2 h c M M') (R : Rng h c M') (hp : M' p = none) (R4 : Rng h c M4) (b4 : But2 h c (M'.set p (.lst acc)) M4) :
    ∃ M5 : Mem, M4 = M5.set p (.lst acc) ∧ M5 p = none ∧ Rng h c M5 ∧ But2 h c M M5 := by
  obtain ⟨n1, n2⟩ := R.fresh hp
  have e4 : M4 p = some (.lst acc) := (b4 p n1 n2).trans Mem.set_same
  refine ⟨M4.del p, ?_, Mem.del_same, R4.of (Mem.del_ne (Ne.symm n1)) (Mem.del_ne (Ne.symm n2)), fun b x y => ?_⟩
  · funext b
    by_cases hb : b = p
    · rw [hb, e4, Mem.set_same]
    · rw [Mem.set_ne hb, Mem.del_ne hb]
  · by_cases hb : b = p
    · rw [hb, Mem.del_same, But2.none bt hp R]
    · rw [Mem.del_ne hb, b4 b x y, Mem.set_ne hb]
      exact bt b x y
end
end K59
namespace K59
open PySem PySem.Spec PyProof.Rows L2 RZ T2
local macro_rules | `(tactic| walk_at "st") => `(tactic| first
  | with_reducible refine as_seq ?_ | with_reducible refine as_if ?_ | with_reducible refine as_ret ?_ | with_reducible refine as_set ?_ | with_reducible refine as_drop ?_ | with_reducible refine as_next ?_
  | with_reducible refine as_asg ?_ | with_reducible refine as_retN ?_ | with_reducible refine as_brk ?_ | with_reducible refine as_cont ?_
  | with_reducible refine at_test ?_ | with_reducible refine at_B ?_ | with_reducible refine at_and ?_ | with_reducible refine at_or ?_ | with_reducible refine at_not ?_ | with_reducible refine at_yes ?_
  | with_reducible refine ae_op ?_ | with_reducible refine ae_un ?_ | with_reducible refine ae_cb ?_ | with_reducible refine aa_cons ?_ | with_reducible refine aa_nil ?_ | with_reducible refine ae_if ?_
  | with_reducible refine ae_andV ?_ | with_reducible refine ae_orV ?_ | with_reducible refine ae_notV ?_ | with_reducible refine ae_chain ?_
  | with_reducible refine ae_int ?_ | with_reducible refine ae_str ?_ | with_reducible refine ae_bl ?_ | with_reducible refine ae_non ?_ | with_reducible refine ae_ty ?_ | with_reducible refine ae_ref ?_
  | refine ae_varX rfl ?_ | refine ae_var rfl ?_
  | with_reducible refine ar_add ?_ | with_reducible refine ar_sub ?_ | with_reducible refine ar_lt ?_ | with_reducible refine ar_le ?_ | with_reducible refine ar_gt ?_ | with_reducible refine ar_ge ?_
  | with_reducible refine ar_eqI ?_ | with_reducible refine ar_neI ?_
  | with_reducible refine ⟨_, rfl, ?_⟩
  | refine ae_callG ?_ | refine ae_methG ?_)
section
variable {P : Program} {w : World} {K : PySem.W.Frag} {mg : Str → Option Value} {base : Heap} {a : Ad} {fd : Fds}
theorem goodT {ns : List Int} : good 1 (.tup (ns.map T2.D.int)) = true := by
  show goods 0 _ = true
  exact goods_ints _
def Oct (cs : List Int) : Prop := ∀ c ∈ cs, 0 ≤ c ∧ c < 256
theorem Oct.sho {cs : List Int} (h : Oct cs) : ∀ d ∈ cs.map T2.D.int, Sho d := sho_ints fun i hi => ⟨(h i hi).1, by have := (h i hi).2; omega⟩
theorem Oct.set {cs : List Int} (h : Oct cs) {j : Nat} {v : Int} (hv : 0 ≤ v ∧ v < 256) : Oct (cs.set j v) := fun c hc => by
  rcases List.mem_or_eq_of_mem_set hc with z | z
  · exact h c z
  · rw [z]; exact hv
theorem Oct.updE {cs : List Int} {es : List Ev} (h : Oct cs) (hb : evB es) : Oct (updE cs es) := by
  induction es generalizing cs with
  | nil => exact h
  | cons e es ih =>
    cases e with
    | none => exact ih h fun x o z => hb x o (List.mem_cons_of_mem _ z)
    | some e =>
      obtain ⟨x, o⟩ := e
      exact ih (h.set (hb x o (List.mem_cons_self ..))) fun x o z => hb x o (List.mem_cons_of_mem _ z)
theorem Oct.updZ {cs : List Int} {ps : List (Int × Int)} (h : Oct cs) (hb : ∀ p ∈ ps, 0 ≤ p.2 ∧ p.2 < 256) : Oct (updZ cs ps) := by
  induction ps generalizing cs with
  | nil => exact h
  | cons p ps ih => exact ih (h.set (hb p (List.mem_cons_self ..))) fun q hq => hb q (List.mem_cons_of_mem _ hq)
abbrev a_cutR : ASp := fun ds M Ψ Χ => ∃ (h c : Addr) (cs : List Int) (es : List Ev), ds = [.ref h, .tup (cs.map D.int), .tup (es.map evD)] ∧ Rng h c M ∧ es.length ≤ 60 ∧ cs.length ≤ 1000 ∧ Oct cs ∧ evOk cs.length es ∧ evB es ∧
  ∀ M', Rng h c M' → But2 h c M M' → Ψ (.bl true) M'
theorem ok__law_cut_right (T : Txt P K mg a) (Df : Defs K a fd) : FnG P w K mg base 4 a._law_cut_right fd._law_cut_right ps__law_cut_right (lift K a_cutR) := by
  refine okG Df._law_cut_right sc__law_cut_right (fun ds M Ψ Χ ⟨_, _, _, _, h, _⟩ => by subst h; rfl) fun cdv A outer s H E hr hg => ?_
  refine ⟨_, (pss_cons (ps_set (i := 3) sc__law_cut_right.nd rfl (Or.inl rfl) (pg_call (ok__law_pending T Df) (hr.mono (by decide)) hg (by rfl) T.g__law_pending T.k__law_pending (bd__law_pending_1_ Df) (takes_of rfl rfl rfl rfl) (pa_cons (pv 2) pa_nil) pk_nil))
      (pss_cons (ps_if (PW.pt (pw_or (pt_cmpR op_ne (pe_callB (cr_repr hg (hun150 hr)) (by rfl) T.n_repr (by decide +kernel) (pa_cons (pg_call (ok_pending_places T Df) (hr.mono (by decide)) hg (by rfl) T.g_pending_places T.k_pending_places (bd_pending_places_1_ Df) (takes_of rfl rfl rfl rfl) (pa_cons (pv 2) pa_nil) pk_nil) pa_nil)) (pe_callB (cr_repr hg (hun150 hr)) (by rfl) T.n_repr (by decide +kernel) (pa_cons (pv 3) pa_nil)) (nomark _)) (pw_or1 (pt_cmpR (op_neD (hun64 hr)) (pg_call0 (ok_pending_places T Df) (hr.mono (by decide)) hg (by rfl) T.g_pending_places T.k_pending_places (bd_pending_places_0_events Df) (takes_of rfl rfl rfl rfl) (pk_cons (pv 2) pk_nil)) (pv 3) (nomark _)))))
      (pss_one (ps_ret pe_bl))
      pss_nil)
      (pss_cons (ps_set (i := 4) sc__law_cut_right.nd rfl (Or.inl rfl) (pe_callTy call_tuple_of (by rfl) T.n_tuple (by decide +kernel) (pa_cons (pe_lc (own := [("_law_at", 6)]) rfl sc__law_cut_right.nd (pi_tup (pv 3)) (blkOk_by (own := [("_law_at", 6)]) (N := N__law_cut_right) (sc := defScope s__law_cut_right) (by decide +kernel)) (fun _ _ _ _ _ => (pg_name (i := 6) sc__law_cut_right.nd rfl (Or.inl rfl))) (fun _ _ _ _ _ => pts_nil) (fun _ _ _ _ _ => (pg_call (ok__law_pick T Df) (hr.mono (by decide)) hg (by rfl) T.g__law_pick T.k__law_pick (bd__law_pick_2_ Df) takes0 (pa_cons (pv 0) (pa_cons (pe_lst (pa_cons (pg_call (ok__law_octet T Df) (hr.mono (by decide)) hg (by rfl) T.g__law_octet T.k__law_octet (bd__law_octet_1_ Df) takes0 (pa_cons (pv 0) pa_nil) pk_nil) (pa_cons (pe_ix (r := rIx K) ix_seq (pv 1) (pv 6) (fun _ _ => rfl)) (pa_cons (pg_call (ok__law_last T Df) (hr.mono (by decide)) hg (by rfl) T.g__law_last T.k__law_last (bd__law_last_3_ Df) takes0 (pa_cons (pv 2) (pa_cons (pv 6) (pa_cons pe_int pa_nil))) pk_nil) pa_nil)))) pa_nil)) pk_nil))) pa_nil)))
      (pss_cons (ps_set (i := 5) sc__law_cut_right.nd rfl (Or.inl rfl) (pe_lst pa_nil))
      (pss_cons (ps_for (passes_of rfl) rfl (pi_range1 (by rfl) T.n_range (pa_cons (pe_callB call_len (by rfl) T.n_len (by decide +kernel) (pa_cons (pv 1) pa_nil)) pa_nil)) (pg_name (i := 6) sc__law_cut_right.nd rfl (Or.inl rfl))
      (pss_one (ps_expr (pe_bm PySem.F.plainAttrs_list PySem.F.slot_list_append PySem.F.type_list_append mt_append (pv 5) (pa_cons (pe_ifExp (pt_cmpR op_in_seq (pv 6) (pv 3) (by rfl)) (pe_ix ix_seq (pv 4) (pe_tupIdx (pv 3) (pv 6)) (fun _ _ => rfl)) (pg_call (ok__law_last T Df) (hr.mono (by decide)) hg (by rfl) T.g__law_last T.k__law_last (bd__law_last_3_ Df) (takes_of rfl rfl rfl rfl) (pa_cons (pv 2) (pa_cons (pv 6) (pa_cons (pe_ix ix_seq (pv 1) (pv 6) (fun _ _ => rfl)) pa_nil))) pk_nil)) pa_nil)))))
      (pss_cons (ps_if (pt_cmpR op_ne (pe_callB (cr_repr hg (hun150 hr)) (by rfl) T.n_repr (by decide +kernel) (pa_cons (pg_call (ok_cut_cells T Df) (hr.mono (by decide)) hg (by rfl) T.g_cut_cells T.k_cut_cells (bd_cut_cells_3_ Df) (takes_of rfl rfl rfl rfl) (pa_cons (pv 1) (pa_cons (pv 2) (pa_cons (pv 4) pa_nil))) pk_nil) pa_nil)) (pe_callB (cr_repr hg (hun150 hr)) (by rfl) T.n_repr (by decide +kernel) (pa_cons (pe_callTy call_tuple_of (by rfl) T.n_tuple (by decide +kernel) (pa_cons (pv 5) pa_nil)) pa_nil)) (nomark _))
      (pss_one (ps_ret pe_bl))
      pss_nil)
      (pss_one (ps_ret (pe_cmpR (op_eqD (hun64 hr)) (pg_call0 (ok_cut_cells T Df) (hr.mono (by decide)) hg (by rfl) T.g_cut_cells T.k_cut_cells (bd_cut_cells_0_octets_events_cells Df) (takes_of rfl rfl rfl rfl) (pk_cons (pv 4) (pk_cons (pv 2) (pk_cons (pv 1) pk_nil)))) (pe_callTy call_tuple_of (by rfl) T.n_tuple (by decide +kernel) (pa_cons (pv 5) pa_nil)) (nomark _)))))))))), ?_⟩
  rintro ds M Ψ Χ ⟨h, c, cs, es, rfl, R, hl, hcl, hco, hev, hevb, k⟩
  have hpk : ∀ x ∈ lotI (pend es), 0 ≤ x ∧ x < cs.length := fun x hx => pend_ok hev x (by rw [mem_lotI] at hx; exact hx)
  have hnd := lotI_nodup (pend es)
  have hpl : (lotI (pend es)).length ≤ 60 := by
    have h1 : (lotI (pend es)).length = (ddI (pend es)).length := (isort_perm _).length_eq
    have h2 : ∀ ns : List Int, (ddI ns).length ≤ ns.length := by
      intro ns
      induction ns with
      | nil => exact Nat.le_refl _
      | cons x r ih =>
        unfold ddI
        split
        · exact Nat.le_trans ih (Nat.le_succ _)
        · exact Nat.succ_le_succ ih
    have h3 := h2 (pend es)
    have h4 := pend_len es
    omega
  repeat walk_at "st"
  refine ⟨rfl, rfl, es, rfl, hl, ?_⟩
  repeat walk_at "st"
  refine ⟨rfl, rfl, es, rfl, hl, ?_⟩
  repeat walk_at "st"
  generalize hps : lotI (pend es) = ps at hpk hnd hpl
  have hsho : ∀ d ∈ ps.map D.int, Sho d := sho_ints fun i hi => ⟨(hpk i hi).1, by have := (hpk i hi).2; omega⟩
  refine arl_reprT (n := 0) (goods_ints _) (by decide) hsho (by rw [List.length_map]; omega) ?_
  repeat walk_at "st"
  refine arl_reprT (n := 0) (goods_ints _) (by decide) hsho (by rw [List.length_map]; omega) ?_
  refine ar_neS ?_
  refine ⟨_, rfl, ite3 (fun z => by simp at z) fun _ => ?_⟩
  repeat walk_at "st"
  refine ⟨rfl, rfl, es, rfl, hl, ?_⟩
  rw [hps]
  repeat walk_at "st"
  refine ar_neD (n := 1) (m := 1) goodT goodT (by decide) (by decide) ?_
  rw [eqD_self (n := 1) goodT]
  refine ⟨_, rfl, ite3 (fun z => by cases z) fun _ => as_next ?_⟩
  repeat walk_at "st"
  refine ae_lcF (ai_tup ?_)
  repeat walk_at "st"
  refine ⟨by rw [List.length_map]; omega, fun i acc M' => ∃ vs : List Int, acc = vs.map D.int ∧ vs.length = i ∧ Oct vs ∧ Rng h c M' ∧ But2 h c M M', ⟨[], rfl, rfl, (fun _ z => by cases z), R, But2.refl⟩, ?_, ?_⟩
  · rintro i d acc M' p hx ⟨vs, rfl, hvl, hvo, R', bt⟩ hp _
    rw [List.getElem?_map] at hx
    obtain ⟨x, hxp, rfl⟩ := Option.map_eq_some_iff.mp hx
    have hxk := hpk x (List.mem_of_getElem? hxp)
    obtain ⟨n1, n2⟩ := R'.fresh hp
    obtain ⟨cx, hcx⟩ : ∃ cx, cs[x.toNat]? = some cx := ⟨_, List.getElem?_eq_getElem (by omega)⟩
    refine agc_name (by decide) (at_yes (ite3 (fun _ => ?_) fun z => by cases z))
    repeat walk_at "st"
    refine ae_lst ?_
    repeat walk_at "st"
    refine ⟨rfl, rfl, h, c, rfl, R'.set n1 n2, fun r M2 r0 r1 R2 b2 => ?_⟩
    repeat walk_at "st"
    refine ar_ix_T (ar_ixT (atI_int hxk.1 (by rw [List.getElem?_map, hcx]; rfl)) ?_)
    repeat walk_at "st"
    refine ⟨rfl, rfl, _, es, x, 0, rfl, .inl rfl, by omega, ?_⟩
    repeat walk_at "st"
    refine ⟨by simp, ?_⟩
    repeat walk_at "st"
    refine ⟨rfl, rfl, h, c, _, rfl, R2, by simp, by simp, fun d M3 hd R3 b3 => ?_⟩
    obtain ⟨M5, e5, m5, R5, b5⟩ := turn bt R' hp R3 (b2.trans b3)
    refine ⟨M5, e5, m5, ?_⟩
    have hv : ∃ v : Int, d = .int v ∧ 0 ≤ v ∧ v < 256 := by
      simp only [List.mem_cons, List.mem_nil_iff, or_false] at hd
      have hc := hco cx (List.mem_of_getElem? hcx)
      have hlb := last_bd (x := x) (old := 0) hevb ⟨by decide, by decide⟩
      rcases hd with rfl | rfl | rfl
      · exact ⟨_, rfl, r0, r1⟩
      · exact ⟨_, rfl, hc.1, hc.2⟩
      · exact ⟨_, rfl, hlb.1, hlb.2⟩
    obtain ⟨v, rfl, hv⟩ := hv
    refine ⟨vs ++ [v], by rw [List.map_append]; rfl, by rw [List.length_append, hvl]; rfl, fun c hc => ?_, R5, b5⟩
    rcases List.mem_append.mp hc with z | z
    · exact hvo c z
    · rw [List.mem_singleton] at z
      rw [z]; exact hv
  · rintro acc M1 ⟨os, rfl, hol, hoo, R1, b1⟩
    rw [List.length_map] at hol
    repeat walk_at "st"
    refine arl_tupL ?_
    repeat walk_at "st"
    refine ae_lstM (aa_nil ⟨by simp, fun f hf => ?_⟩)
    obtain ⟨n1, n2⟩ := R1.fresh hf
    have hf0 := But2.none b1 hf R1
    obtain ⟨res, hres⟩ : ∃ res, res = updZ (updE cs es) (ps.zip os) := ⟨_, rfl⟩
    have hrl : res.length = cs.length := by rw [hres, updZ_len, updE_len]
    have hro : Oct res := by
      rw [hres]
      exact (hco.updE hevb).updZ fun p hp => hoo p.2 (List.of_mem_zip (a := p.1) (b := p.2) hp).2
    refine as_seq (as_for (ai_rng1 ?_))
    repeat walk_at "st"
    refine arl_lenT ?_
    repeat walk_at "st"
    rw [List.length_map]
    refine ⟨by omega, fun i Δ' M' => i ≤ cs.length ∧ (∃ v, Δ' = [some (.ref h), some (.tup (cs.map D.int)), some (.tup (es.map evD)), some (.xtup (ps.map D.int)), some (.tup (os.map D.int)), some (.ref f), v]) ∧ M' f = some (.lst ((res.take i).map D.int)) ∧ Rng h c M' ∧ (∀ b, b ≠ h → b ≠ c → b ≠ f → M' b = M b),
      ⟨by omega, ⟨_, rfl⟩, Mem.set_same, R1.set n1 n2, fun b x y z => (Mem.set_ne z).trans (b1 b x y)⟩, ?_, ?_⟩
    · rintro i d Δ' M' hd ⟨hi, ⟨v, rfl⟩, mf, R', bt⟩
      obtain ⟨hi2, rfl⟩ := rngD_get hd
      have hi3 : i < cs.length := by omega
      obtain ⟨ci, hci⟩ : ∃ ci, cs[i]? = some ci := ⟨_, List.getElem?_eq_getElem hi3⟩
      have hz : (0 + (i : Int)) = (i : Int) := by omega
      rw [hz]
      -- what is appended
      have app : ∀ y : Int, res[i]? = some y → ∀ M2, M2 = M'.set f (.lst ((res.take i).map D.int ++ [.int y])) → M2 f = some (.lst ((res.take (i + 1)).map D.int)) ∧ Rng h c M2 ∧ (∀ b, b ≠ h → b ≠ c → b ≠ f → M2 b = M b) := by
        rintro y hy M2 rfl
        refine ⟨?_, R'.set n1 n2, fun b x y z => (Mem.set_ne z).trans (bt b x y z)⟩
        rw [Mem.set_same, take_snoc hy, List.map_append]
        rfl
      refine ag_name ?_
      repeat walk_at "st"
      refine ae_append ?_
      repeat walk_at "st"
      refine ⟨f, _, rfl, mf, ?_⟩
      repeat walk_at "st"
      refine ar_inT rfl (flat_ints ps) ?_
      rw [if_neg Bool.false_ne_true, inD_ints]
      refine ⟨_, rfl, ite3 (fun hin => ?_) (fun hin => ?_)⟩
      · have hin := of_decide_eq_true hin
        obtain ⟨kx, hk1, hk2⟩ := find_ix hin
        obtain ⟨y, hy⟩ : ∃ y, os[kx]? = some y := ⟨_, List.getElem?_eq_getElem (by have := (List.getElem?_eq_some_iff.mp hk1).1; omega)⟩
        have hr : res[i]? = some y := by
          have := updZ_at ps os kx (updE cs es) hnd (fun p hp => (hpk p hp).1) hk1 hy (by rw [updE_len]; omega)
          rw [hres]
          simpa using this
        repeat walk_at "st"
        refine ae_idx (ae_var rfl ⟨ps, rfl, ?_⟩)
        repeat walk_at "st"
        refine ⟨_, kx, rfl, hk1, hk2, ?_⟩
        refine ar_ix_T (ar_ixT (atI_at (by rw [List.getElem?_map, hy]; rfl)) ?_)
        repeat walk_at "st"
        exact ⟨_, mf, by rw [List.length_map, List.length_take]; omega, hi3, ⟨_, rfl⟩, app y hr _ rfl⟩
      · have hin := of_decide_eq_false hin
        have hr : res[i]? = some (last es i ci) := by
          rw [hres, updZ_out _ _ fun p hp z => ?_]
          · exact updE_at es cs ci hev hci
          · have hm := (List.of_mem_zip (a := p.1) (b := p.2) hp).1
            have h0 := (hpk _ hm).1
            have e : p.1 = (i : Int) := by omega
            rw [e] at hm
            exact hin hm
        repeat walk_at "st"
        refine ar_ix_T (ar_ixT (atI_at (by rw [List.getElem?_map, hci]; rfl)) ?_)
        repeat walk_at "st"
        refine ⟨rfl, rfl, _, es, i, ci, rfl, .inl rfl, by omega, ?_⟩
        repeat walk_at "st"
        exact ⟨_, mf, by rw [List.length_map, List.length_take]; omega, hi3, ⟨_, rfl⟩, app _ hr _ rfl⟩
    · rintro Δ' M' ⟨hi, ⟨v, rfl⟩, mf, R', bt⟩
      have e1 : res.take (rngD 0 (cs.length : Int).toNat).length = res := by rw [rngD_length]; exact List.take_of_length_le (by omega)
      rw [e1] at mf
      have hres2 : updZ (updE cs es) ((lotI (pend es)).zip os) = res := by rw [hps, hres]
      have hcall : ∀ (Ψ' : D → Mem → Prop) (Χ' : Exc) (M2 : Mem), Ψ' (.tup (res.map D.int)) M2 → a_cut [.tup (cs.map D.int), .tup (es.map evD), .tup (os.map D.int)] M2 Ψ' Χ' := fun Ψ' Χ' M2 hk => ⟨cs, os, es, rfl, hl, by omega, hev, by rw [hps]; exact hol, by rw [hres2]; exact hk⟩
      have hshr := hro.sho
      repeat walk_at "st"
      refine ⟨rfl, rfl, hcall _ _ _ ?_⟩
      repeat walk_at "st"
      refine arl_reprT (n := 0) (goods_ints _) (by decide) hshr (by rw [List.length_map]; omega) ?_
      repeat walk_at "st"
      refine arl_tupM mf ?_
      repeat walk_at "st"
      refine arl_reprT (n := 0) (goods_ints _) (by decide) hshr (by rw [List.length_map]; omega) ?_
      refine ar_neS ?_
      refine ⟨_, rfl, ite3 (fun z => by simp at z) fun _ => as_next ?_⟩
      refine as_ret (ae_fgt ?_)
      repeat walk_at "st"
      refine ⟨rfl, rfl, hcall _ _ _ ?_⟩
      repeat walk_at "st"
      refine arl_tupM mf ?_
      refine ar_eqD (n := 1) (m := 1) goodT goodT (by decide) (by decide) ?_
      rw [eqD_self (n := 1) goodT]
      refine ⟨M'.del f, fun x m e => ?_, k _ (R'.of (Mem.del_ne (Ne.symm n1)) (Mem.del_ne (Ne.symm n2))) fun b x y => ?_⟩
      · by_cases hx : x = f
        · rw [hx, Mem.del_same] at e; cases e
        · rw [Mem.del_ne hx] at e; exact e
      · by_cases hx : b = f
        · rw [hx, Mem.del_same, hf0]
        · rw [Mem.del_ne hx]; exact bt b x y hx
end
end K59
namespace K59
open PySem PySem.Spec PyProof.Rows L2 RZ T2
local macro_rules | `(tactic| walk_at "st") => `(tactic| first
  | with_reducible refine as_seq ?_ | with_reducible refine as_if ?_ | with_reducible refine as_ret ?_ | with_reducible refine as_set ?_ | with_reducible refine as_drop ?_ | with_reducible refine as_next ?_
  | with_reducible refine as_asg ?_ | with_reducible refine as_retN ?_ | with_reducible refine as_brk ?_ | with_reducible refine as_cont ?_
  | with_reducible refine at_test ?_ | with_reducible refine at_B ?_ | with_reducible refine at_and ?_ | with_reducible refine at_or ?_ | with_reducible refine at_not ?_ | with_reducible refine at_yes ?_
  | with_reducible refine ae_op ?_ | with_reducible refine ae_un ?_ | with_reducible refine ae_cb ?_ | with_reducible refine aa_cons ?_ | with_reducible refine aa_nil ?_ | with_reducible refine ae_if ?_
  | with_reducible refine ae_andV ?_ | with_reducible refine ae_orV ?_ | with_reducible refine ae_notV ?_ | with_reducible refine ae_chain ?_
  | with_reducible refine ae_int ?_ | with_reducible refine ae_str ?_ | with_reducible refine ae_bl ?_ | with_reducible refine ae_non ?_ | with_reducible refine ae_ty ?_ | with_reducible refine ae_ref ?_
  | refine ae_varX rfl ?_ | refine ae_var rfl ?_
  | with_reducible refine ar_add ?_ | with_reducible refine ar_sub ?_ | with_reducible refine ar_lt ?_ | with_reducible refine ar_le ?_ | with_reducible refine ar_gt ?_ | with_reducible refine ar_ge ?_
  | with_reducible refine ar_eqI ?_ | with_reducible refine ar_neI ?_
  | with_reducible refine ⟨_, rfl, ?_⟩
  | refine ae_callG ?_ | refine ae_methG ?_)
section
variable {P : Program} {w : World} {K : PySem.W.Frag} {mg : Str → Option Value} {base : Heap} {a : Ad} {fd : Fds}
theorem good_ev {e : Ev} : good 1 (evD e) = true := by
  cases e with
  | none => rfl
  | some e => obtain ⟨x, o⟩ := e; rfl
theorem goods_evs {es : List Ev} : goods 1 (es.map evD) = true := goods_all fun d hd => by
  obtain ⟨e, _, rfl⟩ := List.mem_map.mp hd
  exact good_ev
/-- a disk in its deeds: its octets at o, its events at e, the law's own record at r -/
structure Dst (h c o e r : Addr) (cs : List Int) (evs : List Ev) (M : Mem) : Prop where
  R : Rng h c M
  mo : M o = some (.lst ((updE cs evs).map T2.D.int))
  me : M e = some (.lst (evs.map evD))
  mr : M r = some (.lst (evs.map evD))
  oe : o ≠ e
  or : o ≠ r
  er : e ≠ r
  oh : o ≠ h
  oc : o ≠ c
  eh : e ≠ h
  ec : e ≠ c
  rh : r ≠ h
  rc : r ≠ c
  ok : evOk cs.length evs
  bd : evB evs
theorem Dst.draw {h c o e r : Addr} {cs : List Int} {evs : List Ev} {M M' : Mem} (s : Dst h c o e r cs evs M) (R : Rng h c M') (b : But2 h c M M') : Dst h c o e r cs evs M' :=
  ⟨R, (b o s.oh s.oc).trans s.mo, (b e s.eh s.ec).trans s.me, (b r s.rh s.rc).trans s.mr, s.oe, s.or, s.er, s.oh, s.oc, s.eh, s.ec, s.rh, s.rc, s.ok, s.bd⟩
/-- all else is as it was -/
def But5 (h c o e r : Addr) (M M' : Mem) : Prop := ∀ b, b ≠ h → b ≠ c → b ≠ o → b ≠ e → b ≠ r → M' b = M b
theorem But2.five {h c o e r : Addr} {M M1 M2 : Mem} (a : But5 h c o e r M M1) (b : But2 h c M1 M2) : But5 h c o e r M M2 := fun x y z u v w => Eq.trans (b x y z) (a x y z u v w)
theorem evOk.snoc {n : Nat} {es : List Ev} {e : Ev} (h : evOk n es) (he : ∀ x o, e = some (x, o) → 0 ≤ x ∧ x < n) : evOk n (es ++ [e]) := fun x o z => by
  rcases List.mem_append.mp z with z | z
  · exact h x o z
  · rw [List.mem_singleton] at z
    exact he x o z.symm
theorem evB.snoc {es : List Ev} {e : Ev} (h : evB es) (he : ∀ x o, e = some (x, o) → 0 ≤ o ∧ o < 256) : evB (es ++ [e]) := fun x o z => by
  rcases List.mem_append.mp z with z | z
  · exact h x o z
  · rw [List.mem_singleton] at z
    exact he x o z.symm
abbrev a_play (a : Ad) : ASp := fun ds M Ψ Χ => ∃ (h c o e r : Addr) (cs : List Int) (evs : List Ev), ds = [.ref h, .obj a.Disk (dskF (cs.map D.int) o e), .tup (cs.map D.int), .ref r] ∧ Dst h c o e r cs evs M ∧ evs.length ≤ 200 ∧ 1 ≤ cs.length ∧ cs.length ≤ 1000 ∧ Oct cs ∧
  ∀ evs' M', evs'.length ≤ evs.length + 1 → Dst h c o e r cs evs' M' → But5 h c o e r M M' → Ψ (.bl true) M'
theorem ok__law_play (T : Txt P K mg a) (Df : Defs K a fd) : FnG P w K mg base 4 a._law_play fd._law_play ps__law_play (lift K (a_play a)) := by
  refine okG Df._law_play sc__law_play (fun ds M Ψ Χ ⟨_, _, _, _, _, _, _, h, _⟩ => by subst h; rfl) fun cdv A outer s H E hr hg => ?_
  refine ⟨_, (pss_cons (ps_par (i := 4) (j := 5) (by rfl) sc__law_play.nd rfl rfl (by decide) rfl rfl (pa_cons (pe_callB call_len (by rfl) T.n_len (by decide +kernel) (pa_cons (pv 2) pa_nil)) (pa_cons (pg_call (ok__law_draw T Df) (hr.mono (by decide)) hg (by rfl) T.g__law_draw T.k__law_draw (bd__law_draw_2_ Df) (takes_of rfl rfl rfl rfl) (pa_cons (pv 0) (pa_cons pe_int pa_nil)) pk_nil) pa_nil)) (by rfl))
      (pss_cons (ps_if (pt_cmpR op_eq (pv 5) pe_int (nomark _))
      (pss_cons (ps_if (pt_cmpR op_notN (pg_meth0 (pv 1) T.cl_Disk T.me_Disk_flush (ok_Disk_flush T Df) (hr.mono (by decide)) hg (bd_Disk_flush_1_ Df) (takes_of rfl rfl rfl rfl) pk_nil) pe_non (nomark _))
      (pss_one (ps_ret pe_bl))
      pss_nil)
      (pss_one (ps_expr (pe_bm PySem.F.plainAttrs_list PySem.F.slot_list_append PySem.F.type_list_append mt_append (pv 3) (pa_cons pe_non pa_nil)))))
      (pss_one (ps_if (pt_cmpR op_lt (pv 5) pe_int (nomark _))
      (pss_cons (ps_set (i := 6) sc__law_play.nd rfl (Or.inl rfl) (pe_ifExp (PW.pt (pw_or (pt_cmpR op_gt (pv 5) pe_int (nomark _)) (pw_or (pt_cmpR (op_eqD (hun64 hr)) (pv 3) (pe_lst pa_nil) (nomark _)) (pw_or1 (pt_cmpR op_isN (pe_ix ix_seq (pv 3) (pe_un un_neg pe_int) (fun _ _ => rfl)) pe_non (nomark _)))))) (pg_call (ok__law_draw T Df) (hr.mono (by decide)) hg (by rfl) T.g__law_draw T.k__law_draw (bd__law_draw_2_ Df) (takes_of rfl rfl rfl rfl) (pa_cons (pv 0) (pa_cons (pv 4) pa_nil)) pk_nil) (pe_ix ix_seq (pe_ix ix_seq (pv 3) (pe_un un_neg pe_int) (fun _ _ => rfl)) pe_int (fun _ _ => rfl))))
      (pss_cons (ps_set (i := 7) sc__law_play.nd rfl (Or.inl rfl) (pg_call (ok__law_octet T Df) (hr.mono (by decide)) hg (by rfl) T.g__law_octet T.k__law_octet (bd__law_octet_1_ Df) (takes_of rfl rfl rfl rfl) (pa_cons (pv 0) pa_nil) pk_nil))
      (pss_cons (ps_set (i := 8) sc__law_play.nd rfl (Or.inl rfl) (pe_ifExp (pt_cmpR op_gt (pv 5) pe_int (nomark _)) (pg_meth (pv 1) T.cl_Disk T.me_Disk_put (ok_Disk_put T Df) (hr.mono (by decide)) hg (bd_Disk_put_3_ Df) (takes_of rfl rfl rfl rfl) (pa_cons (pv 6) (pa_cons (pv 7) pa_nil)) pk_nil) (pg_meth0 (pv 1) T.cl_Disk T.me_Disk_put (ok_Disk_put T Df) (hr.mono (by decide)) hg (bd_Disk_put_1_octet_at Df) (takes_of rfl rfl rfl rfl) (pk_cons (pv 7) (pk_cons (pv 6) pk_nil)))))
      (pss_cons (ps_expr (pe_bm PySem.F.plainAttrs_list PySem.F.slot_list_append PySem.F.type_list_append mt_append (pv 3) (pa_cons (pe_tup (pa_cons (pv 6) (pa_cons (pv 7) pa_nil))) pa_nil)))
      (pss_one (ps_if (PW.pt (pw_or (pt_cmpR op_notN (pv 8) pe_non (nomark _)) (pw_or1 (pt_cmpR op_ne (pg_meth (pv 1) T.cl_Disk T.me_Disk_look (ok_Disk_look T Df) (hr.mono (by decide)) hg (bd_Disk_look_2_ Df) (takes_of rfl rfl rfl rfl) (pa_cons (pv 6) pa_nil) pk_nil) (pv 7) (nomark _)))))
      (pss_one (ps_ret pe_bl))
      pss_nil))))))
      pss_nil)))
      (pss_cons (ps_set (i := 6) sc__law_play.nd rfl (Or.inl rfl) (pg_call (ok__law_draw T Df) (hr.mono (by decide)) hg (by rfl) T.g__law_draw T.k__law_draw (bd__law_draw_2_ Df) (takes_of rfl rfl rfl rfl) (pa_cons (pv 0) (pa_cons (pv 4) pa_nil)) pk_nil))
      (pss_one (ps_ret (pe_and (pe_cmpR op_eq (pe_callB SkE.call_repr_int (by rfl) T.n_repr (by decide +kernel) (pa_cons (pg_meth (pv 1) T.cl_Disk T.me_Disk_look (ok_Disk_look T Df) (hr.mono (by decide)) hg (bd_Disk_look_2_ Df) (takes_of rfl rfl rfl rfl) (pa_cons (pv 6) pa_nil) pk_nil) pa_nil)) (pe_callB SkE.call_repr_int (by rfl) T.n_repr (by decide +kernel) (pa_cons (pg_call (ok__law_last T Df) (hr.mono (by decide)) hg (by rfl) T.g__law_last T.k__law_last (bd__law_last_3_ Df) (takes_of rfl rfl rfl rfl) (pa_cons (pv 3) (pa_cons (pv 6) (pa_cons (pe_ix ix_seq (pv 2) (pv 6) (fun _ _ => rfl)) pa_nil))) pk_nil) pa_nil)) (nomark _)) (pe_one (pe_cmpR op_eq (pg_meth0 (pv 1) T.cl_Disk T.me_Disk_look (ok_Disk_look T Df) (hr.mono (by decide)) hg (bd_Disk_look_1_at Df) (takes_of rfl rfl rfl rfl) (pk_cons (pv 6) pk_nil)) (pg_meth (pv 1) T.cl_Disk T.me_Disk_look (ok_Disk_look T Df) (hr.mono (by decide)) hg (bd_Disk_look_2_ Df) (takes_of rfl rfl rfl rfl) (pa_cons (pv 6) pa_nil) pk_nil) (nomark _))))))))), ?_⟩
  rintro ds M Ψ Χ ⟨h, c, o, e, r, cs, evs, rfl, S, hl, hc1, hc2, hco, k⟩
  refine as_seq (as_par ?_)
  repeat walk_at "st"
  refine arl_lenT ?_
  rw [List.length_map]
  repeat walk_at "st"
  refine ⟨rfl, rfl, h, c, _, rfl, S.R, by decide, by decide, fun deed M1 d0 d1 R1 b1 => ?_⟩
  repeat walk_at "st"
  refine ⟨_, _, rfl, ?_⟩
  have S := S.draw R1 b1
  refine as_seqP (fun Δ' M' => ∃ (evs' : List Ev) (t u v : Option D), Δ' = [some (.ref h), some (.obj a.Disk (dskF (cs.map D.int) o e)), some (.tup (cs.map D.int)), some (.ref r), some (.int cs.length), some (.int deed), t, u, v] ∧ evs'.length ≤ evs.length + 1 ∧ Dst h c o e r cs evs' M' ∧ But5 h c o e r M M') ?_ ?_
  · repeat walk_at "st"
    refine ite3 (fun hz => ?_) (fun hz => ?_)
    · -- a flush
      repeat walk_at "st"
      refine ⟨rfl, ?_⟩
      repeat walk_at "st"
      refine ⟨rfl, rfl, _, o, e, evs, rfl, S.me, by omega, ?_⟩
      repeat walk_at "st"
      refine ar_notN ?_
      refine ⟨false, rfl, ite3 (fun z => by cases z) fun _ => as_next ?_⟩
      repeat walk_at "st"
      refine ae_append ?_
      repeat walk_at "st"
      have mr : (M1.set e (.lst ((evs ++ [none]).map evD))) r = some (.lst (evs.map evD)) := (Mem.set_ne (Ne.symm S.er)).trans S.mr
      refine ⟨r, _, rfl, mr, ?_⟩
      repeat walk_at "st"
      refine ⟨_, mr, by rw [List.length_map]; omega, ?_⟩
      refine ⟨evs ++ [none], _, _, _, rfl, by simp, ⟨(S.R.set S.eh S.ec).set S.rh S.rc, ?_, ?_, ?_, S.oe, S.or, S.er, S.oh, S.oc, S.eh, S.ec, S.rh, S.rc, S.ok.snoc (fun _ _ z => by cases z), S.bd.snoc (fun _ _ z => by cases z)⟩, fun b x y z u v => ?_⟩
      · rw [Mem.set_ne S.or, Mem.set_ne S.oe, updE_snoc]
        exact S.mo
      · rw [Mem.set_ne S.er, Mem.set_same]
      · rw [Mem.set_same, List.map_append]
        rfl
      · rw [Mem.set_ne v, Mem.set_ne u]
        exact b1 b x y
    · repeat walk_at "st"
      refine ite3 (fun hz2 => ?_) (fun hz2 => ?_)
      · -- a put
        refine as_seq (as_set ?_)
        refine AE.mono (Ψ := fun d M2 => ∃ x : Int, d = .int x ∧ 0 ≤ x ∧ x < cs.length ∧ Rng h c M2 ∧ But2 h c M1 M2) ?_ ?_
        · repeat walk_at "st"
          refine ite3 (fun z1 => ?_) (fun z1 => ?_)
          · refine ite3 (fun _ => ?_) fun z => by cases z
            repeat walk_at "st"
            exact ⟨rfl, rfl, h, c, _, rfl, S.R, by omega, by omega, fun x M2 x0 x1 R2 b2 => ⟨x, rfl, x0, x1, R2, b2⟩⟩
          · repeat walk_at "st"
            refine ae_lst (aa_nil ⟨by simp, ?_⟩)
            refine ar_eqM S.mr (n := 1) (m := 1) goods_evs rfl (by decide) (by decide) ?_
            rw [eq_nil]
            refine ⟨_, rfl, ite3 (fun z2 => ?_) (fun z2 => ?_)⟩
            · refine ite3 (fun _ => ?_) fun z => by cases z
              repeat walk_at "st"
              exact ⟨rfl, rfl, h, c, _, rfl, S.R, by omega, by omega, fun x M2 x0 x1 R2 b2 => ⟨x, rfl, x0, x1, R2, b2⟩⟩
            · obtain ⟨evs0, ev, rfl⟩ : ∃ evs0 ev, evs = evs0 ++ [ev] := by
                cases evs with
                | nil => cases z2
                | cons a r => exact ⟨(a :: r).dropLast, (a :: r).getLast (by simp), (List.dropLast_concat_getLast (by simp)).symm⟩
              have hlast : atI ((evs0 ++ [ev]).map evD) (-1) = some (evD ev) := by rw [List.map_append]; exact atI_last
              repeat walk_at "st"
              refine ar_neg ?_
              refine ar_ix_L (ar_ixM S.mr hlast ?_)
              repeat walk_at "st"
              refine ar_isN ?_
              cases ev with
              | none =>
                refine ⟨true, rfl, ite3 (fun _ => ?_) fun z => by cases z⟩
                repeat walk_at "st"
                exact ⟨rfl, rfl, h, c, _, rfl, S.R, by omega, by omega, fun x M2 x0 x1 R2 b2 => ⟨x, rfl, x0, x1, R2, b2⟩⟩
              | some ev =>
                obtain ⟨x, v⟩ := ev
                have hx := S.ok x v (by simp)
                refine ⟨false, rfl, ite3 (fun z => by cases z) fun _ => ?_⟩
                repeat walk_at "st"
                refine ar_neg ?_
                refine ar_ix_L (ar_ixM S.mr hlast ?_)
                repeat walk_at "st"
                exact ar_ix_T (ar_ixT (ds := [.int x, .int v]) rfl ⟨x, rfl, hx.1, hx.2, S.R, But2.refl⟩)
        · rintro d M2 ⟨x, rfl, x0, x1, R2, b2⟩
          have S2 := S.draw R2 b2
          repeat walk_at "st"
          refine ⟨rfl, rfl, h, c, rfl, R2, fun v M3 v0 v1 R3 b3 => ?_⟩
          have S3 := S2.draw R3 b3
          have b13 := b2.trans b3
          have hup : (updE cs evs).length = cs.length := updE_len _ _
          refine as_seq (as_set ?_)
          refine AE.mono (Ψ := fun d M4 => d = .non ∧ M4 = (M3.set o (.lst (((updE cs evs).set x.toNat v).map T2.D.int))).set e (.lst ((evs ++ [some (x, v)]).map evD))) ?_ ?_
          · have hput : ∀ Χ' : Exc, a_put a [.obj a.Disk (dskF (cs.map T2.D.int) o e), .int x, .int v] M3 (fun d M4 => d = .non ∧ M4 = (M3.set o (.lst (((updE cs evs).set x.toNat v).map T2.D.int))).set e (.lst ((evs ++ [some (x, v)]).map evD))) Χ' :=
              fun _ => ⟨_, o, e, _, evs, x, v, rfl, S3.mo, S3.me, S.oe, x0, by rw [hup]; exact x1, by omega, rfl, rfl⟩
            repeat walk_at "st"
            refine ite3 (fun _ => ?_) (fun _ => ?_)
            · repeat walk_at "st"
              refine ⟨rfl, ?_⟩
              repeat walk_at "st"
              exact ⟨rfl, rfl, hput _⟩
            · repeat walk_at "st"
              refine ⟨rfl, ?_⟩
              repeat walk_at "st"
              exact ⟨rfl, rfl, hput _⟩
          · rintro d M4 ⟨rfl, rfl⟩
            generalize hM4 : (M3.set o (.lst (((updE cs evs).set x.toNat v).map T2.D.int))).set e (.lst ((evs ++ [some (x, v)]).map evD)) = M4
            have mr : M4 r = some (.lst (evs.map evD)) := by rw [← hM4, Mem.set_ne (Ne.symm S.er), Mem.set_ne (Ne.symm S.or)]; exact S3.mr
            have mo : M4 o = some (.lst ((updE cs (evs ++ [some (x, v)])).map T2.D.int)) := by rw [← hM4, Mem.set_ne S.oe, Mem.set_same, updE_snoc]
            have me : M4 e = some (.lst ((evs ++ [some (x, v)]).map evD)) := by rw [← hM4, Mem.set_same]
            have R4 : Rng h c M4 := by rw [← hM4]; exact (R3.set S.oh S.oc).set S.eh S.ec
            have f4 : ∀ b, b ≠ o → b ≠ e → M4 b = M3 b := fun b y z => by rw [← hM4, Mem.set_ne z, Mem.set_ne y]
            repeat walk_at "st"
            refine ae_append ?_
            repeat walk_at "st"
            refine ⟨r, _, rfl, mr, ?_⟩
            repeat walk_at "st"
            refine ae_tup ?_
            repeat walk_at "st"
            refine ⟨by simp, _, mr, by rw [List.length_map]; omega, ?_⟩
            have hS : Dst h c o e r cs (evs ++ [some (x, v)]) (M4.set r (.lst (evs.map evD ++ [.tup [.int x, .int v]]))) := by
              refine ⟨R4.set S.rh S.rc, (Mem.set_ne S.or).trans mo, (Mem.set_ne S.er).trans me, ?_, S.oe, S.or, S.er, S.oh, S.oc, S.eh, S.ec, S.rh, S.rc, S.ok.snoc (fun _ _ z => by cases z; exact ⟨x0, x1⟩), S.bd.snoc (fun _ _ z => by cases z; exact ⟨v0, v1⟩)⟩
              rw [Mem.set_same, List.map_append]
              rfl
            repeat walk_at "st"
            refine ar_notN ?_
            refine ⟨false, rfl, ite3 (fun z => by cases z) fun _ => ?_⟩
            repeat walk_at "st"
            refine ⟨rfl, ?_⟩
            repeat walk_at "st"
            refine ⟨rfl, rfl, _, o, e, _, x, v, rfl, hS.mo, x0, by rw [updE_snoc]; exact List.getElem?_set_self (by rw [hup]; omega), ?_⟩
            repeat walk_at "st"
            refine ite3 (fun z => by simp at z) fun _ => as_next ?_
            refine ⟨evs ++ [some (x, v)], _, _, _, rfl, by simp, hS, fun b y z u v w => ?_⟩
            rw [Mem.set_ne w, f4 b u v, b13 b y z]
            exact b1 b y z
      · repeat walk_at "st"
        exact ⟨evs, _, _, _, rfl, by omega, S, fun b x y _ _ _ => b1 b x y⟩
  · rintro Δ' M' ⟨evs', t, u, v, rfl, hl', S', bt⟩
    repeat walk_at "st"
    refine ⟨rfl, rfl, h, c, _, rfl, S'.R, by omega, by omega, fun x M2 x0 x1 R2 b2 => ?_⟩
    have S2 := S'.draw R2 b2
    obtain ⟨cx, hcx⟩ : ∃ cx, cs[x.toNat]? = some cx := ⟨_, List.getElem?_eq_getElem (by omega)⟩
    have hup : (updE cs evs')[x.toNat]? = some (last evs' x cx) := by
      have := updE_at (j := x.toNat) evs' cs cx S2.ok hcx
      rw [Int.toNat_of_nonneg x0] at this
      exact this
    have hlb := last_bd (x := x) (old := cx) S2.bd (hco cx (List.mem_of_getElem? hcx))
    have hlog : (last evs' x cx).natAbs.log2 < 1920 := by
      have : (last evs' x cx).natAbs.log2 ≤ (last evs' x cx).natAbs := Nat.log2_le_self _
      omega
    repeat walk_at "st"
    refine ⟨rfl, ?_⟩
    repeat walk_at "st"
    refine ⟨rfl, rfl, _, o, e, _, x, _, rfl, S2.mo, x0, hup, ?_⟩
    repeat walk_at "st"
    refine arl_reprI hlog ?_
    repeat walk_at "st"
    refine ar_ix_T (ar_ixT (atI_int x0 (by rw [List.getElem?_map, hcx]; rfl)) ?_)
    repeat walk_at "st"
    refine ⟨rfl, rfl, _, evs', x, cx, rfl, .inr ⟨r, rfl, S2.mr⟩, by omega, ?_⟩
    repeat walk_at "st"
    refine arl_reprI hlog ?_
    refine ar_eqS ?_
    refine ⟨_, rfl, ite3 (fun _ => ?_) (fun z => by simp at z)⟩
    repeat walk_at "st"
    refine ⟨rfl, ?_⟩
    repeat walk_at "st"
    refine ⟨rfl, rfl, _, o, e, _, x, _, rfl, S2.mo, x0, hup, ?_⟩
    repeat walk_at "st"
    refine ⟨rfl, ?_⟩
    repeat walk_at "st"
    refine ⟨rfl, rfl, _, o, e, _, x, _, rfl, S2.mo, x0, hup, ?_⟩
    refine ar_eqI ?_
    rw [decide_eq_true rfl]
    exact k evs' M2 hl' S2 (But2.five bt b2)
end
end K59
namespace K59
open PySem PySem.Spec PyProof.Rows L2 RZ T2
local macro_rules | `(tactic| walk_at "st") => `(tactic| first
  | with_reducible refine as_seq ?_ | with_reducible refine as_if ?_ | with_reducible refine as_ret ?_ | with_reducible refine as_set ?_ | with_reducible refine as_drop ?_ | with_reducible refine as_next ?_
  | with_reducible refine as_asg ?_ | with_reducible refine as_retN ?_ | with_reducible refine as_brk ?_ | with_reducible refine as_cont ?_
  | with_reducible refine at_test ?_ | with_reducible refine at_B ?_ | with_reducible refine at_and ?_ | with_reducible refine at_or ?_ | with_reducible refine at_not ?_ | with_reducible refine at_yes ?_
  | with_reducible refine ae_op ?_ | with_reducible refine ae_un ?_ | with_reducible refine ae_cb ?_ | with_reducible refine aa_cons ?_ | with_reducible refine aa_nil ?_ | with_reducible refine ae_if ?_
  | with_reducible refine ae_andV ?_ | with_reducible refine ae_orV ?_ | with_reducible refine ae_notV ?_ | with_reducible refine ae_chain ?_
  | with_reducible refine ae_int ?_ | with_reducible refine ae_str ?_ | with_reducible refine ae_bl ?_ | with_reducible refine ae_non ?_ | with_reducible refine ae_ty ?_ | with_reducible refine ae_ref ?_
  | refine ae_varX rfl ?_ | refine ae_var rfl ?_
  | with_reducible refine ar_add ?_ | with_reducible refine ar_sub ?_ | with_reducible refine ar_lt ?_ | with_reducible refine ar_le ?_ | with_reducible refine ar_gt ?_ | with_reducible refine ar_ge ?_
  | with_reducible refine ar_eqI ?_ | with_reducible refine ar_neI ?_
  | with_reducible refine ⟨_, rfl, ?_⟩
  | refine ae_callG ?_ | refine ae_methG ?_)
section
variable {P : Program} {w : World} {K : PySem.W.Frag} {mg : Str → Option Value} {base : Heap} {a : Ad} {fd : Fds}
local macro_rules | `(tactic| walk_at "mk") => `(tactic| first
  | walk_at "st" | with_reducible refine ae_tup ?_ | with_reducible refine ae_lst ?_ | (refine ⟨by simp; done, ?_⟩) | with_reducible refine ar_neg ?_ | (refine ae_dic0 (fun _ _ _ hh => hh) ?_))
theorem bad_odds {d : D} (h : d ∈ ([.tup [], .lst [.int 0], .tup [.int 256], .tup [.int 0, .int (-1)], .tup [.bl true], .tup [.int 0, .bl false], .tup [.non], .tup [.str "0"], .tup [.int 0, .tup [.int 0]], .non, .int 5, .str "00", .raw fun _ => .dK [],
    .tup [.int 3, .int 4, .int 5, .int 6, .int 7, .int 300], .lst [.tup [.int 1]]] : List D)) : Bad d := by
  simp only [List.mem_cons, List.mem_nil_iff, or_false] at h
  rcases h with rfl | rfl | rfl | rfl | rfl | rfl | rfl | rfl | rfl | rfl | rfl | rfl | rfl | rfl | rfl
  · exact .inr (.inr ⟨_, rfl, rfl, by simp, .inl (.inl rfl)⟩)
  · exact .inl ⟨_, rfl, rfl⟩
  · exact .inr (.inr ⟨_, rfl, rfl, by simp, .inr rfl⟩)
  · exact .inr (.inr ⟨_, rfl, rfl, by simp, .inr rfl⟩)
  · exact .inr (.inr ⟨_, rfl, rfl, by simp, .inr rfl⟩)
  · exact .inr (.inr ⟨_, rfl, rfl, by simp, .inr rfl⟩)
  · exact .inr (.inr ⟨_, rfl, rfl, by simp, .inr rfl⟩)
  · exact .inr (.inr ⟨_, rfl, rfl, by simp, .inr rfl⟩)
  · exact .inr (.inr ⟨_, rfl, rfl, by simp, .inr rfl⟩)
  · exact .inl ⟨_, rfl, rfl⟩
  · exact .inl ⟨_, rfl, rfl⟩
  · exact .inl ⟨_, rfl, rfl⟩
  · exact .inr (.inl rfl)
  · exact .inr (.inr ⟨_, rfl, rfl, by simp, .inr rfl⟩)
  · exact .inl ⟨_, rfl, rfl⟩
theorem fine_odds {d : D} (h : d ∈ ([.tup [.int 0], .tup [.int 255], .tup [.int 0, .int 255], .tup [.int 255, .int 0, .int 1]] : List D)) : ∃ cs : List Int, d = .tup (cs.map D.int) ∧ Fine cs := by
  simp only [List.mem_cons, List.mem_nil_iff, or_false] at h
  rcases h with rfl | rfl | rfl | rfl
  · exact ⟨[0], rfl, by decide, by decide, by decide⟩
  · exact ⟨[255], rfl, by decide, by decide, by decide⟩
  · exact ⟨[0, 255], rfl, by decide, by decide, by decide⟩
  · exact ⟨[255, 0, 1], rfl, by decide, by decide, by decide⟩
abbrev a_odds : ASp := fun ds M Ψ Χ => ∃ (h c : Addr), ds = [.ref h] ∧ Rng h c M ∧ ∀ M', Rng h c M' → Ψ (.bl true) M'
theorem ok__law_odds_right (T : Txt P K mg a) (Df : Defs K a fd) : FnG P w K mg base 6 a._law_odds_right fd._law_odds_right ps__law_odds_right (lift K a_odds) := by
  refine okG Df._law_odds_right sc__law_odds_right (fun ds M Ψ Χ ⟨_, _, h, _⟩ => by subst h; rfl) fun cdv A outer s H E hr hg => ?_
  refine ⟨_, (pss_cons (ps_set (i := 1) sc__law_odds_right.nd rfl (Or.inl rfl) (pe_lst (pa_cons (pe_tup pa_nil) (pa_cons (pe_lst (pa_cons pe_int pa_nil)) (pa_cons (pe_tup (pa_cons pe_int pa_nil)) (pa_cons (pe_tup (pa_cons pe_int (pa_cons (pe_un un_neg pe_int) pa_nil))) (pa_cons (pe_tup (pa_cons pe_bl pa_nil)) (pa_cons (pe_tup (pa_cons pe_int (pa_cons pe_bl pa_nil))) (pa_cons (pe_tup (pa_cons pe_non pa_nil)) (pa_cons (pe_tup (pa_cons pe_str pa_nil)) (pa_cons (pe_tup (pa_cons pe_int (pa_cons (pe_tup (pa_cons pe_int pa_nil)) pa_nil))) (pa_cons pe_non (pa_cons pe_int (pa_cons pe_str (pa_cons pe_dnewK (pa_cons (pe_tup (pa_cons pe_int (pa_cons pe_int (pa_cons pe_int (pa_cons pe_int (pa_cons pe_int (pa_cons pe_int pa_nil))))))) (pa_cons (pe_lst (pa_cons (pe_tup (pa_cons pe_int pa_nil)) pa_nil)) pa_nil)))))))))))))))))
      (pss_cons (ps_for (passes_of rfl) rfl (pi_range1 (by rfl) T.n_range (pa_cons pe_int pa_nil)) (pg_name (i := 2) sc__law_odds_right.nd rfl (Or.inl rfl))
      (pss_one (ps_tryAs (i := 3) rfl rfl sc__law_odds_right.nd rfl rfl ⟨rfl, by decide, Or.inl T.g_DeskError⟩ (takes_of rfl rfl rfl rfl)
      (fun W pn xe tkb _ => (pss_cons (ps_expr (pg_make T.mk_Disk (ok_Disk___init__ T Df) (hr.mono (by decide)) hg (by rfl) T.g_Disk (bd_Disk___init___2_ Df) tkb (pa_cons (pg_call (ok__law_pick T Df) (hr.mono (by decide)) hg (by rfl) T.g__law_pick T.k__law_pick (bd__law_pick_2_ Df) tkb (pa_cons (pv 0) (pa_cons (pv 1) pa_nil)) pk_nil) pa_nil) pk_nil))
      (pss_one (ps_ret pe_bl))))
      (fun xa oe xcls xd pn hz hf => (pss_one (ps_if (PW.pt (pw_or (pt_not (pt_val (pe_callB (call_isX hz hf) (by rfl) T.n_isinstance (by decide +kernel) (pa_cons (pv 3) (pa_cons (pe_glob (v := .ref a.Refused) rfl T.g_Refused rfl) pa_nil))))) (pw_or (pt_val (pe_callB (call_isX hz hf) (by rfl) T.n_isinstance (by decide +kernel) (pa_cons (pv 3) (pa_cons (pe_glob (v := .ref a.Broken) rfl T.g_Broken rfl) pa_nil)))) (pw_or (pt_val (pe_callB (call_isX hz hf) (by rfl) T.n_isinstance (by decide +kernel) (pa_cons (pv 3) (pa_cons (pe_glob (v := .ref a.InvalidNumber) rfl T.g_InvalidNumber rfl) pa_nil)))) (pw_or1 (pt_cmpR op_ne (pe_xfA hz hf (pv 3)) pe_str (nomark _)))))))
      (pss_one (ps_ret pe_bl))
      pss_nil))))))
      (pss_cons (ps_set (i := 4) sc__law_odds_right.nd rfl (Or.inl rfl) (pg_call (ok__law_pick T Df) (hr.mono (by decide)) hg (by rfl) T.g__law_pick T.k__law_pick (bd__law_pick_2_ Df) (takes_of rfl rfl rfl rfl) (pa_cons (pv 0) (pa_cons (pe_lst (pa_cons (pe_tup (pa_cons pe_int pa_nil)) (pa_cons (pe_tup (pa_cons pe_int pa_nil)) (pa_cons (pe_tup (pa_cons pe_int (pa_cons pe_int pa_nil))) (pa_cons (pe_tup (pa_cons pe_int (pa_cons pe_int (pa_cons pe_int pa_nil)))) pa_nil))))) pa_nil)) pk_nil))
      (pss_one (ps_ret (pe_and (pe_cmpR (op_eqD (hun64 hr)) (pe_fld (pg_make T.mk_Disk (ok_Disk___init__ T Df) (hr.mono (by decide)) hg (by rfl) T.g_Disk (bd_Disk___init___2_ Df) (takes_of rfl rfl rfl rfl) (pa_cons (pv 4) pa_nil) pk_nil) rfl) (pv 4) (nomark _)) (pe_one (pe_cmpR op_eq (pg_meth (pg_make0 T.mk_Disk (ok_Disk___init__ T Df) (hr.mono (by decide)) hg (by rfl) T.g_Disk (bd_Disk___init___1_cells Df) (takes_of rfl rfl rfl rfl) (pk_cons (pv 4) pk_nil)) T.cl_Disk T.me_Disk_look (ok_Disk_look T Df) (hr.mono (by decide)) hg (bd_Disk_look_2_ Df) (takes_of rfl rfl rfl rfl) (pa_cons (pe_op op_sub (pe_callB call_len (by rfl) T.n_len (by decide +kernel) (pa_cons (pv 4) pa_nil)) pe_int) pa_nil) pk_nil) (pe_ix ix_seq (pv 4) (pe_un un_neg pe_int) (fun _ _ => rfl)) (nomark _))))))))), ?_⟩
  rintro ds M Ψ Χ ⟨h, c, rfl, R, k⟩
  repeat walk_at "mk"
  refine as_for (ai_rng1 ?_)
  repeat walk_at "st"
  refine ⟨by decide, ?_⟩
  generalize hods : ([.tup [], .lst [.int 0], .tup [.int 256], .tup [.int 0, .int (-1)], .tup [.bl true], .tup [.int 0, .bl false], .tup [.non], .tup [.str "0"], .tup [.int 0, .tup [.int 0]], .non, .int 5, .str "00", .raw fun _ => .dK [],
    .tup [.int 3, .int 4, .int 5, .int 6, .int 7, .int 300], .lst [.tup [.int 1]]] : List D) = ods
  have hol : ods.length = 15 := by rw [← hods]; rfl
  refine ⟨fun i Δ' M' => (∃ v, Δ' = [some (.ref h), some (.lst ods), v, none, none]) ∧ Rng h c M', ⟨⟨_, by rw [← hods]; rfl⟩, R⟩, ?_, ?_⟩
  · rintro i d Δ' M' hd ⟨⟨v, rfl⟩, R'⟩
    obtain ⟨hi2, rfl⟩ := rngD_get hd
    refine ag_name ?_
    refine as_tryAs fun W' => ?_
    refine as_seq (as_drop ?_)
    refine ae_makeG ?_
    repeat walk_at "st"
    refine ⟨rfl, rfl, h, c, ods, rfl, R', by omega, by omega, fun d M1 hd R1 b1 => ?_⟩
    repeat walk_at "st"
    refine ⟨rfl, rfl, fun p hp => ?_⟩
    obtain ⟨n1, n2⟩ := R1.fresh hp
    refine ⟨p, d, rfl, Mem.set_same, .inl ⟨bad_odds (by rw [hods]; exact hd), ?_⟩⟩
    refine ⟨true, T.exm_Refused_DeskError, fun _ ea dd hea => ?_, fun z => by cases z⟩
    repeat walk_at "st"
    refine arl_isX T.ec_Refused T.kit_Refused_Refused ?_
    refine ⟨true, rfl, ite3 (fun z => by cases z) fun _ => ?_⟩
    repeat walk_at "st"
    refine arl_isX T.ec_Refused T.kit_Refused_Broken ?_
    refine ⟨false, rfl, ite3 (fun z => by cases z) fun _ => ?_⟩
    repeat walk_at "st"
    refine arl_isX T.ec_Refused T.kit_Refused_InvalidNumber ?_
    refine ⟨false, rfl, ite3 (fun z => by cases z) fun _ => ?_⟩
    repeat walk_at "st"
    refine ae_xf T.xf_Refused T.xn_Refused ?_
    repeat walk_at "st"
    refine ⟨_, _, rfl, rfl, ?_⟩
    repeat walk_at "st"
    refine ar_neS ?_
    refine ⟨_, rfl, ite3 (fun z => by simp at z) fun _ => as_next ?_⟩
    exact ⟨⟨_, rfl⟩, R1.set n1 n2⟩
  · rintro Δ' M' ⟨⟨v, rfl⟩, R'⟩
    repeat walk_at "mk"
    refine ⟨h, c, _, rfl, R', by decide, by decide, fun d M1 hd R1 b1 => ?_⟩
    obtain ⟨cs, rfl, hf⟩ := fine_odds hd
    obtain ⟨cs0, x, hcx⟩ : ∃ cs0 x, cs = cs0 ++ [x] := by
      cases cs with
      | nil => exact absurd hf.1 (by decide)
      | cons a r => exact ⟨(a :: r).dropLast, (a :: r).getLast (by simp), (List.dropLast_concat_getLast (by simp)).symm⟩
    repeat walk_at "mk"
    refine ae_fldM T.cl_Disk T.nf_Disk_cells (ae_makeG ?_)
    repeat walk_at "st"
    refine ⟨rfl, rfl, fun p hp => ⟨p, _, rfl, Mem.set_same, .inr ⟨cs, rfl, hf, fun o e M2 mk => ⟨rfl, p, _, _, rfl, mk.mp, rfl, ?_⟩⟩⟩⟩
    obtain ⟨n1, n2⟩ := R1.fresh hp
    have R2 : Rng h c M2 := by
      have Rp := R1.set (m := .ins a.Disk []) n1 n2
      obtain ⟨o1, o2⟩ := Rp.fresh mk.no
      obtain ⟨e1, e2⟩ := Rp.fresh mk.ne
      exact Rp.of (mk.bt h (Ne.symm n1) (Ne.symm o1) (Ne.symm e1)) (mk.bt c (Ne.symm n2) (Ne.symm o2) (Ne.symm e2))
    repeat walk_at "st"
    refine ar_eqD (n := 1) (m := 1) goodT goodT (by decide) (by decide) ?_
    rw [eqD_self (n := 1) goodT]
    refine ⟨true, rfl, ite3 (fun _ => ?_) fun z => by cases z⟩
    repeat walk_at "st"
    refine ae_frzI (ae_makeG ?_)
    repeat walk_at "st"
    refine ⟨rfl, rfl, fun q hq => ⟨q, _, rfl, Mem.set_same, .inr ⟨cs, rfl, hf, fun o e M3 mk3 => ⟨rfl, q, a.Disk, _, M3.del q, rfl, mk3.mp, ?_, Mem.del_same, ?_⟩⟩⟩⟩
    · intro b m hb
      by_cases hx : b = q
      · rw [hx, Mem.del_same] at hb; cases hb
      · rw [Mem.del_ne hx] at hb; exact hb
    · obtain ⟨m1, m2⟩ := R2.fresh hq
      have Rq := R2.set (m := .ins a.Disk []) m1 m2
      obtain ⟨o1, o2⟩ := Rq.fresh mk3.no
      obtain ⟨e1, e2⟩ := Rq.fresh mk3.ne
      have R3 : Rng h c M3 := Rq.of (mk3.bt h (Ne.symm m1) (Ne.symm o1) (Ne.symm e1)) (mk3.bt c (Ne.symm m2) (Ne.symm o2) (Ne.symm e2))
      have oq : o ≠ q := fun z => by have := mk3.no; rw [z, Mem.set_same] at this; cases this
      refine ⟨_, rfl, rfl, ?_⟩
      repeat walk_at "st"
      refine arl_lenT ?_
      rw [List.length_map]
      repeat walk_at "st"
      refine ⟨rfl, rfl, _, o, e, cs, _, x, rfl, (Mem.del_ne oq).trans mk3.mo, by have := hf.1; omega, ?_, ?_⟩
      · rw [hcx, List.length_append, show ((((cs0.length + [x].length : Nat)) : Int) - 1).toNat = cs0.length by simp, List.getElem?_append_right (Nat.le_refl _), Nat.sub_self]
        rfl
      · repeat walk_at "st"
        refine ar_neg ?_
        refine ar_ix_T (ar_ixT (by rw [hcx, List.map_append]; exact atI_last) ?_)
        refine ar_eqI ?_
        rw [decide_eq_true rfl]
        exact k _ (R3.of (Mem.del_ne (Ne.symm m1)) (Mem.del_ne (Ne.symm m2)))
abbrev a_great : ASp := fun ds M Ψ Χ => ∃ (h c : Addr), ds = [.ref h] ∧ Rng h c M ∧ ∀ M', Ψ (.bl true) M'
theorem ok__law_great_right (T : Txt P K mg a) (Df : Defs K a fd) : FnG P w K mg base 6 a._law_great_right fd._law_great_right ps__law_great_right (lift K a_great) := by
  refine okG Df._law_great_right sc__law_great_right (fun ds M Ψ Χ ⟨_, _, h, _⟩ => by subst h; rfl) fun cdv A outer s H E hr hg => ?_
  refine ⟨_, (pss_cons (ps_set (i := 1) sc__law_great_right.nd rfl (Or.inl rfl) (pg_call (ok__law_octet T Df) (hr.mono (by decide)) hg (by rfl) T.g__law_octet T.k__law_octet (bd__law_octet_1_ Df) (takes_of rfl rfl rfl rfl) (pa_cons (pv 0) pa_nil) pk_nil))
      (pss_cons (ps_set (i := 2) sc__law_great_right.nd rfl (Or.inl rfl) (pg_make T.mk_Disk (ok_Disk___init__ T Df) (hr.mono (by decide)) hg (by rfl) T.g_Disk (bd_Disk___init___2_ Df) (takes_of rfl rfl rfl rfl) (pa_cons (pe_op op_rep1 (pe_tup (pa_cons (pv 1) pa_nil)) pe_int) pa_nil) pk_nil))
      (pss_cons (ps_expr (pg_meth (pv 2) T.cl_Disk T.me_Disk_put (ok_Disk_put T Df) (hr.mono (by decide)) hg (bd_Disk_put_3_ Df) (takes_of rfl rfl rfl rfl) (pa_cons pe_int (pa_cons (pe_op op_sub pe_int (pv 1)) pa_nil)) pk_nil))
      (pss_cons (ps_if (PW.pt (pw_or (pt_cmpR op_ne (pg_meth (pv 2) T.cl_Disk T.me_Disk_look (ok_Disk_look T Df) (hr.mono (by decide)) hg (bd_Disk_look_2_ Df) (takes_of rfl rfl rfl rfl) (pa_cons pe_int pa_nil) pk_nil) (pe_op op_sub pe_int (pv 1)) (nomark _)) (pw_or (pt_cmpR op_ne (pg_meth (pv 2) T.cl_Disk T.me_Disk_look (ok_Disk_look T Df) (hr.mono (by decide)) hg (bd_Disk_look_2_ Df) (takes_of rfl rfl rfl rfl) (pa_cons pe_int pa_nil) pk_nil) (pv 1) (nomark _)) (pw_or1 (pt_cmpR (op_neD (hun64 hr)) (pg_meth0 (pv 2) T.cl_Disk T.me_Disk_events (ok_Disk_events T Df) (hr.mono (by decide)) hg (bd_Disk_events_1_ Df) (takes_of rfl rfl rfl rfl) pk_nil) (pe_tup (pa_cons (pe_tup (pa_cons pe_int (pa_cons (pe_op op_sub pe_int (pv 1)) pa_nil))) pa_nil)) (nomark _))))))
      (pss_one (ps_ret pe_bl))
      pss_nil)
      (pss_one (ps_tryAs (i := 3) rfl rfl sc__law_great_right.nd rfl rfl ⟨rfl, by decide, Or.inl T.g_Refused⟩ (takes_of rfl rfl rfl rfl)
      (fun W pn xe tkb _ => (pss_cons (ps_expr (pg_make T.mk_Disk (ok_Disk___init__ T Df) (hr.mono (by decide)) hg (by rfl) T.g_Disk (bd_Disk___init___2_ Df) tkb (pa_cons (pe_op (r := rRep1 K) op_rep1 (pe_tup (pa_cons (pv 1) pa_nil)) pe_int) pa_nil) pk_nil))
      (pss_one (ps_ret pe_bl))))
      (fun xa oe xcls xd pn hz hf => (pss_one (ps_ret (pe_cmpR op_eq (pe_xfA hz hf (pv 3)) pe_str (nomark _))))))))))), ?_⟩
  rintro ds M Ψ Χ ⟨h, c, rfl, R, k⟩
  repeat walk_at "st"
  refine ⟨rfl, rfl, h, c, rfl, R, fun v M1 v0 v1 R1 b1 => ?_⟩
  refine as_seq (as_set (ae_frzI (ae_makeG ?_)))
  repeat walk_at "mk"
  refine ar_rep1 (by decide) (by decide) ?_
  repeat walk_at "st"
  generalize hcs : List.replicate (20000 : Int).toNat v = cs
  have hcl : cs.length = 20000 := by rw [← hcs, List.length_replicate]; rfl
  have hmap : List.replicate (20000 : Int).toNat (D.int v) = cs.map D.int := by rw [← hcs, List.map_replicate]
  have hget : ∀ j : Nat, j < 20000 → cs[j]? = some v := fun j hj => by rw [← hcs, List.getElem?_replicate]; exact if_pos hj
  have hfine : Fine cs := ⟨by omega, by omega, fun c hc => by rw [← hcs] at hc; rw [(List.mem_replicate.mp hc).2]; exact ⟨v0, v1⟩⟩
  rw [hmap]
  refine ⟨rfl, rfl, fun q hq => ⟨q, _, rfl, Mem.set_same, .inr ⟨cs, rfl, hfine, fun o e M3 mk3 => ⟨rfl, q, a.Disk, _, M3.del q, rfl, mk3.mp, ?_, Mem.del_same, ?_⟩⟩⟩⟩
  · intro b m hb
    by_cases hx : b = q
    · rw [hx, Mem.del_same] at hb; cases hb
    · rw [Mem.del_ne hx] at hb; exact hb
  · have oq : o ≠ q := fun z => by have := mk3.no; rw [z, Mem.set_same] at this; cases this
    have eq : e ≠ q := fun z => by have := mk3.ne; rw [z, Mem.set_same] at this; cases this
    have mo : (M3.del q) o = some (.lst (cs.map D.int)) := (Mem.del_ne oq).trans mk3.mo
    have me : (M3.del q) e = some (.lst (([] : List Ev).map evD)) := (Mem.del_ne eq).trans mk3.me
    have hoe := mk3.oe
    generalize M3.del q = M4 at mo me
    clear mk3 hq
    repeat walk_at "st"
    refine ⟨rfl, ?_⟩
    repeat walk_at "st"
    refine ⟨rfl, rfl, _, o, e, cs, [], 19999, _, rfl, mo, me, hoe, by decide, by omega, by decide, ?_⟩
    generalize hM5 : (M4.set o (.lst ((cs.set (19999 : Int).toNat (255 - v)).map T2.D.int))).set e (.lst ((([] : List Ev) ++ [some ((19999 : Int), 255 - v)]).map evD)) = M5
    have mo5 : M5 o = some (.lst ((cs.set 19999 (255 - v)).map T2.D.int)) := by rw [← hM5, Mem.set_ne hoe, Mem.set_same]; rfl
    have me5 : M5 e = some (.lst (([some (19999, 255 - v)] : List Ev).map evD)) := by rw [← hM5, Mem.set_same]; rfl
    clear hM5
    repeat walk_at "st"
    refine ⟨rfl, ?_⟩
    repeat walk_at "st"
    refine ⟨rfl, rfl, _, o, e, _, 19999, 255 - v, rfl, mo5, by decide, List.getElem?_set_self (by rw [hcl]; decide), ?_⟩
    repeat walk_at "st"
    refine ite3 (fun z => by simp at z) fun _ => ?_
    repeat walk_at "st"
    refine ⟨rfl, ?_⟩
    repeat walk_at "st"
    refine ⟨rfl, rfl, _, o, e, _, 0, v, rfl, mo5, by decide, ?_, ?_⟩
    · rw [List.getElem?_set_ne (by decide)]
      exact hget 0 (by decide)
    repeat walk_at "st"
    refine ite3 (fun z => by simp at z) fun _ => ?_
    repeat walk_at "st"
    refine ⟨rfl, ?_⟩
    repeat walk_at "st"
    refine ⟨rfl, rfl, _, o, e, _, rfl, me5, ?_⟩
    repeat walk_at "mk"
    refine ar_neD (x := .tup [.tup [.int 19999, .int (255 - v)]]) (y := .tup [.tup [.int 19999, .int (255 - v)]]) (n := 2) (m := 2) rfl rfl (by decide) (by decide) ?_
    rw [eqD_self (n := 2) rfl]
    refine ⟨_, rfl, ite3 (fun z => by cases z) fun _ => as_next ?_⟩
    refine as_tryAs fun W' => ?_
    refine as_seq (as_drop (ae_makeG ?_))
    repeat walk_at "mk"
    refine ar_rep1 (by decide) (by decide) ?_
    repeat walk_at "st"
    refine ⟨rfl, rfl, fun p hp => ⟨p, _, rfl, Mem.set_same, .inl ⟨?_, ?_⟩⟩⟩
    · refine .inr (.inr ⟨_, rfl, ?_, ?_, .inl (.inr ?_)⟩)
      · rw [List.all_replicate]
        split <;> rfl
      · rw [List.length_replicate]; decide
      · rw [List.length_replicate]; decide
    · refine ⟨true, T.exm_Refused_Refused, fun _ ea dd hea => ?_, fun z => by cases z⟩
      repeat walk_at "st"
      refine ae_xf T.xf_Refused T.xn_Refused ?_
      repeat walk_at "st"
      refine ⟨_, _, rfl, rfl, ?_⟩
      repeat walk_at "st"
      refine ar_eqS ?_
      exact k _
end
end K59
namespace K59
open PySem PySem.Spec PyProof.Rows L2 RZ T2
local macro_rules | `(tactic| walk_at "st") => `(tactic| first
  | with_reducible refine as_seq ?_ | with_reducible refine as_if ?_ | with_reducible refine as_ret ?_ | with_reducible refine as_set ?_ | with_reducible refine as_drop ?_ | with_reducible refine as_next ?_
  | with_reducible refine as_asg ?_ | with_reducible refine as_retN ?_ | with_reducible refine as_brk ?_ | with_reducible refine as_cont ?_
  | with_reducible refine at_test ?_ | with_reducible refine at_B ?_ | with_reducible refine at_and ?_ | with_reducible refine at_or ?_ | with_reducible refine at_not ?_ | with_reducible refine at_yes ?_
  | with_reducible refine ae_op ?_ | with_reducible refine ae_un ?_ | with_reducible refine ae_cb ?_ | with_reducible refine aa_cons ?_ | with_reducible refine aa_nil ?_ | with_reducible refine ae_if ?_
  | with_reducible refine ae_andV ?_ | with_reducible refine ae_orV ?_ | with_reducible refine ae_notV ?_ | with_reducible refine ae_chain ?_
  | with_reducible refine ae_int ?_ | with_reducible refine ae_str ?_ | with_reducible refine ae_bl ?_ | with_reducible refine ae_non ?_ | with_reducible refine ae_ty ?_ | with_reducible refine ae_ref ?_
  | refine ae_varX rfl ?_ | refine ae_var rfl ?_
  | with_reducible refine ar_add ?_ | with_reducible refine ar_sub ?_ | with_reducible refine ar_lt ?_ | with_reducible refine ar_le ?_ | with_reducible refine ar_gt ?_ | with_reducible refine ar_ge ?_
  | with_reducible refine ar_eqI ?_ | with_reducible refine ar_neI ?_
  | with_reducible refine ⟨_, rfl, ?_⟩
  | refine ae_callG ?_ | refine ae_methG ?_)
section
variable {P : Program} {w : World} {K : PySem.W.Frag} {mg : Str → Option Value} {base : Heap} {a : Ad} {fd : Fds}
/-! ### the law -/
structure Dk where
  o : Addr
  e : Addr
  r : Addr
  cs : List Int
def Dk.obj (a : Ad) (d : Dk) : D := .obj a.Disk (dskF (d.cs.map D.int) d.o d.e)
def Dk.row (d : Dk) : D := .tup (d.cs.map D.int)
def Apart (d d' : Dk) : Prop := ∀ x ∈ [d.o, d.e, d.r], ∀ y ∈ [d'.o, d'.e, d'.r], x ≠ y
structure All (h c : Addr) (ds : List Dk) (ev : Nat → List Ev) (n : Nat) (M : Mem) : Prop where
  R : Rng h c M
  st : ∀ (i : Nat) (d : Dk), ds[i]? = some d → Dst h c d.o d.e d.r d.cs (ev i) M ∧ (ev i).length ≤ n
  ap : ∀ (i j : Nat) (d d' : Dk), i ≠ j → ds[i]? = some d → ds[j]? = some d' → Apart d d'
  sz : ∀ d ∈ ds, 1 ≤ d.cs.length ∧ d.cs.length ≤ 300 ∧ Oct d.cs
theorem All.draw {h c : Addr} {ds : List Dk} {ev : Nat → List Ev} {n : Nat} {M M' : Mem} (A : All h c ds ev n M) (R : Rng h c M') (b : But2 h c M M') : All h c ds ev n M' :=
  ⟨R, fun i d hd => ⟨(A.st i d hd).1.draw R b, (A.st i d hd).2⟩, A.ap, A.sz⟩
theorem All.more {h c : Addr} {ds : List Dk} {ev : Nat → List Ev} {n m : Nat} {M : Mem} (A : All h c ds ev n M) (hm : n ≤ m) : All h c ds ev m M :=
  ⟨A.R, fun i d hd => ⟨(A.st i d hd).1, Nat.le_trans (A.st i d hd).2 hm⟩, A.ap, A.sz⟩
theorem All.play {h c : Addr} {ds : List Dk} {ev : Nat → List Ev} {n i : Nat} {M M' : Mem} {d : Dk} {evs' : List Ev} (A : All h c ds ev n M) (hd : ds[i]? = some d) (hl : evs'.length ≤ (ev i).length + 1) (S : Dst h c d.o d.e d.r d.cs evs' M') (b : But5 h c d.o d.e d.r M M') :
    All h c ds (fun j => if j = i then evs' else ev j) (n + 1) M' := by
  refine ⟨S.R, fun j d' hd' => ?_, A.ap, A.sz⟩
  by_cases hj : j = i
  · subst hj
    rw [hd] at hd'
    cases hd'
    simp only [if_pos]
    exact ⟨S, by have := (A.st j d hd).2; omega⟩
  · simp only [if_neg hj]
    have ap := A.ap i j d d' (Ne.symm hj) hd hd'
    obtain ⟨T, hn⟩ := A.st j d' hd'
    have f : ∀ y ∈ [d'.o, d'.e, d'.r], y ≠ h → y ≠ c → M' y = M y := fun y hy y1 y2 => b y y1 y2 (Ne.symm (ap _ (by simp) y hy)) (Ne.symm (ap _ (by simp) y hy)) (Ne.symm (ap _ (by simp) y hy))
    exact ⟨⟨S.R, (f _ (by simp) T.oh T.oc).trans T.mo, (f _ (by simp) T.eh T.ec).trans T.me, (f _ (by simp) T.rh T.rc).trans T.mr, T.oe, T.or, T.er, T.oh, T.oc, T.eh, T.ec, T.rh, T.rc, T.ok, T.bd⟩, by omega⟩
structure Pre (h c : Addr) (l : List Dk) (M : Mem) : Prop where
  R : Rng h c M
  st : ∀ (i : Nat) (d : Dk), l[i]? = some d → M d.o = some (.lst (d.cs.map T2.D.int)) ∧ M d.e = some (.lst []) ∧ d.o ≠ d.e ∧ d.o ≠ h ∧ d.o ≠ c ∧ d.e ≠ h ∧ d.e ≠ c
  ap : ∀ (i j : Nat) (d d' : Dk), i ≠ j → l[i]? = some d → l[j]? = some d' → d.o ≠ d'.o ∧ d.o ≠ d'.e ∧ d.e ≠ d'.o ∧ d.e ≠ d'.e
theorem newdisk {C p q o e : Addr} {xs acc : List D} {M' M2 : Mem} (hp : M' p = none) (hq : (M'.set p (.lst acc)) q = none) (mk : Made C q o e xs ((M'.set p (.lst acc)).set q (.ins C [])) M2) :
    ∃ M5 : Mem, M2.del q = M5.set p (.lst acc) ∧ M5 p = none ∧ M5 o = some (.lst xs) ∧ M5 e = some (.lst []) ∧ M' o = none ∧ M' e = none ∧ o ≠ e ∧ ∀ b, b ≠ o → b ≠ e → M5 b = M' b := by
  have pq : p ≠ q := fun z => by rw [← z, Mem.set_same] at hq; cases hq
  have oq : o ≠ q := fun z => by have := mk.no; rw [z, Mem.set_same] at this; cases this
  have eq : e ≠ q := fun z => by have := mk.ne; rw [z, Mem.set_same] at this; cases this
  have op : o ≠ p := fun z => by have := mk.no; rw [z, Mem.set_ne pq, Mem.set_same] at this; cases this
  have ep : e ≠ p := fun z => by have := mk.ne; rw [z, Mem.set_ne pq, Mem.set_same] at this; cases this
  have no : M' o = none := by have := mk.no; rwa [Mem.set_ne oq, Mem.set_ne op] at this
  have ne : M' e = none := by have := mk.ne; rwa [Mem.set_ne eq, Mem.set_ne ep] at this
  have m2p : M2 p = some (.lst acc) := by rw [mk.bt p pq (Ne.symm op) (Ne.symm ep), Mem.set_ne pq, Mem.set_same]
  refine ⟨(M2.del q).del p, ?_, Mem.del_same, ?_, ?_, no, ne, mk.oe, fun b bo be => ?_⟩
  · funext b
    by_cases hb : b = p
    · rw [hb, Mem.set_same, Mem.del_ne pq, m2p]
    · rw [Mem.set_ne hb, Mem.del_ne hb]
  · rw [Mem.del_ne op, Mem.del_ne oq, mk.mo]
  · rw [Mem.del_ne ep, Mem.del_ne eq, mk.me]
  · by_cases hb : b = p
    · rw [hb, Mem.del_same, hp]
    · rw [Mem.del_ne hb]
      by_cases hb2 : b = q
      · rw [hb2, Mem.del_same]
        rw [Mem.set_ne (Ne.symm pq)] at hq
        exact hq.symm
      · rw [Mem.del_ne hb2, mk.bt b hb2 bo be, Mem.set_ne hb2, Mem.set_ne hb]
theorem Pre.add {h c o e : Addr} {l : List Dk} {cs : List Int} {M' M5 : Mem} (P : Pre h c l M') (mo : M5 o = some (.lst (cs.map T2.D.int))) (me : M5 e = some (.lst [])) (no : M' o = none) (ne : M' e = none) (oe : o ≠ e) (bt : ∀ b, b ≠ o → b ≠ e → M5 b = M' b) :
    Pre h c (l ++ [⟨o, e, 0, cs⟩]) M5 := by
  obtain ⟨oh, oc⟩ := P.R.fresh no
  obtain ⟨eh, ec⟩ := P.R.fresh ne
  have old : ∀ (i : Nat) (d : Dk), l[i]? = some d → d.o ≠ o ∧ d.o ≠ e ∧ d.e ≠ o ∧ d.e ≠ e := fun i d hd => by
    obtain ⟨m1, m2, _⟩ := P.st i d hd
    exact ⟨fun z => (by rw [z, no] at m1; cases m1), fun z => (by rw [z, ne] at m1; cases m1), fun z => (by rw [z, no] at m2; cases m2), fun z => (by rw [z, ne] at m2; cases m2)⟩
  have split : ∀ (i : Nat) (d : Dk), (l ++ [(⟨o, e, 0, cs⟩ : Dk)])[i]? = some d → (i < l.length ∧ l[i]? = some d) ∨ (i = l.length ∧ d = ⟨o, e, 0, cs⟩) := fun i d hd => by
    by_cases hi : i < l.length
    · rw [List.getElem?_append_left hi] at hd
      exact .inl ⟨hi, hd⟩
    · rw [List.getElem?_append_right (by omega)] at hd
      by_cases h0 : i - l.length = 0
      · rw [h0] at hd
        exact .inr ⟨by omega, by simpa using hd.symm⟩
      · rw [List.getElem?_eq_none (by simp; omega)] at hd
        cases hd
  refine ⟨P.R.of (bt h (Ne.symm oh) (Ne.symm eh)) (bt c (Ne.symm oc) (Ne.symm ec)), fun i d hd => ?_, fun i j d d' hij hd hd' => ?_⟩
  · rcases split i d hd with ⟨_, hd⟩ | ⟨_, rfl⟩
    · obtain ⟨z1, z2, z3, z4⟩ := old i d hd
      obtain ⟨m1, m2, r⟩ := P.st i d hd
      exact ⟨(bt _ z1 z2).trans m1, (bt _ z3 z4).trans m2, r⟩
    · exact ⟨mo, me, oe, oh, oc, eh, ec⟩
  · rcases split i d hd with ⟨hi, hd⟩ | ⟨hi, rfl⟩
    · rcases split j d' hd' with ⟨hj, hd'⟩ | ⟨hj, rfl⟩
      · exact P.ap i j d d' hij hd hd'
      · exact old i d hd
    · rcases split j d' hd' with ⟨hj, hd'⟩ | ⟨hj, rfl⟩
      · obtain ⟨z1, z2, z3, z4⟩ := old j d' hd'
        exact ⟨Ne.symm z1, Ne.symm z3, Ne.symm z2, Ne.symm z4⟩
      · omega
theorem Pre.all {h c r0 r1 : Addr} {d0 d1 : Dk} {M : Mem} (P : Pre h c [d0, d1] M) (n0 : M r0 = none) (n1 : (M.set r0 (.lst [])) r1 = none) (s0 : 1 ≤ d0.cs.length ∧ d0.cs.length ≤ 300 ∧ Oct d0.cs) (s1 : 1 ≤ d1.cs.length ∧ d1.cs.length ≤ 300 ∧ Oct d1.cs) :
    All h c [{ d0 with r := r0 }, { d1 with r := r1 }] (fun _ => []) 0 ((M.set r0 (.lst [])).set r1 (.lst [])) := by
  have r10 : r1 ≠ r0 := fun z => by rw [z, Mem.set_same] at n1; cases n1
  rw [Mem.set_ne r10] at n1
  obtain ⟨r0h, r0c⟩ := P.R.fresh n0
  obtain ⟨r1h, r1c⟩ := P.R.fresh n1
  obtain ⟨a1, a2, a3, a4, a5, a6, a7⟩ := P.st 0 d0 rfl
  obtain ⟨b1, b2, b3, b4, b5, b6, b7⟩ := P.st 1 d1 rfl
  obtain ⟨p1, p2, p3, p4⟩ := P.ap 0 1 d0 d1 (by decide) rfl rfl
  have far : ∀ {x : Addr} {m : MO}, M x = some m → x ≠ r0 ∧ x ≠ r1 := fun {x m} hx => ⟨fun z => (by rw [z, n0] at hx; cases hx), fun z => (by rw [z, n1] at hx; cases hx)⟩
  obtain ⟨x1, x2⟩ := far a1
  obtain ⟨x3, x4⟩ := far a2
  obtain ⟨y1, y2⟩ := far b1
  obtain ⟨y3, y4⟩ := far b2
  have keep : ∀ {x : Addr} {m : MO}, M x = some m → ((M.set r0 (.lst [])).set r1 (.lst [])) x = some m := fun {x m} hx => by rw [Mem.set_ne (far hx).2, Mem.set_ne (far hx).1]; exact hx
  have R := (P.R.set (m := .lst []) r0h r0c).set (m := .lst []) r1h r1c
  have noev : ∀ n : Nat, evOk n [] := fun _ _ _ z => by cases z
  have noB : evB [] := fun _ _ z => by cases z
  refine ⟨R, fun i d hd => ?_, fun i j d d' hij hd hd' => ?_, fun d hd => ?_⟩
  · match i, hd with
    | 0, hd =>
      cases hd
      exact ⟨⟨R, keep a1, keep a2, by rw [Mem.set_ne (Ne.symm r10), Mem.set_same]; rfl, a3, x1, x3, a4, a5, a6, a7, r0h, r0c, noev _, noB⟩, Nat.le_refl _⟩
    | 1, hd =>
      cases hd
      exact ⟨⟨R, keep b1, keep b2, by rw [Mem.set_same]; rfl, b3, y2, y4, b4, b5, b6, b7, r1h, r1c, noev _, noB⟩, Nat.le_refl _⟩
    | i + 2, hd => cases hd
  · have g01 : Apart { d0 with r := r0 } { d1 with r := r1 } := fun x hx y hy => by
      simp only [List.mem_cons, List.mem_nil_iff, or_false] at hx hy
      rcases hx with rfl | rfl | rfl <;> rcases hy with rfl | rfl | rfl
      · exact p1
      · exact p2
      · exact x2
      · exact p3
      · exact p4
      · exact x4
      · exact Ne.symm y1
      · exact Ne.symm y3
      · exact Ne.symm r10
    match i, j, hd, hd' with
    | 0, 0, _, _ => exact absurd rfl hij
    | 0, 1, hd, hd' => cases hd; cases hd'; exact g01
    | 1, 0, hd, hd' => cases hd; cases hd'; exact fun x hx y hy => Ne.symm (g01 y hy x hx)
    | 1, 1, _, _ => exact absurd rfl hij
    | i + 2, _, hd, _ => cases hd
    | 0, j + 2, _, hd' => cases hd'
    | 1, j + 2, _, hd' => cases hd'
  · simp only [List.mem_cons, List.mem_nil_iff, or_false] at hd
    rcases hd with rfl | rfl
    · exact s0
    · exact s1
theorem sho_ev {n : Nat} {es : List Ev} (hn : n ≤ 300) (h : evOk n es) (hb : evB es) : ∀ d ∈ es.map evD, Sho d := fun d hd => by
  obtain ⟨e, he, rfl⟩ := List.mem_map.mp hd
  cases e with
  | none => exact ⟨by have := sho_none.1; show (shownD .non).length ≤ 60; omega, sho_none.2⟩
  | some e =>
    obtain ⟨x, o⟩ := e
    have h1 := h x o he
    have h2 := hb x o he
    have s1 := sho_int (i := x) h1.1 (by omega)
    have s2 := sho_int (i := o) h2.1 (by omega)
    have hm : ∀ d ∈ [T2.D.int x, T2.D.int o], (shownD d).length ≤ 10 ∧ (toP d).showable = true := fun d hd => by
      rcases List.mem_cons.mp hd with rfl | hd
      · exact s1
      · rw [List.mem_singleton] at hd
        subst hd
        exact s2
    refine ⟨?_, showable_tup fun d hd => (hm d hd).2⟩
    have := shown_tup (ds := [T2.D.int x, T2.D.int o]) (n := 10) fun d hd => (hm d hd).1
    have e2 : [T2.D.int x, T2.D.int o].length = 2 := rfl
    rw [e2] at this
    show (shownD (.tup [.int x, .int o])).length ≤ 60
    omega
theorem evOk.take {n k : Nat} {es : List Ev} (h : evOk n es) : evOk n (es.take k) := fun x o z => h x o (List.mem_of_mem_take z)
theorem evB.take {k : Nat} {es : List Ev} (h : evB es) : evB (es.take k) := fun x o z => h x o (List.mem_of_mem_take z)
abbrev a_law : ASp := fun ds M Ψ Χ => ∃ (ns : List Int), ds = [.lst (ns.map D.int)] ∧ ns.length ≤ 63 ∧ ∀ M', Ψ (.bl true) M'
theorem ok_law (T : Txt P K mg a) (Df : Defs K a fd) : FnG P w K mg base 7 a.law fd.law ps_law (lift K a_law) := by
  refine okG Df.law sc_law (fun ds M Ψ Χ ⟨_, h, _⟩ => by subst h; rfl) fun cdv A outer s H E hr hg => ?_
  refine ⟨_, (pss_cons (ps_set (i := 1) sc_law.nd rfl (Or.inr rfl) (pg_call (ok__law_heap T Df) (hr.mono (by decide)) hg (by rfl) T.g__law_heap T.k__law_heap (bd__law_heap_1_ Df) (takes_of rfl rfl rfl rfl) (pa_cons (pv 0) pa_nil) pk_nil))
      (pss_cons (ps_setLc (i := 2) (own := [("_law_turn", 6)]) rfl sc_law.nd rfl rfl (sw_true rfl rfl rfl (by decide +kernel)) (pi_range1 (by rfl) T.n_range (pa_cons pe_int pa_nil)) (blkOk_by (own := [("_law_turn", 6)]) (N := N_law) (sc := defScope s_law) (by decide +kernel)) (fun _ _ _ _ _ => (pg_name (i := 6) sc_law.nd rfl (Or.inl rfl))) (fun _ _ _ _ _ => pts_nil) (fun _ _ _ _ _ => (pg_call (ok__law_pick T Df) (hr.mono (by decide)) hg (by rfl) T.g__law_pick T.k__law_pick (bd__law_pick_2_ Df) takes0 (pa_cons (pv 1) (pa_cons (pe_lst (pa_cons pe_int (pa_cons pe_int (pa_cons pe_int (pa_cons pe_int (pa_cons pe_int (pa_cons pe_int (pa_cons pe_int pa_nil)))))))) pa_nil)) pk_nil)))
      (pss_cons (ps_if (PW.pt (pw_and (pt_cmpR op_gt (pe_callB call_len (by rfl) T.n_len (by decide +kernel) (pa_cons (pv 0) pa_nil)) pe_int (nomark _)) (pw_and1 (pt_cmpR op_eq (pg_call (ok__law_draw T Df) (hr.mono (by decide)) hg (by rfl) T.g__law_draw T.k__law_draw (bd__law_draw_2_ Df) (takes_of rfl rfl rfl rfl) (pa_cons (pv 1) (pa_cons pe_int pa_nil)) pk_nil) pe_int (nomark _)))))
      (pss_one (ps_set (i := 2) sc_law.nd rfl (Or.inl rfl) (pe_lst (pa_cons pe_int (pa_cons (pe_ix ix_seq (pv 2) pe_int (fun _ _ => rfl)) pa_nil)))))
      pss_nil)
      (pss_cons (ps_set (i := 3) sc_law.nd rfl (Or.inr rfl) (pe_lc (own := [("_law_many", 9)]) rfl sc_law.nd (pi_list (pv 2)) (blkOk_by (own := [("_law_many", 9)]) (N := N_law) (sc := defScope s_law) (by decide +kernel)) (fun _ _ _ _ _ => (pg_name (i := 9) sc_law.nd rfl (Or.inl rfl))) (fun _ _ _ _ _ => pts_nil) (fun _ _ _ _ _ => (pe_callTy (r := cTuple K) call_tuple_of (by rfl) T.n_tuple (by decide +kernel) (pa_cons (pe_lc (own := [("_law_at", 7)]) rfl sc_law.nd (pi_range1 (by rfl) T.n_range (pa_cons (pv 9) pa_nil)) (blkOk_by (own := [("_law_at", 7)]) (N := N_law) (by first | kernel_rfl | rfl)) (fun _ _ _ _ _ => (pg_name (i := 7) sc_law.nd rfl (Or.inl rfl))) (fun _ _ _ _ _ => pts_nil) (fun _ _ _ _ _ => (pg_call (ok__law_octet T Df) (hr.mono (by decide)) hg (by rfl) T.g__law_octet T.k__law_octet (bd__law_octet_1_ Df) takes0 (pa_cons (pv 1) pa_nil) pk_nil))) pa_nil)))))
      (pss_cons (ps_asg (pe_tup (pa_cons (pe_lc (own := [("_law_row", 10)]) rfl sc_law.nd (pi_list (pv 3)) (blkOk_by (own := [("_law_row", 10)]) (N := N_law) (sc := defScope s_law) (by decide +kernel)) (fun _ _ _ _ _ => (pg_name (i := 10) sc_law.nd rfl (Or.inl rfl))) (fun _ _ _ _ _ => pts_nil) (fun _ _ _ _ _ => (pg_make T.mk_Disk (ok_Disk___init__ T Df) (hr.mono (by decide)) hg (by rfl) T.g_Disk (bd_Disk___init___2_ Df) takes0 (pa_cons (pv 10) pa_nil) pk_nil))) (pa_cons (pe_lst (pa_cons (pe_lst pa_nil) (pa_cons (pe_lst pa_nil) pa_nil))) pa_nil))) (pg_tup rfl (pgs_cons (pg_name (i := 4) sc_law.nd rfl (Or.inr rfl)) (pgs_cons (pg_name (i := 5) sc_law.nd rfl (Or.inl rfl)) pgs_nil))))
      (pss_cons (ps_for (passes_of rfl) rfl (pi_range1 (by rfl) T.n_range (pa_cons (pe_op op_add (pe_op op_add pe_int (pg_call (ok__law_draw T Df) (hr.mono (by decide)) hg (by rfl) T.g__law_draw T.k__law_draw (bd__law_draw_2_ Df) (takes_of rfl rfl rfl rfl) (pa_cons (pv 1) (pa_cons pe_int pa_nil)) pk_nil)) (pe_op op_mul pe_int (pe_callTy call_int1 (by rfl) T.n_int (by decide +kernel) (pa_cons (pe_cmpR op_gt (pe_callB call_len (by rfl) T.n_len (by decide +kernel) (pa_cons (pv 0) pa_nil)) pe_int (nomark _)) pa_nil)))) pa_nil)) (pg_name (i := 6) sc_law.nd rfl (Or.inl rfl))
      (pss_cons (ps_set (i := 7) sc_law.nd rfl (Or.inr rfl) (pg_call (ok__law_draw T Df) (hr.mono (by decide)) hg (by rfl) T.g__law_draw T.k__law_draw (bd__law_draw_2_ Df) (takes_of rfl rfl rfl rfl) (pa_cons (pv 1) (pa_cons pe_int pa_nil)) pk_nil))
      (pss_cons (ps_if (pt_not (pt_val (pg_call (ok__law_play T Df) (hr.mono (by decide)) hg (by rfl) T.g__law_play T.k__law_play (bd__law_play_4_ Df) (takes_of rfl rfl rfl rfl) (pa_cons (pv 1) (pa_cons (pe_ix ix_seq (pv 4) (pv 7) (fun _ _ => rfl)) (pa_cons (pe_ix ix_seq (pv 3) (pv 7) (fun _ _ => rfl)) (pa_cons (pe_ix ix_seq (pv 5) (pv 7) (fun _ _ => rfl)) pa_nil)))) pk_nil)))
      (pss_one (ps_ret pe_bl))
      pss_nil)
      (pss_one (ps_if (PW.pt (pw_and (pt_cmpR op_gt (pv 6) pe_int (nomark _)) (pw_and (pt_cmpR op_eq (pg_call (ok__law_draw T Df) (hr.mono (by decide)) hg (by rfl) T.g__law_draw T.k__law_draw (bd__law_draw_2_ Df) (takes_of rfl rfl rfl rfl) (pa_cons (pv 1) (pa_cons pe_int pa_nil)) pk_nil) pe_int (nomark _)) (pw_and1 (pt_cmpR op_ne (pe_callB (cr_repr hg (hun150 hr)) (by rfl) T.n_repr (by decide +kernel) (pa_cons (pg_meth0 (pe_ix ix_seq (pv 4) (pv 7) (fun _ _ => rfl)) T.cl_Disk T.me_Disk_events (ok_Disk_events T Df) (hr.mono (by decide)) hg (bd_Disk_events_1_ Df) (takes_of rfl rfl rfl rfl) pk_nil) pa_nil)) (pe_callB (cr_repr hg (hun150 hr)) (by rfl) T.n_repr (by decide +kernel) (pa_cons (pe_callTy call_tuple_of (by rfl) T.n_tuple (by decide +kernel) (pa_cons (pe_ix ix_seq (pv 5) (pv 7) (fun _ _ => rfl)) pa_nil)) pa_nil)) (nomark _))))))
      (pss_one (ps_ret pe_bl))
      pss_nil)))))
      (pss_cons (ps_for (passes_of rfl) rfl (pi_range1 (by rfl) T.n_range (pa_cons pe_int pa_nil)) (pg_name (i := 7) sc_law.nd rfl (Or.inr rfl))
      (pss_cons (ps_set (i := 8) sc_law.nd rfl (Or.inr rfl) (pg_meth0 (pe_ix ix_seq (pv 4) (pv 7) (fun _ _ => rfl)) T.cl_Disk T.me_Disk_events (ok_Disk_events T Df) (hr.mono (by decide)) hg (bd_Disk_events_1_ Df) (takes_of rfl rfl rfl rfl) pk_nil))
      (pss_cons (ps_if (PW.pt (pw_or (pt_cmpR op_ne (pe_callB (cr_repr hg (hun150 hr)) (by rfl) T.n_repr (by decide +kernel) (pa_cons (pv 8) pa_nil)) (pe_callB (cr_repr hg (hun150 hr)) (by rfl) T.n_repr (by decide +kernel) (pa_cons (pe_callTy call_tuple_of (by rfl) T.n_tuple (by decide +kernel) (pa_cons (pe_ix ix_seq (pv 5) (pv 7) (fun _ _ => rfl)) pa_nil)) pa_nil)) (nomark _)) (pw_or1 (pt_cmpR (op_neD (hun64 hr)) (pe_fld (pe_ix ix_seq (pv 4) (pv 7) (fun _ _ => rfl)) rfl) (pe_ix ix_seq (pv 3) (pv 7) (fun _ _ => rfl)) (nomark _)))))
      (pss_one (ps_ret pe_bl))
      pss_nil)
      (pss_cons (ps_for (passes_of rfl) rfl (pi_range1 (by rfl) T.n_range (pa_cons pe_int pa_nil)) (pg_name (i := 6) sc_law.nd rfl (Or.inl rfl))
      (pss_one (ps_if (pt_not (pt_val (pg_call (ok__law_cut_right T Df) (hr.mono (by decide)) hg (by rfl) T.g__law_cut_right T.k__law_cut_right (bd__law_cut_right_3_ Df) (takes_of rfl rfl rfl rfl) (pa_cons (pv 1) (pa_cons (pe_ix ix_seq (pv 3) (pv 7) (fun _ _ => rfl)) (pa_cons (pe_slice sl_tupA (pv 8) po_none (po_some (pg_call (ok__law_pick T Df) (hr.mono (by decide)) hg (by rfl) T.g__law_pick T.k__law_pick (bd__law_pick_2_ Df) (takes_of rfl rfl rfl rfl) (pa_cons (pv 1) (pa_cons (pe_lst (pa_cons (pg_call (ok__law_draw T Df) (hr.mono (by decide)) hg (by rfl) T.g__law_draw T.k__law_draw (bd__law_draw_2_ Df) (takes_of rfl rfl rfl rfl) (pa_cons (pv 1) (pa_cons (pe_op op_add (pe_callB call_len (by rfl) T.n_len (by decide +kernel) (pa_cons (pv 8) pa_nil)) pe_int) pa_nil)) pk_nil) (pa_cons (pe_callB call_len (by rfl) T.n_len (by decide +kernel) (pa_cons (pv 8) pa_nil)) pa_nil))) pa_nil)) pk_nil))) pa_nil))) pk_nil)))
      (pss_one (ps_ret pe_bl))
      pss_nil)))
      (pss_one (ps_if (pt_cmpR (op_neD (hun64 hr)) (pe_lc (own := [("_law_place", 11)]) rfl sc_law.nd (pi_range1 (by rfl) T.n_range (pa_cons (pe_callB call_len (by rfl) T.n_len (by decide +kernel) (pa_cons (pe_ix ix_seq (pv 3) (pv 7) (fun _ _ => rfl)) pa_nil)) pa_nil)) (blkOk_by (own := [("_law_place", 11)]) (N := N_law) (sc := defScope s_law) (by decide +kernel)) (fun _ _ _ _ _ => (pg_name (i := 11) sc_law.nd rfl (Or.inl rfl))) (fun _ _ _ _ _ => pts_nil) (fun _ _ _ _ _ => (pg_meth (pe_ix (r := rIx K) ix_seq (pv 4) (pv 7) (fun _ _ => rfl)) T.cl_Disk T.me_Disk_look (ok_Disk_look T Df) (hr.mono (by decide)) hg (bd_Disk_look_2_ Df) takes0 (pa_cons (pv 11) pa_nil) pk_nil))) (pe_lc (own := [("_law_place", 11)]) rfl sc_law.nd (pi_range1 (by rfl) T.n_range (pa_cons (pe_callB call_len (by rfl) T.n_len (by decide +kernel) (pa_cons (pe_ix ix_seq (pv 3) (pv 7) (fun _ _ => rfl)) pa_nil)) pa_nil)) (blkOk_by (own := [("_law_place", 11)]) (N := N_law) (sc := defScope s_law) (by decide +kernel)) (fun _ _ _ _ _ => (pg_name (i := 11) sc_law.nd rfl (Or.inl rfl))) (fun _ _ _ _ _ => pts_nil) (fun _ _ _ _ _ => (pg_call (ok__law_last T Df) (hr.mono (by decide)) hg (by rfl) T.g__law_last T.k__law_last (bd__law_last_3_ Df) takes0 (pa_cons (pv 8) (pa_cons (pv 11) (pa_cons (pe_ix (r := rIx K) ix_seq (pe_ix (r := rIx K) ix_seq (pv 3) (pv 7) (fun _ _ => rfl)) (pv 11) (fun _ _ => rfl)) pa_nil))) pk_nil))) (nomark _))
      (pss_one (ps_ret pe_bl))
      pss_nil))))))
      (pss_cons (ps_if (PW.pt (pw_or (pt_not (pt_val (pg_call (ok__law_odds_right T Df) (hr.mono (by decide)) hg (by rfl) T.g__law_odds_right T.k__law_odds_right (bd__law_odds_right_1_ Df) (takes_of rfl rfl rfl rfl) (pa_cons (pv 1) pa_nil) pk_nil))) (pw_or1 (PW.pt (pw_and (pt_cmpR op_gt (pe_callB call_len (by rfl) T.n_len (by decide +kernel) (pa_cons (pv 0) pa_nil)) pe_int (nomark _)) (pw_and (pt_cmpR op_eq (pg_call (ok__law_draw T Df) (hr.mono (by decide)) hg (by rfl) T.g__law_draw T.k__law_draw (bd__law_draw_2_ Df) (takes_of rfl rfl rfl rfl) (pa_cons (pv 1) (pa_cons pe_int pa_nil)) pk_nil) pe_int (nomark _)) (pw_and1 (pt_not (pt_val (pg_call (ok__law_great_right T Df) (hr.mono (by decide)) hg (by rfl) T.g__law_great_right T.k__law_great_right (bd__law_great_right_1_ Df) (takes_of rfl rfl rfl rfl) (pa_cons (pv 1) pa_nil) pk_nil))))))))))
      (pss_one (ps_ret pe_bl))
      pss_nil)
      (pss_cons (ps_if (PW.pt (pw_or (pt_cmpR (op_neD (hun64 hr)) (pg_call (ok_pending_places T Df) (hr.mono (by decide)) hg (by rfl) T.g_pending_places T.k_pending_places (bd_pending_places_1_ Df) (takes_of rfl rfl rfl rfl) (pa_cons (pe_tup pa_nil) pa_nil) pk_nil) (pe_tup pa_nil) (nomark _)) (pw_or1 (pt_cmpR (op_neD (hun64 hr)) (pg_call (ok_pending_places T Df) (hr.mono (by decide)) hg (by rfl) T.g_pending_places T.k_pending_places (bd_pending_places_1_ Df) (takes_of rfl rfl rfl rfl) (pa_cons (pe_tup (pa_cons (pe_tup (pa_cons pe_int (pa_cons pe_int pa_nil))) (pa_cons pe_non (pa_cons (pe_tup (pa_cons pe_int (pa_cons pe_int pa_nil))) (pa_cons (pe_tup (pa_cons pe_int (pa_cons pe_int pa_nil))) (pa_cons (pe_tup (pa_cons pe_int (pa_cons pe_int pa_nil))) pa_nil)))))) pa_nil) pk_nil) (pe_tup (pa_cons pe_int (pa_cons pe_int pa_nil))) (nomark _)))))
      (pss_one (ps_ret pe_bl))
      pss_nil)
      (pss_one (ps_ret (pe_cmpR (op_eqD (hun64 hr)) (pg_call (ok_cut_cells T Df) (hr.mono (by decide)) hg (by rfl) T.g_cut_cells T.k_cut_cells (bd_cut_cells_3_ Df) (takes_of rfl rfl rfl rfl) (pa_cons (pe_tup (pa_cons pe_int (pa_cons pe_int (pa_cons pe_int (pa_cons pe_int pa_nil))))) (pa_cons (pe_tup (pa_cons (pe_tup (pa_cons pe_int (pa_cons pe_int pa_nil))) (pa_cons (pe_tup (pa_cons pe_int (pa_cons pe_int pa_nil))) (pa_cons pe_non (pa_cons (pe_tup (pa_cons pe_int (pa_cons pe_int pa_nil))) (pa_cons (pe_tup (pa_cons pe_int (pa_cons pe_int pa_nil))) pa_nil)))))) (pa_cons (pe_tup (pa_cons pe_int (pa_cons pe_int pa_nil))) pa_nil))) pk_nil) (pe_tup (pa_cons pe_int (pa_cons pe_int (pa_cons pe_int (pa_cons pe_int pa_nil))))) (nomark _))))))))))))), ?_⟩
  rintro ds M Ψ Χ ⟨ns, rfl, hns, k⟩
  repeat walk_at "st"
  refine ⟨rfl, rfl, ns, rfl, fun h c M1 _ _ R1 _ => ?_⟩
  have sl : ∀ {Δ : Sls}, Δ = [some (.lst (ns.map D.int)), some (.ref h), none, none, none, none, none, none, none, none, none, none] → Δ = [some (.lst (ns.map D.int)), some (.ref h), none, none, none, none, none, none, none, none, none, none] := fun z => z
  -- the sizes
  refine as_seqP (fun Δ' M' => ∃ vs : List Int, vs.length = 2 ∧ (∀ v ∈ vs, 1 ≤ v ∧ v ≤ 300) ∧ Δ' = [some (.lst (ns.map D.int)), some (.ref h), some (.lst (vs.map D.int)), none, none, none, none, none, none, none, none, none] ∧ Rng h c M') ?_ ?_
  · refine as_set (ae_lcF (ai_rng1 ?_))
    repeat walk_at "st"
    refine ⟨by decide, by rw [rngD_length]; decide, fun i acc M' => ∃ vs : List Int, acc = vs.map D.int ∧ vs.length = i ∧ (∀ v ∈ vs, 1 ≤ v ∧ v ≤ 300) ∧ Rng h c M', ⟨[], rfl, rfl, (fun _ z => by cases z), R1⟩, ?_, ?_⟩
    · rintro i d acc M' p hx ⟨vs, rfl, hvl, hv, R'⟩ hp _
      obtain ⟨n1, n2⟩ := R'.fresh hp
      obtain ⟨_, rfl⟩ := rngD_get hx
      refine agc_name (by decide) (at_yes (ite3 (fun _ => ?_) fun z => by cases z))
      repeat walk_at "st"
      refine ae_lst ?_
      repeat walk_at "st"
      refine ⟨by simp, ?_⟩
      repeat walk_at "st"
      refine ⟨rfl, rfl, h, c, _, rfl, R'.set n1 n2, by simp, by simp, fun d M2 hd R2 b2 => ?_⟩
      obtain ⟨M5, e5, m5, R5, _⟩ := turn But2.refl R' hp R2 b2
      refine ⟨M5, e5, m5, ?_⟩
      have hv2 : ∃ v : Int, d = .int v ∧ 1 ≤ v ∧ v ≤ 300 := by
        simp only [List.mem_cons, List.mem_nil_iff, or_false] at hd
        rcases hd with rfl | rfl | rfl | rfl | rfl | rfl | rfl <;> exact ⟨_, rfl, by decide, by decide⟩
      obtain ⟨v, rfl, hv2⟩ := hv2
      refine ⟨vs ++ [v], by rw [List.map_append]; rfl, by rw [List.length_append, hvl]; rfl, fun c hc => ?_, R5⟩
      rcases List.mem_append.mp hc with z | z
      · exact hv c z
      · rw [List.mem_singleton] at z
        rw [z]; exact hv2
    · rintro acc M' ⟨vs, rfl, hvl, hv, R'⟩
      exact ⟨vs, hvl, hv, rfl, R'⟩
  rintro Δ' M' ⟨vs, hvl, hv, rfl, R'⟩
  clear R1 sl
  refine as_seqP (fun Δ' M' => ∃ vs : List Int, vs.length = 2 ∧ (∀ v ∈ vs, 1 ≤ v ∧ v ≤ 300) ∧ Δ' = [some (.lst (ns.map D.int)), some (.ref h), some (.lst (vs.map D.int)), none, none, none, none, none, none, none, none, none] ∧ Rng h c M') ?_ ?_
  · repeat walk_at "st"
    refine arl_lenL ?_
    repeat walk_at "st"
    refine ite3 (fun _ => ?_) (fun _ => as_next ⟨vs, hvl, hv, rfl, R'⟩)
    repeat walk_at "st"
    refine ⟨rfl, rfl, h, c, _, rfl, R', by decide, by decide, fun r M2 r0 r1 R2 b2 => ?_⟩
    repeat walk_at "st"
    refine ite3 (fun _ => ?_) (fun _ => as_next ⟨vs, hvl, hv, rfl, R2⟩)
    obtain ⟨v0, hv0⟩ : ∃ v0, vs[0]? = some v0 := ⟨_, List.getElem?_eq_getElem (by omega)⟩
    repeat walk_at "st"
    refine ae_lst ?_
    repeat walk_at "st"
    refine ar_ix_L (ar_ixL (atI_int (by decide) (show (vs.map D.int)[0]? = _ by rw [List.getElem?_map, hv0]; rfl)) ?_)
    repeat walk_at "st"
    refine ⟨by simp, [300, v0], rfl, fun v hx => ?_, rfl, R2⟩
    rcases List.mem_cons.mp hx with rfl | hx
    · exact ⟨by decide, by decide⟩
    · rw [List.mem_singleton] at hx
      subst hx
      exact hv v (List.mem_of_getElem? hv0)
  rintro Δ' M' ⟨vs, hvl, hv, rfl, R'⟩
  -- the rows
  refine as_seqP (fun Δ' M' => ∃ css : List (List Int), css.length = 2 ∧ (∀ cs ∈ css, 1 ≤ cs.length ∧ cs.length ≤ 300 ∧ Oct cs) ∧ (∃ v, Δ' = [some (.lst (ns.map D.int)), some (.ref h), v, some (.lst (css.map fun cs => .tup (cs.map D.int))), none, none, none, none, none, none, none, none]) ∧ Rng h c M') ?_ ?_
  · refine as_set (ae_lcF (ai_lst ?_))
    repeat walk_at "st"
    refine ⟨by rw [List.length_map]; omega, fun i acc M' => ∃ css : List (List Int), acc = (css.map fun cs => .tup (cs.map D.int)) ∧ css.length = i ∧ (∀ cs ∈ css, 1 ≤ cs.length ∧ cs.length ≤ 300 ∧ Oct cs) ∧ Rng h c M', ⟨[], rfl, rfl, (fun _ z => by cases z), R'⟩, ?_, ?_⟩
    · rintro i d acc M' p hx ⟨css, rfl, hcl, hcs, R'⟩ hp _
      rw [List.getElem?_map] at hx
      obtain ⟨x, hxp, rfl⟩ := Option.map_eq_some_iff.mp hx
      have hxv := hv x (List.mem_of_getElem? hxp)
      obtain ⟨n1, n2⟩ := R'.fresh hp
      have Rp := R'.set (m := .lst (css.map fun cs => .tup (cs.map D.int))) n1 n2
      refine agc_name (by decide) (at_yes (ite3 (fun _ => ?_) fun z => by cases z))
      repeat walk_at "st"
      refine ae_lcF (ai_rng1 ?_)
      repeat walk_at "st"
      refine ⟨by omega, by rw [rngD_length]; omega, fun i acc M2 => ∃ cs : List Int, acc = cs.map D.int ∧ cs.length = i ∧ Oct cs ∧ Rng h c M2 ∧ But2 h c (M'.set p (.lst (css.map fun cs => .tup (cs.map D.int)))) M2, ⟨[], rfl, rfl, (fun _ z => by cases z), Rp, But2.refl⟩, ?_, ?_⟩
      · rintro i2 d2 acc2 M2 p2 hx2 ⟨cs, rfl, hcl2, hco, R2, b2⟩ hp2 _
        obtain ⟨_, rfl⟩ := rngD_get hx2
        obtain ⟨m1, m2⟩ := R2.fresh hp2
        refine agc_name (by decide) (at_yes (ite3 (fun _ => ?_) fun z => by cases z))
        repeat walk_at "st"
        refine ⟨rfl, rfl, h, c, rfl, R2.set m1 m2, fun r M3 r0 r1 R3 b3 => ?_⟩
        obtain ⟨M5, e5, m5, R5, b5⟩ := turn b2 R2 hp2 R3 b3
        refine ⟨M5, e5, m5, cs ++ [r], by rw [List.map_append]; rfl, by rw [List.length_append, hcl2]; rfl, fun c hc => ?_, R5, b5⟩
        rcases List.mem_append.mp hc with z | z
        · exact hco c z
        · rw [List.mem_singleton] at z
          rw [z]; exact ⟨r0, r1⟩
      · rintro acc2 M2 ⟨cs, rfl, hcl2, hco, R2, b2⟩
        rw [rngD_length] at hcl2
        repeat walk_at "st"
        refine arl_tupL ?_
        obtain ⟨M5, e5, m5, R5, _⟩ := turn But2.refl R' hp R2 b2
        refine ⟨M5, e5, m5, css ++ [cs], by rw [List.map_append]; rfl, by rw [List.length_append, hcl]; rfl, fun c hc => ?_, R5⟩
        rcases List.mem_append.mp hc with z | z
        · exact hcs c z
        · rw [List.mem_singleton] at z
          rw [z]; exact ⟨by omega, by omega, hco⟩
    · rintro acc M' ⟨css, rfl, hcl, hcs, R'⟩
      rw [List.length_map, hvl] at hcl
      exact ⟨css, hcl, hcs, ⟨_, rfl⟩, R'⟩
  rintro Δ' M' ⟨css, hcl, hcs, ⟨v2, rfl⟩, R'⟩
  clear hv hvl vs
  -- the disks
  refine as_seqP (fun Δ' M' => ∃ (ds : List Dk) (v : Option D), ds.length = 2 ∧ All h c ds (fun _ => []) 0 M' ∧ Δ' = [some (.lst (ns.map D.int)), some (.ref h), v, some (.lst (ds.map Dk.row)), some (.lst (ds.map (Dk.obj a))), some (.lst (ds.map fun d => .ref d.r)), none, none, none, none, none, none]) ?_ ?_
  · refine as_asg (ae_tup (aa_cons ?_))
    refine ae_lcF (ai_lst ?_)
    repeat walk_at "st"
    refine ⟨by rw [List.length_map]; omega, fun i acc M' => ∃ l : List Dk, acc = l.map (Dk.obj a) ∧ l.length = i ∧ (l.map fun d => d.cs) = css.take i ∧ Pre h c l M', ⟨[], rfl, rfl, rfl, R', (fun _ _ z => by cases z), fun _ _ _ _ _ z => by cases z⟩, ?_, ?_⟩
    · rintro i d acc M' p hx ⟨l, rfl, hll, hlc, Pr⟩ hp _
      rw [List.getElem?_map] at hx
      obtain ⟨cs, hxp, rfl⟩ := Option.map_eq_some_iff.mp hx
      have hcv := hcs cs (List.mem_of_getElem? hxp)
      refine agc_name (by decide) (at_yes (ite3 (fun _ => ?_) fun z => by cases z))
      refine ae_frzI (ae_makeG ?_)
      repeat walk_at "st"
      refine ⟨rfl, rfl, fun q hq => ⟨q, _, rfl, Mem.set_same, .inr ⟨cs, rfl, ⟨hcv.1, by omega, hcv.2.2⟩, fun o e M2 mk => ⟨rfl, q, a.Disk, _, M2.del q, rfl, mk.mp, ?_, Mem.del_same, ?_⟩⟩⟩⟩
      · intro b m hb
        by_cases hx : b = q
        · rw [hx, Mem.del_same] at hb; cases hb
        · rw [Mem.del_ne hx] at hb; exact hb
      · obtain ⟨M5, e5, m5, mo, me, no, ne, oe, bt⟩ := newdisk hp hq mk
        refine ⟨M5, e5, m5, l ++ [⟨o, e, 0, cs⟩], by rw [List.map_append]; rfl, by rw [List.length_append, hll]; rfl, ?_, Pr.add mo me no ne oe bt⟩
        rw [List.map_append, hlc, take_snoc hxp]
        rfl
    · rintro acc M' ⟨l, rfl, hll, hlc, Pr⟩
      rw [List.length_map, hcl] at hll
      rw [List.length_map, List.take_length] at hlc
      match l, hll with
      | [d0, d1], _ =>
      repeat walk_at "st"
      refine ae_lst ?_
      refine aa_cons (ae_lstM (aa_nil ⟨by simp, fun r0 h0 => ?_⟩))
      refine aa_cons (ae_lstM (aa_nil ⟨by simp, fun r1 h1 => ?_⟩))
      repeat walk_at "st"
      refine ⟨by simp, ?_⟩
      repeat walk_at "st"
      have hm0 : d0.cs ∈ css := by rw [← hlc]; simp
      have hm1 : d1.cs ∈ css := by rw [← hlc]; simp
      refine ⟨by simp, ag_of [4, 5] (agc_tup rfl (agcs_cons (agc_name (by decide) (agcs_cons (agc_name (by decide) (agcs_nil ?_))))))⟩
      refine ⟨[{ d0 with r := r0 }, { d1 with r := r1 }], v2, rfl, Pr.all h0 h1 (hcs _ hm0) (hcs _ hm1), ?_⟩
      rw [← hlc]
      rfl
  rintro Δ' M' ⟨ds, v2, hdl, A, rfl⟩
  -- the deeds
  have hget : ∀ {f : Dk → D} {i : Int} {d : Dk}, 0 ≤ i → ds[i.toNat]? = some d → atI (ds.map f) i = some (f d) := fun {f i d} h0 h => atI_int h0 (by rw [List.getElem?_map, h]; rfl)
  refine as_seqP (fun Δ' M' => ∃ (ev : Nat → List Ev) (v6 v7 : Option D), All h c ds ev 40 M' ∧ Δ' = [some (.lst (ns.map D.int)), some (.ref h), v2, some (.lst (ds.map Dk.row)), some (.lst (ds.map (Dk.obj a))), some (.lst (ds.map fun d => .ref d.r)), v6, v7, none, none, none, none]) ?_ ?_
  · refine as_for (ai_rng1 ?_)
    repeat walk_at "st"
    refine ⟨rfl, rfl, h, c, _, rfl, A.R, by decide, by decide, fun r M2 r0 r1 R2 b2 => ?_⟩
    repeat walk_at "st"
    refine arl_lenL ?_
    repeat walk_at "st"
    refine arl_intB ?_
    repeat walk_at "st"
    refine ar_mul (.inl ⟨by decide, by decide⟩) ?_
    repeat walk_at "st"
    generalize hn : (8 + r + 16 * (if decide ((3 : Int) < ((ns.map D.int).length : Int)) = true then 1 else 0) : Int) = n
    have hn2 : 0 ≤ n ∧ n ≤ 32 := by
      rw [← hn]
      split <;> omega
    refine ⟨by omega, fun i Δ' M' => ∃ (ev : Nat → List Ev) (v6 v7 : Option D), All h c ds ev i M' ∧ Δ' = [some (.lst (ns.map D.int)), some (.ref h), v2, some (.lst (ds.map Dk.row)), some (.lst (ds.map (Dk.obj a))), some (.lst (ds.map fun d => .ref d.r)), v6, v7, none, none, none, none], ⟨_, _, _, A.draw R2 b2, rfl⟩, ?_, ?_⟩
    · rintro i d Δ' M' hx ⟨ev, v6, v7, A, rfl⟩
      obtain ⟨hi, rfl⟩ := rngD_get hx
      refine ag_name ?_
      repeat walk_at "st"
      refine ⟨rfl, rfl, h, c, _, rfl, A.R, by decide, by decide, fun x M2 x0 x1 R2 b2 => ?_⟩
      have A := A.draw R2 b2
      obtain ⟨d, hd⟩ : ∃ d, ds[x.toNat]? = some d := ⟨_, List.getElem?_eq_getElem (by omega)⟩
      obtain ⟨S, hel⟩ := A.st _ d hd
      obtain ⟨z1, z2, z3⟩ := A.sz d (List.mem_of_getElem? hd)
      repeat walk_at "st"
      refine ar_ix_L (ar_ixL (hget x0 hd) ?_)
      repeat walk_at "st"
      refine ar_ix_L (ar_ixL (hget x0 hd) ?_)
      repeat walk_at "st"
      refine ar_ix_L (ar_ixL (hget x0 hd) ?_)
      repeat walk_at "st"
      refine ⟨rfl, rfl, h, c, d.o, d.e, d.r, d.cs, ev x.toNat, rfl, S, by omega, z1, by omega, z3, fun evs' M3 hl S' b5 => ?_⟩
      have A := A.play hd hl S' b5
      refine ⟨_, rfl, ite3 (fun z => by cases z) fun _ => as_next ?_⟩
      repeat walk_at "st"
      refine ite3 (fun _ => ?_) (fun _ => as_next ⟨_, _, _, A, rfl⟩)
      repeat walk_at "st"
      refine ⟨rfl, rfl, h, c, _, rfl, A.R, by decide, by decide, fun y M4 y0 y1 R4 b4 => ?_⟩
      have A := A.draw R4 b4
      have S4 := (A.st _ d hd).1
      have hel4 := (A.st _ d hd).2
      simp only [if_pos] at S4 hel4
      repeat walk_at "st"
      refine ite3 (fun _ => ?_) (fun _ => as_next ⟨_, _, _, A, rfl⟩)
      repeat walk_at "st"
      refine ar_ix_L (ar_ixL (hget x0 hd) ?_)
      refine ⟨_, rfl, rfl, ?_⟩
      repeat walk_at "st"
      refine ⟨rfl, rfl, _, d.o, d.e, evs', rfl, S4.me, ?_⟩
      repeat walk_at "st"
      have hsho := sho_ev (by omega) S4.ok S4.bd
      refine arl_reprT (n := 1) goods_evs (by decide) hsho (by rw [List.length_map]; omega) ?_
      repeat walk_at "st"
      refine ar_ix_L (ar_ixL (hget x0 hd) ?_)
      repeat walk_at "st"
      refine arl_tupM S4.mr ?_
      repeat walk_at "st"
      refine arl_reprT (n := 1) goods_evs (by decide) hsho (by rw [List.length_map]; omega) ?_
      refine ar_neS ?_
      refine ⟨_, rfl, ite3 (fun z => by simp at z) fun _ => as_next ⟨_, _, _, A, rfl⟩⟩
    · rintro Δ' M' ⟨ev, v6, v7, A, rfl⟩
      rw [rngD_length] at A
      exact ⟨ev, v6, v7, A.more (by omega), rfl⟩
  rintro Δ' M' ⟨ev, v6, v7, A, rfl⟩
  -- the cuts
  refine as_seqP (fun Δ' M' => Rng h c M' ∧ ∃ (v3 v4 v5 v6 v7 v8 : Option D), Δ' = [some (.lst (ns.map D.int)), some (.ref h), v2, v3, v4, v5, v6, v7, v8, none, none, none]) ?_ ?_
  · refine as_for (ai_rng1 ?_)
    repeat walk_at "st"
    refine ⟨by decide, fun i Δ' M' => ∃ (v6 v7 v8 : Option D), All h c ds ev 40 M' ∧ Δ' = [some (.lst (ns.map D.int)), some (.ref h), v2, some (.lst (ds.map Dk.row)), some (.lst (ds.map (Dk.obj a))), some (.lst (ds.map fun d => .ref d.r)), v6, v7, v8, none, none, none], ⟨_, _, _, A, rfl⟩, ?_, ?_⟩
    · rintro i x Δ' M' hx ⟨v6, v7, v8, A, rfl⟩
      obtain ⟨hi, rfl⟩ := rngD_get hx
      have hi2 : i < 2 := hi
      generalize hxi : (0 + (i : Int)) = x
      have x0 : 0 ≤ x := by omega
      obtain ⟨d, hd⟩ : ∃ d, ds[x.toNat]? = some d := ⟨_, List.getElem?_eq_getElem (by omega)⟩
      obtain ⟨S, hel⟩ := A.st _ d hd
      obtain ⟨z1, z2, z3⟩ := A.sz d (List.mem_of_getElem? hd)
      have hsho := sho_ev z2 S.ok S.bd
      generalize hes : ev x.toNat = es at S hel hsho
      refine ag_name ?_
      repeat walk_at "st"
      refine ar_ix_L (ar_ixL (hget x0 hd) ?_)
      refine ⟨_, rfl, rfl, ?_⟩
      repeat walk_at "st"
      refine ⟨rfl, rfl, _, d.o, d.e, es, rfl, S.me, ?_⟩
      repeat walk_at "st"
      refine arl_reprT (n := 1) goods_evs (by decide) hsho (by rw [List.length_map]; omega) ?_
      repeat walk_at "st"
      refine ar_ix_L (ar_ixL (hget x0 hd) ?_)
      repeat walk_at "st"
      refine arl_tupM S.mr ?_
      repeat walk_at "st"
      refine arl_reprT (n := 1) goods_evs (by decide) hsho (by rw [List.length_map]; omega) ?_
      refine ar_neS ?_
      refine ⟨_, rfl, ite3 (fun z => by simp at z) fun _ => ?_⟩
      repeat walk_at "st"
      refine ae_fldO T.cl_Disk T.nf_Disk_cells ?_
      repeat walk_at "st"
      refine ar_ix_L (ar_ixL (hget x0 hd) ?_)
      refine ⟨_, _, rfl, rfl, ?_⟩
      repeat walk_at "st"
      refine ar_ix_L (ar_ixL (hget x0 hd) ?_)
      refine ar_neD (n := 1) (m := 1) goodT goodT (by decide) (by decide) ?_
      rw [show eqD (.tup (d.cs.map D.int)) d.row = true from eqD_self (n := 1) goodT]
      refine ⟨_, rfl, ite3 (fun z => by cases z) fun _ => as_next ?_⟩
      -- three cuts
      refine as_seqP (fun Δ' M' => ∃ (v6 : Option D), All h c ds ev 40 M' ∧ Δ' = [some (.lst (ns.map D.int)), some (.ref h), v2, some (.lst (ds.map Dk.row)), some (.lst (ds.map (Dk.obj a))), some (.lst (ds.map fun d => .ref d.r)), v6, some (.int x), some (.tup (es.map evD)), none, none, none]) ?_ ?_
      · refine as_for (ai_rng1 ?_)
        repeat walk_at "st"
        refine ⟨by decide, fun _ Δ' M' => ∃ (v6 : Option D), All h c ds ev 40 M' ∧ Δ' = [some (.lst (ns.map D.int)), some (.ref h), v2, some (.lst (ds.map Dk.row)), some (.lst (ds.map (Dk.obj a))), some (.lst (ds.map fun d => .ref d.r)), v6, some (.int x), some (.tup (es.map evD)), none, none, none], ⟨_, A, rfl⟩, ?_, ?_⟩
        · rintro j y Δ' M' hy ⟨v6, A, rfl⟩
          refine ag_name ?_
          repeat walk_at "st"
          refine ar_ix_L (ar_ixL (hget x0 hd) ?_)
          refine aa_cons (ae_slT ?_)
          repeat walk_at "st"
          refine ao_none (ao_some ?_)
          repeat walk_at "st"
          refine ae_lst ?_
          repeat walk_at "st"
          refine arl_lenT ?_
          repeat walk_at "st"
          rw [List.length_map]
          refine ⟨rfl, rfl, h, c, _, rfl, A.R, by omega, by omega, fun r M2 r0 r1 R2 b2 => ?_⟩
          repeat walk_at "st"
          refine arl_lenT ?_
          repeat walk_at "st"
          rw [List.length_map]
          refine ⟨by simp, ?_⟩
          repeat walk_at "st"
          refine ⟨rfl, rfl, h, c, _, rfl, R2, by simp, by simp, fun q M3 hq R3 b3 => ?_⟩
          have hqv : ∃ k : Int, q = .int k ∧ 0 ≤ k := by
            simp only [List.mem_cons, List.mem_nil_iff, or_false] at hq
            rcases hq with rfl | rfl
            · exact ⟨_, rfl, r0⟩
            · exact ⟨_, rfl, by omega⟩
          obtain ⟨kq, rfl, kq0⟩ := hqv
          refine ⟨kq, rfl, ?_⟩
          rw [cut_to kq0, ← List.map_take]
          have A := (A.draw R2 b2).draw R3 b3
          repeat walk_at "st"
          refine ⟨rfl, rfl, h, c, d.cs, es.take kq.toNat, rfl, A.R, by rw [List.length_take]; omega, by omega, z3, S.ok.take, S.bd.take, fun M4 R4 b4 => ?_⟩
          refine ⟨_, rfl, ite3 (fun z => by cases z) fun _ => as_next ⟨_, A.draw R4 b4, rfl⟩⟩
        · rintro Δ' M' ⟨v6, A, rfl⟩
          exact ⟨v6, A, rfl⟩
      rintro Δ' M' ⟨v6, A, rfl⟩
      obtain ⟨S, _⟩ := A.st _ d hd
      rw [hes] at S
      have hup : ∀ j : Nat, j < d.cs.length → (updE d.cs es)[j]? = some (last es j ((d.cs[j]?).getD 0)) := fun j hj => by
        have hc : d.cs[j]? = some d.cs[j] := List.getElem?_eq_getElem hj
        rw [hc]
        exact updE_at es d.cs _ S.ok hc
      repeat walk_at "st"
      refine ae_lcR (ai_rng1 ?_)
      repeat walk_at "st"
      refine ar_ix_L (ar_ixL (hget x0 hd) ?_)
      repeat walk_at "st"
      refine arl_lenT ?_
      repeat walk_at "st"
      rw [List.length_map]
      refine ⟨by omega, by rw [rngD_length]; omega, fun y => .int (last es (iv y) ((d.cs[(iv y).toNat]?).getD 0)), fun j y acc p hy hp => ?_, ?_⟩
      · obtain ⟨hj, rfl⟩ := rngD_get hy
        have hj2 : j < d.cs.length := by omega
        have hz : (0 + (j : Int)) = (j : Int) := by omega
        rw [hz]
        have op : d.o ≠ p := fun z => by rw [← z, S.mo] at hp; cases hp
        refine agc_name (by decide) ⟨rfl, ?_⟩
        repeat walk_at "st"
        refine ar_ix_L (ar_ixL (hget x0 hd) ?_)
        refine ⟨_, rfl, rfl, ?_⟩
        repeat walk_at "st"
        exact ⟨rfl, rfl, _, d.o, d.e, _, (j : Int), _, rfl, (Mem.set_ne op).trans S.mo, by omega, by rw [Int.toNat_natCast]; exact hup j hj2, rfl, rfl⟩
      · repeat walk_at "st"
        refine ae_lcR (ai_rng1 ?_)
        repeat walk_at "st"
        refine ar_ix_L (ar_ixL (hget x0 hd) ?_)
        repeat walk_at "st"
        refine arl_lenT ?_
        repeat walk_at "st"
        rw [List.length_map]
        refine ⟨by omega, by rw [rngD_length]; omega, fun y => .int (last es (iv y) ((d.cs[(iv y).toNat]?).getD 0)), fun j y acc p hy hp => ?_, ?_⟩
        · obtain ⟨hj, rfl⟩ := rngD_get hy
          have hj2 : j < d.cs.length := by omega
          have hz : (0 + (j : Int)) = (j : Int) := by omega
          rw [hz]
          have hc : d.cs[j]? = some d.cs[j] := List.getElem?_eq_getElem hj2
          refine agc_name (by decide) ⟨rfl, ?_⟩
          repeat walk_at "st"
          refine ar_ix_L (ar_ixL (hget x0 hd) ?_)
          repeat walk_at "st"
          refine ar_ix_T (ar_ixT (atI_at (by rw [List.getElem?_map, hc]; rfl)) ?_)
          repeat walk_at "st"
          refine ⟨rfl, rfl, _, es, (j : Int), d.cs[j], rfl, .inl rfl, by omega, ?_, rfl⟩
          show D.int _ = D.int (last es (j : Int) ((d.cs[(j : Int).toNat]?).getD 0))
          rw [Int.toNat_natCast, hc]
          rfl
        · have hg : good 1 (.lst ((rngD 0 (d.cs.length : Int).toNat).map fun y => D.int (last es (iv y) ((d.cs[(iv y).toNat]?).getD 0)))) = true := by
            show goods 0 _ = true
            exact goods_all fun d hd => by
              obtain ⟨y, _, rfl⟩ := List.mem_map.mp hd
              rfl
          refine ar_neD (n := 1) (m := 1) hg hg (by decide) (by decide) ?_
          rw [eqD_self (n := 1) hg]
          refine ⟨_, rfl, ite3 (fun z => by cases z) fun _ => as_next ⟨_, _, _, A, rfl⟩⟩
    · rintro Δ' M' ⟨v6, v7, v8, A, rfl⟩
      exact ⟨A.R, _, _, _, _, _, _, rfl⟩
  rintro Δ' M' ⟨R', v3, v4, v5, v6', v7', v8, rfl⟩
  -- the odds
  refine as_seqP (fun Δ' M' => True) ?_ ?_
  · repeat walk_at "st"
    refine ⟨rfl, rfl, h, c, rfl, R', fun M2 R2 => ?_⟩
    refine ⟨_, rfl, ite3 (fun z => by cases z) fun _ => ?_⟩
    repeat walk_at "st"
    refine arl_lenL ?_
    repeat walk_at "st"
    refine ite3 (fun _ => ?_) (fun _ => as_next trivial)
    repeat walk_at "st"
    refine ⟨rfl, rfl, h, c, _, rfl, R2, by decide, by decide, fun r M3 r0 r1 R3 b3 => ?_⟩
    repeat walk_at "st"
    refine ite3 (fun _ => ?_) (fun _ => as_next trivial)
    repeat walk_at "st"
    refine ⟨rfl, rfl, h, c, rfl, R3, fun M4 => ?_⟩
    exact ⟨_, rfl, ite3 (fun z => by cases z) fun _ => as_next trivial⟩
  rintro Δ' M' -
  refine as_seqP (fun Δ' M' => True) ?_ ?_
  · repeat walk_at "st"
    refine ae_tup (aa_nil ⟨by simp, ?_⟩)
    repeat walk_at "st"
    refine ⟨rfl, rfl, [], rfl, by decide, ?_⟩
    refine ae_tup (aa_nil ⟨by simp, ?_⟩)
    refine ar_neD (x := .tup []) (y := .tup []) (n := 1) (m := 1) rfl rfl (by decide) (by decide) ?_
    refine ⟨false, rfl, ite3 (fun z => by cases z) fun _ => ?_⟩
    repeat first | walk_at "st" | with_reducible refine ae_tup ?_ | (refine ⟨by simp; done, ?_⟩)
    refine ⟨[some (3, 1), none, some (4, 0), some (2, 9), some (4, 7)], rfl, by decide, ?_⟩
    repeat first | walk_at "st" | with_reducible refine ae_tup ?_ | (refine ⟨by simp; done, ?_⟩)
    refine ar_neD (x := .tup [.int 2, .int 4]) (y := .tup [.int 2, .int 4]) (n := 1) (m := 1) rfl rfl (by decide) (by decide) ?_
    exact ⟨false, rfl, ite3 (fun z => by cases z) fun _ => as_next trivial⟩
  rintro Δ' M' -
  repeat first | walk_at "st" | with_reducible refine ae_tup ?_ | (refine ⟨by simp; done, ?_⟩)
  refine ⟨[5, 6, 7, 8], [77, 0], [some (1, 9), some (0, 4), none, some (2, 3), some (0, 2)], rfl, by decide, by decide, ?_, by decide, ?_⟩
  · intro x o hx
    simp only [List.mem_cons, List.mem_nil_iff, or_false, Option.some.injEq, Prod.mk.injEq, reduceCtorEq, false_or] at hx
    rcases hx with ⟨rfl, rfl⟩ | ⟨rfl, rfl⟩ | ⟨rfl, rfl⟩ | ⟨rfl, rfl⟩ <;> exact ⟨by decide, by decide⟩
  · repeat first | walk_at "st" | with_reducible refine ae_tup ?_ | (refine ⟨by simp; done, ?_⟩)
    refine ar_eqD (x := .tup [.int 77, .int 9, .int 0, .int 8]) (y := .tup [.int 77, .int 9, .int 0, .int 8]) (n := 1) (m := 1) rfl rfl (by decide) (by decide) ?_
    exact k _
end
end K59
namespace K59
open PySem PySem.Spec PyProof.Rows L2 RZ T2
abbrev s_Refused___init__ : Stmt := inClass (top 3) 0
theorem xt_of_Refused : XTxt s_Refused___init__ "word" := ⟨⟨_, _, rfl⟩, ⟨_, _, _, _, _, _, _, _, _, _, _, _, rfl, rfl⟩, rfl, rfl, rfl, rfl, by decide, by decide, by decide, fun _ _ _ _ _ _ _ _ _ _ _ _ _ => rfl⟩
theorem all_mk {w : World} {K : PySem.W.Frag} {h : Heap} {mg : Str → Option Value} {fa : Addr} (X : K.In h) (G : h.Ns mainGlobals mg) (hfa : mg "law" = some (.ref fa))
    {C_DeskError C_InvalidNumber C_Refused C_Broken C_Disk f_is_integer f_is_number f_is_octet f_Disk___init__ f_Disk_look f_Disk_put f_Disk_flush f_Disk_events f_pending_places f_cut_cells f__law_heap f__law_draw f__law_pick f__law_octet f__law_last f__law_pending f__law_cut_right f__law_play f__law_odds_right f__law_great_right f_law N_Refused_ f_Refused___init__ cda_Refused cc_Refused : Addr}
    {od_is_integer an_is_integer od_is_number an_is_number od_is_octet an_is_octet od_Disk___init__ an_Disk___init__ od_Disk_look an_Disk_look od_Disk_put an_Disk_put od_Disk_flush an_Disk_flush od_Disk_events an_Disk_events od_pending_places an_pending_places od_cut_cells an_cut_cells od__law_heap an__law_heap od__law_draw an__law_draw od__law_pick an__law_pick od__law_octet an__law_octet od__law_last an__law_last od__law_pending an__law_pending od__law_cut_right an__law_cut_right od__law_play an__law_play od__law_odds_right an__law_odds_right od__law_great_right an__law_great_right od_law an_law dd_Refused xod_Refused xan_Refused cdd_Refused cld_Refused : Option Addr}
    {sl_is_integer sl_is_number sl_is_octet sl_Disk___init__ sl_Disk_look sl_Disk_put sl_Disk_flush sl_Disk_events sl_pending_places sl_cut_cells sl__law_heap sl__law_draw sl__law_pick sl__law_octet sl__law_last sl__law_pending sl__law_cut_right sl__law_play sl__law_odds_right sl__law_great_right sl_law xsl_Refused ccs_Refused csl_Refused : Array (Option Value)}
    {oc_is_integer kV_is_integer dc_is_integer pm_is_integer cd_is_integer ct_is_integer oc_is_number kV_is_number dc_is_number pm_is_number cd_is_number ct_is_number oc_is_octet kV_is_octet dc_is_octet pm_is_octet cd_is_octet ct_is_octet oc_Disk___init__ kV_Disk___init__ dc_Disk___init__ pm_Disk___init__ cd_Disk___init__ ct_Disk___init__ oc_Disk_look kV_Disk_look dc_Disk_look pm_Disk_look cd_Disk_look ct_Disk_look oc_Disk_put kV_Disk_put dc_Disk_put pm_Disk_put cd_Disk_put ct_Disk_put oc_Disk_flush kV_Disk_flush dc_Disk_flush pm_Disk_flush cd_Disk_flush ct_Disk_flush oc_Disk_events kV_Disk_events dc_Disk_events pm_Disk_events cd_Disk_events ct_Disk_events oc_pending_places kV_pending_places dc_pending_places pm_pending_places cd_pending_places ct_pending_places oc_cut_cells kV_cut_cells dc_cut_cells pm_cut_cells cd_cut_cells ct_cut_cells oc__law_heap kV__law_heap dc__law_heap pm__law_heap cd__law_heap ct__law_heap oc__law_draw kV__law_draw dc__law_draw pm__law_draw cd__law_draw ct__law_draw oc__law_pick kV__law_pick dc__law_pick pm__law_pick cd__law_pick ct__law_pick oc__law_octet kV__law_octet dc__law_octet pm__law_octet cd__law_octet ct__law_octet oc__law_last kV__law_last dc__law_last pm__law_last cd__law_last ct__law_last oc__law_pending kV__law_pending dc__law_pending pm__law_pending cd__law_pending ct__law_pending oc__law_cut_right kV__law_cut_right dc__law_cut_right pm__law_cut_right cd__law_cut_right ct__law_cut_right oc__law_play kV__law_play dc__law_play pm__law_play cd__law_play ct__law_play oc__law_odds_right kV__law_odds_right dc__law_odds_right pm__law_odds_right cd__law_odds_right ct__law_odds_right oc__law_great_right kV__law_great_right dc__law_great_right pm__law_great_right cd__law_great_right ct__law_great_right oc_law kV_law dc_law pm_law cd_law ct_law xoc_Refused ccl_Refused cl_Refused xkV_Refused xdc_Refused xpm_Refused xct_Refused : Value}
    {t_MOST_CELLS t_OCTETS tf_Refused : Tok}
    {nm_Refused qn_Refused fi_Refused : Str}
    {bs_Refused bm_Refused sub_Refused : List Value}
    {sn_Refused : List Str}
    {ab_Refused : Bool}
    {col_Refused : Option Bool}
    {k0_Refused k1_Refused k2_Refused k3_Refused k5_Refused : Option Value}
    {vs_Refused : Array Value}
    (aC_DeskError : PySem.W.nsIn K mainGlobals "DeskError" = some (some (.ref C_DeskError)))
    (aC_InvalidNumber : PySem.W.nsIn K mainGlobals "InvalidNumber" = some (some (.ref C_InvalidNumber)))
    (aC_Refused : PySem.W.nsIn K mainGlobals "Refused" = some (some (.ref C_Refused)))
    (aC_Broken : PySem.W.nsIn K mainGlobals "Broken" = some (some (.ref C_Broken)))
    (aC_Disk : PySem.W.nsIn K mainGlobals "Disk" = some (some (.ref C_Disk)))
    (ac_MOST_CELLS : PySem.W.nsIn K mainGlobals "MOST_CELLS" = some (some (.int 20000 t_MOST_CELLS)))
    (ac_OCTETS : PySem.W.nsIn K mainGlobals "OCTETS" = some (some (.int 256 t_OCTETS)))
    (nn_abs : PySem.W.nsIn K mainGlobals "abs" = some none)
    (nn_all : PySem.W.nsIn K mainGlobals "all" = some none)
    (nn_bool : PySem.W.nsIn K mainGlobals "bool" = some none)
    (nn_int : PySem.W.nsIn K mainGlobals "int" = some none)
    (nn_isinstance : PySem.W.nsIn K mainGlobals "isinstance" = some none)
    (nn_len : PySem.W.nsIn K mainGlobals "len" = some none)
    (nn_list : PySem.W.nsIn K mainGlobals "list" = some none)
    (nn_range : PySem.W.nsIn K mainGlobals "range" = some none)
    (nn_repr : PySem.W.nsIn K mainGlobals "repr" = some none)
    (nn_set : PySem.W.nsIn K mainGlobals "set" = some none)
    (nn_sorted : PySem.W.nsIn K mainGlobals "sorted" = some none)
    (nn_tuple : PySem.W.nsIn K mainGlobals "tuple" = some none)
    (nn_zip : PySem.W.nsIn K mainGlobals "zip" = some none)
    (at_is_integer : PySem.W.nsIn K mainGlobals "is_integer" = some (some (.ref f_is_integer)))
    (l_is_integer : K.lookup f_is_integer = some ⟨oc_is_integer, od_is_integer, .func (PySem.W.fnOf "is_integer" "is_integer" (defArgs s_is_integer) (defBody s_is_integer) (defScope s_is_integer) .none kV_is_integer dc_is_integer pm_is_integer an_is_integer cd_is_integer ct_is_integer), sl_is_integer⟩)
    (c_is_integer : PySem.W.codeIn K cd_is_integer "is_integer" = true)
    (k_is_integer : PySem.W.keepIn K (.ref f_is_integer) = true)
    (at_is_number : PySem.W.nsIn K mainGlobals "is_number" = some (some (.ref f_is_number)))
    (l_is_number : K.lookup f_is_number = some ⟨oc_is_number, od_is_number, .func (PySem.W.fnOf "is_number" "is_number" (defArgs s_is_number) (defBody s_is_number) (defScope s_is_number) .none kV_is_number dc_is_number pm_is_number an_is_number cd_is_number ct_is_number), sl_is_number⟩)
    (c_is_number : PySem.W.codeIn K cd_is_number "is_number" = true)
    (k_is_number : PySem.W.keepIn K (.ref f_is_number) = true)
    (at_is_octet : PySem.W.nsIn K mainGlobals "is_octet" = some (some (.ref f_is_octet)))
    (l_is_octet : K.lookup f_is_octet = some ⟨oc_is_octet, od_is_octet, .func (PySem.W.fnOf "is_octet" "is_octet" (defArgs s_is_octet) (defBody s_is_octet) (defScope s_is_octet) .none kV_is_octet dc_is_octet pm_is_octet an_is_octet cd_is_octet ct_is_octet), sl_is_octet⟩)
    (c_is_octet : PySem.W.codeIn K cd_is_octet "is_octet" = true)
    (k_is_octet : PySem.W.keepIn K (.ref f_is_octet) = true)
    (at_Disk___init__ : PySem.W.findIn K (.ref C_Disk) "__init__" = some (some (.ref f_Disk___init__)))
    (i_Disk___init__ : PySem.W.isFn K (.ref f_Disk___init__) = true)
    (l_Disk___init__ : K.lookup f_Disk___init__ = some ⟨oc_Disk___init__, od_Disk___init__, .func (PySem.W.fnOf "__init__" "Disk.__init__" (defArgs s_Disk___init__) (defBody s_Disk___init__) (defScope s_Disk___init__) .none kV_Disk___init__ dc_Disk___init__ pm_Disk___init__ an_Disk___init__ cd_Disk___init__ ct_Disk___init__), sl_Disk___init__⟩)
    (c_Disk___init__ : PySem.W.codeIn K cd_Disk___init__ "Disk.__init__" = true)
    (k_Disk___init__ : PySem.W.keepIn K (.ref f_Disk___init__) = true)
    (at_Disk_look : PySem.W.findIn K (.ref C_Disk) "look" = some (some (.ref f_Disk_look)))
    (i_Disk_look : PySem.W.isFn K (.ref f_Disk_look) = true)
    (l_Disk_look : K.lookup f_Disk_look = some ⟨oc_Disk_look, od_Disk_look, .func (PySem.W.fnOf "look" "Disk.look" (defArgs s_Disk_look) (defBody s_Disk_look) (defScope s_Disk_look) .none kV_Disk_look dc_Disk_look pm_Disk_look an_Disk_look cd_Disk_look ct_Disk_look), sl_Disk_look⟩)
    (c_Disk_look : PySem.W.codeIn K cd_Disk_look "Disk.look" = true)
    (k_Disk_look : PySem.W.keepIn K (.ref f_Disk_look) = true)
    (at_Disk_put : PySem.W.findIn K (.ref C_Disk) "put" = some (some (.ref f_Disk_put)))
    (i_Disk_put : PySem.W.isFn K (.ref f_Disk_put) = true)
    (l_Disk_put : K.lookup f_Disk_put = some ⟨oc_Disk_put, od_Disk_put, .func (PySem.W.fnOf "put" "Disk.put" (defArgs s_Disk_put) (defBody s_Disk_put) (defScope s_Disk_put) .none kV_Disk_put dc_Disk_put pm_Disk_put an_Disk_put cd_Disk_put ct_Disk_put), sl_Disk_put⟩)
    (c_Disk_put : PySem.W.codeIn K cd_Disk_put "Disk.put" = true)
    (k_Disk_put : PySem.W.keepIn K (.ref f_Disk_put) = true)
    (at_Disk_flush : PySem.W.findIn K (.ref C_Disk) "flush" = some (some (.ref f_Disk_flush)))
    (i_Disk_flush : PySem.W.isFn K (.ref f_Disk_flush) = true)
    (l_Disk_flush : K.lookup f_Disk_flush = some ⟨oc_Disk_flush, od_Disk_flush, .func (PySem.W.fnOf "flush" "Disk.flush" (defArgs s_Disk_flush) (defBody s_Disk_flush) (defScope s_Disk_flush) .none kV_Disk_flush dc_Disk_flush pm_Disk_flush an_Disk_flush cd_Disk_flush ct_Disk_flush), sl_Disk_flush⟩)
    (c_Disk_flush : PySem.W.codeIn K cd_Disk_flush "Disk.flush" = true)
    (k_Disk_flush : PySem.W.keepIn K (.ref f_Disk_flush) = true)
    (at_Disk_events : PySem.W.findIn K (.ref C_Disk) "events" = some (some (.ref f_Disk_events)))
    (i_Disk_events : PySem.W.isFn K (.ref f_Disk_events) = true)
    (l_Disk_events : K.lookup f_Disk_events = some ⟨oc_Disk_events, od_Disk_events, .func (PySem.W.fnOf "events" "Disk.events" (defArgs s_Disk_events) (defBody s_Disk_events) (defScope s_Disk_events) .none kV_Disk_events dc_Disk_events pm_Disk_events an_Disk_events cd_Disk_events ct_Disk_events), sl_Disk_events⟩)
    (c_Disk_events : PySem.W.codeIn K cd_Disk_events "Disk.events" = true)
    (k_Disk_events : PySem.W.keepIn K (.ref f_Disk_events) = true)
    (at_pending_places : PySem.W.nsIn K mainGlobals "pending_places" = some (some (.ref f_pending_places)))
    (l_pending_places : K.lookup f_pending_places = some ⟨oc_pending_places, od_pending_places, .func (PySem.W.fnOf "pending_places" "pending_places" (defArgs s_pending_places) (defBody s_pending_places) (defScope s_pending_places) .none kV_pending_places dc_pending_places pm_pending_places an_pending_places cd_pending_places ct_pending_places), sl_pending_places⟩)
    (c_pending_places : PySem.W.codeIn K cd_pending_places "pending_places" = true)
    (k_pending_places : PySem.W.keepIn K (.ref f_pending_places) = true)
    (at_cut_cells : PySem.W.nsIn K mainGlobals "cut_cells" = some (some (.ref f_cut_cells)))
    (l_cut_cells : K.lookup f_cut_cells = some ⟨oc_cut_cells, od_cut_cells, .func (PySem.W.fnOf "cut_cells" "cut_cells" (defArgs s_cut_cells) (defBody s_cut_cells) (defScope s_cut_cells) .none kV_cut_cells dc_cut_cells pm_cut_cells an_cut_cells cd_cut_cells ct_cut_cells), sl_cut_cells⟩)
    (c_cut_cells : PySem.W.codeIn K cd_cut_cells "cut_cells" = true)
    (k_cut_cells : PySem.W.keepIn K (.ref f_cut_cells) = true)
    (at__law_heap : PySem.W.nsIn K mainGlobals "_law_heap" = some (some (.ref f__law_heap)))
    (l__law_heap : K.lookup f__law_heap = some ⟨oc__law_heap, od__law_heap, .func (PySem.W.fnOf "_law_heap" "_law_heap" (defArgs s__law_heap) (defBody s__law_heap) (defScope s__law_heap) .none kV__law_heap dc__law_heap pm__law_heap an__law_heap cd__law_heap ct__law_heap), sl__law_heap⟩)
    (c__law_heap : PySem.W.codeIn K cd__law_heap "_law_heap" = true)
    (k__law_heap : PySem.W.keepIn K (.ref f__law_heap) = true)
    (at__law_draw : PySem.W.nsIn K mainGlobals "_law_draw" = some (some (.ref f__law_draw)))
    (l__law_draw : K.lookup f__law_draw = some ⟨oc__law_draw, od__law_draw, .func (PySem.W.fnOf "_law_draw" "_law_draw" (defArgs s__law_draw) (defBody s__law_draw) (defScope s__law_draw) .none kV__law_draw dc__law_draw pm__law_draw an__law_draw cd__law_draw ct__law_draw), sl__law_draw⟩)
    (c__law_draw : PySem.W.codeIn K cd__law_draw "_law_draw" = true)
    (k__law_draw : PySem.W.keepIn K (.ref f__law_draw) = true)
    (at__law_pick : PySem.W.nsIn K mainGlobals "_law_pick" = some (some (.ref f__law_pick)))
    (l__law_pick : K.lookup f__law_pick = some ⟨oc__law_pick, od__law_pick, .func (PySem.W.fnOf "_law_pick" "_law_pick" (defArgs s__law_pick) (defBody s__law_pick) (defScope s__law_pick) .none kV__law_pick dc__law_pick pm__law_pick an__law_pick cd__law_pick ct__law_pick), sl__law_pick⟩)
    (c__law_pick : PySem.W.codeIn K cd__law_pick "_law_pick" = true)
    (k__law_pick : PySem.W.keepIn K (.ref f__law_pick) = true)
    (at__law_octet : PySem.W.nsIn K mainGlobals "_law_octet" = some (some (.ref f__law_octet)))
    (l__law_octet : K.lookup f__law_octet = some ⟨oc__law_octet, od__law_octet, .func (PySem.W.fnOf "_law_octet" "_law_octet" (defArgs s__law_octet) (defBody s__law_octet) (defScope s__law_octet) .none kV__law_octet dc__law_octet pm__law_octet an__law_octet cd__law_octet ct__law_octet), sl__law_octet⟩)
    (c__law_octet : PySem.W.codeIn K cd__law_octet "_law_octet" = true)
    (k__law_octet : PySem.W.keepIn K (.ref f__law_octet) = true)
    (at__law_last : PySem.W.nsIn K mainGlobals "_law_last" = some (some (.ref f__law_last)))
    (l__law_last : K.lookup f__law_last = some ⟨oc__law_last, od__law_last, .func (PySem.W.fnOf "_law_last" "_law_last" (defArgs s__law_last) (defBody s__law_last) (defScope s__law_last) .none kV__law_last dc__law_last pm__law_last an__law_last cd__law_last ct__law_last), sl__law_last⟩)
    (c__law_last : PySem.W.codeIn K cd__law_last "_law_last" = true)
    (k__law_last : PySem.W.keepIn K (.ref f__law_last) = true)
    (at__law_pending : PySem.W.nsIn K mainGlobals "_law_pending" = some (some (.ref f__law_pending)))
    (l__law_pending : K.lookup f__law_pending = some ⟨oc__law_pending, od__law_pending, .func (PySem.W.fnOf "_law_pending" "_law_pending" (defArgs s__law_pending) (defBody s__law_pending) (defScope s__law_pending) .none kV__law_pending dc__law_pending pm__law_pending an__law_pending cd__law_pending ct__law_pending), sl__law_pending⟩)
    (c__law_pending : PySem.W.codeIn K cd__law_pending "_law_pending" = true)
    (k__law_pending : PySem.W.keepIn K (.ref f__law_pending) = true)
    (at__law_cut_right : PySem.W.nsIn K mainGlobals "_law_cut_right" = some (some (.ref f__law_cut_right)))
    (l__law_cut_right : K.lookup f__law_cut_right = some ⟨oc__law_cut_right, od__law_cut_right, .func (PySem.W.fnOf "_law_cut_right" "_law_cut_right" (defArgs s__law_cut_right) (defBody s__law_cut_right) (defScope s__law_cut_right) .none kV__law_cut_right dc__law_cut_right pm__law_cut_right an__law_cut_right cd__law_cut_right ct__law_cut_right), sl__law_cut_right⟩)
    (c__law_cut_right : PySem.W.codeIn K cd__law_cut_right "_law_cut_right" = true)
    (k__law_cut_right : PySem.W.keepIn K (.ref f__law_cut_right) = true)
    (at__law_play : PySem.W.nsIn K mainGlobals "_law_play" = some (some (.ref f__law_play)))
    (l__law_play : K.lookup f__law_play = some ⟨oc__law_play, od__law_play, .func (PySem.W.fnOf "_law_play" "_law_play" (defArgs s__law_play) (defBody s__law_play) (defScope s__law_play) .none kV__law_play dc__law_play pm__law_play an__law_play cd__law_play ct__law_play), sl__law_play⟩)
    (c__law_play : PySem.W.codeIn K cd__law_play "_law_play" = true)
    (k__law_play : PySem.W.keepIn K (.ref f__law_play) = true)
    (at__law_odds_right : PySem.W.nsIn K mainGlobals "_law_odds_right" = some (some (.ref f__law_odds_right)))
    (l__law_odds_right : K.lookup f__law_odds_right = some ⟨oc__law_odds_right, od__law_odds_right, .func (PySem.W.fnOf "_law_odds_right" "_law_odds_right" (defArgs s__law_odds_right) (defBody s__law_odds_right) (defScope s__law_odds_right) .none kV__law_odds_right dc__law_odds_right pm__law_odds_right an__law_odds_right cd__law_odds_right ct__law_odds_right), sl__law_odds_right⟩)
    (c__law_odds_right : PySem.W.codeIn K cd__law_odds_right "_law_odds_right" = true)
    (k__law_odds_right : PySem.W.keepIn K (.ref f__law_odds_right) = true)
    (at__law_great_right : PySem.W.nsIn K mainGlobals "_law_great_right" = some (some (.ref f__law_great_right)))
    (l__law_great_right : K.lookup f__law_great_right = some ⟨oc__law_great_right, od__law_great_right, .func (PySem.W.fnOf "_law_great_right" "_law_great_right" (defArgs s__law_great_right) (defBody s__law_great_right) (defScope s__law_great_right) .none kV__law_great_right dc__law_great_right pm__law_great_right an__law_great_right cd__law_great_right ct__law_great_right), sl__law_great_right⟩)
    (c__law_great_right : PySem.W.codeIn K cd__law_great_right "_law_great_right" = true)
    (k__law_great_right : PySem.W.keepIn K (.ref f__law_great_right) = true)
    (at_law : PySem.W.nsIn K mainGlobals "law" = some (some (.ref f_law)))
    (l_law : K.lookup f_law = some ⟨oc_law, od_law, .func (PySem.W.fnOf "law" "law" (defArgs s_law) (defBody s_law) (defScope s_law) .none kV_law dc_law pm_law an_law cd_law ct_law), sl_law⟩)
    (c_law : PySem.W.codeIn K cd_law "law" = true)
    (k_law : PySem.W.keepIn K (.ref f_law) = true)
    (pg_Disk : PySem.W.plainGet K C_Disk Str.empty = true)
    (hd_Disk : PySem.W.hasDictIn K C_Disk = true)
    (po_Disk : PySem.W.plainOver K C_Disk = true)
    (sa_Disk : PySem.W.findIn K (.ref C_Disk) "__setattr__" = some (some (.builtin "object.__setattr__")))
    (mk_Disk : PySem.W.makesIn K C_Disk = true)
    (kc_Disk : PySem.W.keepIn K (.ref C_Disk) = true)
    (nf_Disk_cells : PySem.W.findIn K (.ref C_Disk) "cells" = some none)
    (nf_Disk__octets : PySem.W.findIn K (.ref C_Disk) "_octets" = some none)
    (nf_Disk__events : PySem.W.findIn K (.ref C_Disk) "_events" = some none)
    (op : PySem.W.nsIn K cStatics "thirdparty.any" = some none)
    (sup : PySem.W.nsIn K mainGlobals "super" = some none)
    (gn : PySem.W.specialIn K (.builtin "object.__class__") "__get__" = some (some (.builtin "getset_descriptor.__get__")))
    (gt : PySem.W.takesIn K (.builtin "object.__class__") = some true)
    (xl_Refused : K.lookup C_Refused = some (excClassObj nm_Refused qn_Refused C_Refused N_Refused_ bs_Refused bm_Refused true sn_Refused sub_Refused ab_Refused col_Refused dd_Refused k0_Refused k1_Refused k2_Refused k3_Refused k5_Refused "ValueError.__new__"))
    (xr_Refused : PySem.HandSPX.refsVE bm_Refused = true)
    (xa_Refused : PySem.W.alongIn K "__init__" bm_Refused = some (some (.builtin "ValueError.__init__")))
    (xs_Refused : PySem.W.findIn K (.ref C_Refused) "__setattr__" = some (some (.builtin "object.__setattr__")))
    (xno_Refused : PySem.W.findIn K (.ref C_Refused) "word" = some none)
    (xi_Refused : PySem.W.findIn K (.ref C_Refused) "__init__" = some (some (.ref f_Refused___init__)))
    (xt_Refused : PySem.W.typeIn K (.ref f_Refused___init__) = some (.type "function"))
    (xk_Refused : PySem.W.keepIn K (.ref C_Refused) = true)
    (xe_Refused : PySem.W.subIn K (.ref C_Refused) (.type "BaseException") = some true)
    (xv_Refused : PySem.W.subIn K (.ref C_Refused) (.type "ValueError") = some true)
    (xy_Refused : PySem.W.typeIn K (.ref C_Refused) = some (.type "type"))
    (xf_Refused : K.lookup f_Refused___init__ = some ⟨xoc_Refused, xod_Refused, .func (PySem.W.ksFn "__init__" "Refused.__init__" (defArgs s_Refused___init__) (defBody s_Refused___init__) (defScope s_Refused___init__) .none xkV_Refused xdc_Refused xpm_Refused xan_Refused (.ref cda_Refused) xct_Refused cc_Refused), xsl_Refused⟩)
    (xc_Refused : PySem.W.codeIn K (.ref cda_Refused) "Refused.__init__" = true)
    (xd_Refused : K.lookup cda_Refused = some ⟨ccl_Refused, cdd_Refused, .fields vs_Refused, ccs_Refused⟩)
    (xw_Refused : vs_Refused[2]? = some (.str fi_Refused tf_Refused))
    (xz_Refused : ((PySem.Challenge.pw_neverregret_k59_whole_disks_and_cuts.main.file : Str) == fi_Refused) = true)
    (xq_Refused : K.lookup cc_Refused = some ⟨cl_Refused, cld_Refused, .cell (some (.ref C_Refused)), csl_Refused⟩)
    (xg_Refused : PySem.W.findIn K (.ref C_Refused) "__getattribute__" = some (some (.builtin "BaseException.__getattribute__")))
    (xgg_Refused : PySem.W.findIn K (.ref C_Refused) "__getattr__" = some none)
    (xh_Refused : PySem.W.hasDictIn K C_Refused = true)
    (xha_Refused : PySem.W.findIn K (.ref C_Refused) "__class__" = some (some (.builtin "object.__class__")))
    (xm_Refused : PySem.W.mroIn K C_Refused (.type "object") = some true)
    (ex_Refused_DeskError : PySem.W.subIn K (.ref C_Refused) (.ref C_DeskError) = some true)
    (ex_Refused_Refused : PySem.W.subIn K (.ref C_Refused) (.ref C_Refused) = some true)
    (kt_Refused_Broken : PySem.W.kitOne K (.ref C_Refused) (.ref C_Broken) = some false)
    (kt_Refused_InvalidNumber : PySem.W.kitOne K (.ref C_Refused) (.ref C_InvalidNumber) = some false)
    (kt_Refused_Refused : PySem.W.kitOne K (.ref C_Refused) (.ref C_Refused) = some true)
    (cb_DeskError : PySem.W.subIn K (.ref C_DeskError) (.type "BaseException") = some true)
    (ch_DeskError : PySem.W.hasDictIn K C_DeskError = true)
    (ct_DeskError : PySem.W.typeIn K (.ref C_DeskError) = some (.type "type"))
    (cb_Refused : PySem.W.subIn K (.ref C_Refused) (.type "BaseException") = some true)
    (ch_Refused : PySem.W.hasDictIn K C_Refused = true)
    (ct_Refused : PySem.W.typeIn K (.ref C_Refused) = some (.type "type"))
    : ∃ fd : FuncData, (∀ (s : Shared) (u : Value), BindsTo s fd ⟨[u], []⟩ [("_law_script", u)]) ∧ ∀ base : Heap, K.In base → base.Ns mainGlobals mg → FnG PySem.Challenge.pw_neverregret_k59_whole_disks_and_cuts w K mg base 7 fa fd ["_law_script"] (lift K a_law) := by
  have e := hfa.symm.trans (PySem.W.mg_of X G at_law)
  have e2 : fa = f_law := by cases e; rfl
  rw [e2]
  let a : Ad := { DeskError := C_DeskError, InvalidNumber := C_InvalidNumber, Refused := C_Refused, Broken := C_Broken, Disk := C_Disk, Refused___init__ := f_Refused___init__, is_integer := f_is_integer, is_number := f_is_number, is_octet := f_is_octet, Disk___init__ := f_Disk___init__, Disk_look := f_Disk_look, Disk_put := f_Disk_put, Disk_flush := f_Disk_flush, Disk_events := f_Disk_events, pending_places := f_pending_places, cut_cells := f_cut_cells, _law_heap := f__law_heap, _law_draw := f__law_draw, _law_pick := f__law_pick, _law_octet := f__law_octet, _law_last := f__law_last, _law_pending := f__law_pending, _law_cut_right := f__law_cut_right, _law_play := f__law_play, _law_odds_right := f__law_odds_right, _law_great_right := f__law_great_right, law := f_law }
  have T : Txt PySem.Challenge.pw_neverregret_k59_whole_disks_and_cuts K mg a := { g_MOST_CELLS := ⟨t_MOST_CELLS, PySem.W.mg_of X G ac_MOST_CELLS⟩, g_OCTETS := ⟨t_OCTETS, PySem.W.mg_of X G ac_OCTETS⟩, n_abs := PySem.W.mg_none_of X G nn_abs, n_all := PySem.W.mg_none_of X G nn_all, n_bool := PySem.W.mg_none_of X G nn_bool, n_int := PySem.W.mg_none_of X G nn_int, n_isinstance := PySem.W.mg_none_of X G nn_isinstance, n_len := PySem.W.mg_none_of X G nn_len, n_list := PySem.W.mg_none_of X G nn_list, n_range := PySem.W.mg_none_of X G nn_range, n_repr := PySem.W.mg_none_of X G nn_repr, n_set := PySem.W.mg_none_of X G nn_set, n_sorted := PySem.W.mg_none_of X G nn_sorted, n_tuple := PySem.W.mg_none_of X G nn_tuple, n_zip := PySem.W.mg_none_of X G nn_zip, g_DeskError := PySem.W.mg_of X G aC_DeskError, g_InvalidNumber := PySem.W.mg_of X G aC_InvalidNumber, g_Refused := PySem.W.mg_of X G aC_Refused, g_Broken := PySem.W.mg_of X G aC_Broken, g_Disk := PySem.W.mg_of X G aC_Disk, g_is_integer := PySem.W.mg_of X G at_is_integer, k_is_integer := k_is_integer, g_is_number := PySem.W.mg_of X G at_is_number, k_is_number := k_is_number, g_is_octet := PySem.W.mg_of X G at_is_octet, k_is_octet := k_is_octet, g_pending_places := PySem.W.mg_of X G at_pending_places, k_pending_places := k_pending_places, g_cut_cells := PySem.W.mg_of X G at_cut_cells, k_cut_cells := k_cut_cells, g__law_heap := PySem.W.mg_of X G at__law_heap, k__law_heap := k__law_heap, g__law_draw := PySem.W.mg_of X G at__law_draw, k__law_draw := k__law_draw, g__law_pick := PySem.W.mg_of X G at__law_pick, k__law_pick := k__law_pick, g__law_octet := PySem.W.mg_of X G at__law_octet, k__law_octet := k__law_octet, g__law_last := PySem.W.mg_of X G at__law_last, k__law_last := k__law_last, g__law_pending := PySem.W.mg_of X G at__law_pending, k__law_pending := k__law_pending, g__law_cut_right := PySem.W.mg_of X G at__law_cut_right, k__law_cut_right := k__law_cut_right, g__law_play := PySem.W.mg_of X G at__law_play, k__law_play := k__law_play, g__law_odds_right := PySem.W.mg_of X G at__law_odds_right, k__law_odds_right := k__law_odds_right, g__law_great_right := PySem.W.mg_of X G at__law_great_right, k__law_great_right := k__law_great_right, g_law := PySem.W.mg_of X G at_law, k_law := k_law, cl_Disk := ⟨pg_Disk, hd_Disk, po_Disk, sa_Disk⟩, mk_Disk := ⟨mk_Disk, at_Disk___init__, i_Disk___init__, kc_Disk⟩, nf_Disk_cells := nf_Disk_cells, nf_Disk__octets := nf_Disk__octets, nf_Disk__events := nf_Disk__events, me_Disk_look := ⟨at_Disk_look, i_Disk_look, k_Disk_look⟩, me_Disk_put := ⟨at_Disk_put, i_Disk_put, k_Disk_put⟩, me_Disk_flush := ⟨at_Disk_flush, i_Disk_flush, k_Disk_flush⟩, me_Disk_events := ⟨at_Disk_events, i_Disk_events, k_Disk_events⟩, x_Refused := { cls := ⟨_, _, _, _, _, _, _, _, _, _, _, _, _, _, _, xl_Refused, xr_Refused, xa_Refused⟩, sa := xs_Refused, noN := xno_Refused, iC := xi_Refused, tC := xt_Refused, kC := xk_Refused, exC := xe_Refused, veC := xv_Refused, tyC := xy_Refused, op := op, sup := PySem.W.mg_none_of X G sup, top := by decide +kernel, fn := ⟨s_Refused___init__, _, _, _, _, _, _, _, _, _, _, _, _, _, _, _, _, _, _, _, _, xt_of_Refused, xf_Refused, xc_Refused, xd_Refused, xw_Refused, xz_Refused, xq_Refused⟩ }, xf_Refused := ⟨xg_Refused, xgg_Refused, xe_Refused, xh_Refused⟩, xn_Refused := xno_Refused, ec_Refused := ⟨xg_Refused, xgg_Refused, xe_Refused, xh_Refused, xha_Refused, gn, gt, xm_Refused⟩, exm_Refused_DeskError := PySem.W.exm_ref cb_DeskError ch_DeskError ct_DeskError ex_Refused_DeskError, exm_Refused_Refused := PySem.W.exm_ref cb_Refused ch_Refused ct_Refused ex_Refused_Refused, kit_Refused_Broken := kt_Refused_Broken, kit_Refused_InvalidNumber := kt_Refused_InvalidNumber, kit_Refused_Refused := kt_Refused_Refused }
  let fd : Fds := { is_integer := PySem.W.fnOf "is_integer" "is_integer" (defArgs s_is_integer) (defBody s_is_integer) (defScope s_is_integer) .none kV_is_integer dc_is_integer pm_is_integer an_is_integer cd_is_integer ct_is_integer, is_number := PySem.W.fnOf "is_number" "is_number" (defArgs s_is_number) (defBody s_is_number) (defScope s_is_number) .none kV_is_number dc_is_number pm_is_number an_is_number cd_is_number ct_is_number, is_octet := PySem.W.fnOf "is_octet" "is_octet" (defArgs s_is_octet) (defBody s_is_octet) (defScope s_is_octet) .none kV_is_octet dc_is_octet pm_is_octet an_is_octet cd_is_octet ct_is_octet, Disk___init__ := PySem.W.fnOf "__init__" "Disk.__init__" (defArgs s_Disk___init__) (defBody s_Disk___init__) (defScope s_Disk___init__) .none kV_Disk___init__ dc_Disk___init__ pm_Disk___init__ an_Disk___init__ cd_Disk___init__ ct_Disk___init__, Disk_look := PySem.W.fnOf "look" "Disk.look" (defArgs s_Disk_look) (defBody s_Disk_look) (defScope s_Disk_look) .none kV_Disk_look dc_Disk_look pm_Disk_look an_Disk_look cd_Disk_look ct_Disk_look, Disk_put := PySem.W.fnOf "put" "Disk.put" (defArgs s_Disk_put) (defBody s_Disk_put) (defScope s_Disk_put) .none kV_Disk_put dc_Disk_put pm_Disk_put an_Disk_put cd_Disk_put ct_Disk_put, Disk_flush := PySem.W.fnOf "flush" "Disk.flush" (defArgs s_Disk_flush) (defBody s_Disk_flush) (defScope s_Disk_flush) .none kV_Disk_flush dc_Disk_flush pm_Disk_flush an_Disk_flush cd_Disk_flush ct_Disk_flush, Disk_events := PySem.W.fnOf "events" "Disk.events" (defArgs s_Disk_events) (defBody s_Disk_events) (defScope s_Disk_events) .none kV_Disk_events dc_Disk_events pm_Disk_events an_Disk_events cd_Disk_events ct_Disk_events, pending_places := PySem.W.fnOf "pending_places" "pending_places" (defArgs s_pending_places) (defBody s_pending_places) (defScope s_pending_places) .none kV_pending_places dc_pending_places pm_pending_places an_pending_places cd_pending_places ct_pending_places, cut_cells := PySem.W.fnOf "cut_cells" "cut_cells" (defArgs s_cut_cells) (defBody s_cut_cells) (defScope s_cut_cells) .none kV_cut_cells dc_cut_cells pm_cut_cells an_cut_cells cd_cut_cells ct_cut_cells, _law_heap := PySem.W.fnOf "_law_heap" "_law_heap" (defArgs s__law_heap) (defBody s__law_heap) (defScope s__law_heap) .none kV__law_heap dc__law_heap pm__law_heap an__law_heap cd__law_heap ct__law_heap, _law_draw := PySem.W.fnOf "_law_draw" "_law_draw" (defArgs s__law_draw) (defBody s__law_draw) (defScope s__law_draw) .none kV__law_draw dc__law_draw pm__law_draw an__law_draw cd__law_draw ct__law_draw, _law_pick := PySem.W.fnOf "_law_pick" "_law_pick" (defArgs s__law_pick) (defBody s__law_pick) (defScope s__law_pick) .none kV__law_pick dc__law_pick pm__law_pick an__law_pick cd__law_pick ct__law_pick, _law_octet := PySem.W.fnOf "_law_octet" "_law_octet" (defArgs s__law_octet) (defBody s__law_octet) (defScope s__law_octet) .none kV__law_octet dc__law_octet pm__law_octet an__law_octet cd__law_octet ct__law_octet, _law_last := PySem.W.fnOf "_law_last" "_law_last" (defArgs s__law_last) (defBody s__law_last) (defScope s__law_last) .none kV__law_last dc__law_last pm__law_last an__law_last cd__law_last ct__law_last, _law_pending := PySem.W.fnOf "_law_pending" "_law_pending" (defArgs s__law_pending) (defBody s__law_pending) (defScope s__law_pending) .none kV__law_pending dc__law_pending pm__law_pending an__law_pending cd__law_pending ct__law_pending, _law_cut_right := PySem.W.fnOf "_law_cut_right" "_law_cut_right" (defArgs s__law_cut_right) (defBody s__law_cut_right) (defScope s__law_cut_right) .none kV__law_cut_right dc__law_cut_right pm__law_cut_right an__law_cut_right cd__law_cut_right ct__law_cut_right, _law_play := PySem.W.fnOf "_law_play" "_law_play" (defArgs s__law_play) (defBody s__law_play) (defScope s__law_play) .none kV__law_play dc__law_play pm__law_play an__law_play cd__law_play ct__law_play, _law_odds_right := PySem.W.fnOf "_law_odds_right" "_law_odds_right" (defArgs s__law_odds_right) (defBody s__law_odds_right) (defScope s__law_odds_right) .none kV__law_odds_right dc__law_odds_right pm__law_odds_right an__law_odds_right cd__law_odds_right ct__law_odds_right, _law_great_right := PySem.W.fnOf "_law_great_right" "_law_great_right" (defArgs s__law_great_right) (defBody s__law_great_right) (defScope s__law_great_right) .none kV__law_great_right dc__law_great_right pm__law_great_right an__law_great_right cd__law_great_right ct__law_great_right, law := PySem.W.fnOf "law" "law" (defArgs s_law) (defBody s_law) (defScope s_law) .none kV_law dc_law pm_law an_law cd_law ct_law }
  have Df : Defs K a fd := { is_integer := fun_mk (st := s_is_integer) l_is_integer c_is_integer k_is_integer, is_number := fun_mk (st := s_is_number) l_is_number c_is_number k_is_number, is_octet := fun_mk (st := s_is_octet) l_is_octet c_is_octet k_is_octet, Disk___init__ := fun_mk (st := s_Disk___init__) l_Disk___init__ c_Disk___init__ k_Disk___init__, Disk_look := fun_mk (st := s_Disk_look) l_Disk_look c_Disk_look k_Disk_look, Disk_put := fun_mk (st := s_Disk_put) l_Disk_put c_Disk_put k_Disk_put, Disk_flush := fun_mk (st := s_Disk_flush) l_Disk_flush c_Disk_flush k_Disk_flush, Disk_events := fun_mk (st := s_Disk_events) l_Disk_events c_Disk_events k_Disk_events, pending_places := fun_mk (st := s_pending_places) l_pending_places c_pending_places k_pending_places, cut_cells := fun_mk (st := s_cut_cells) l_cut_cells c_cut_cells k_cut_cells, _law_heap := fun_mk (st := s__law_heap) l__law_heap c__law_heap k__law_heap, _law_draw := fun_mk (st := s__law_draw) l__law_draw c__law_draw k__law_draw, _law_pick := fun_mk (st := s__law_pick) l__law_pick c__law_pick k__law_pick, _law_octet := fun_mk (st := s__law_octet) l__law_octet c__law_octet k__law_octet, _law_last := fun_mk (st := s__law_last) l__law_last c__law_last k__law_last, _law_pending := fun_mk (st := s__law_pending) l__law_pending c__law_pending k__law_pending, _law_cut_right := fun_mk (st := s__law_cut_right) l__law_cut_right c__law_cut_right k__law_cut_right, _law_play := fun_mk (st := s__law_play) l__law_play c__law_play k__law_play, _law_odds_right := fun_mk (st := s__law_odds_right) l__law_odds_right c__law_odds_right k__law_odds_right, _law_great_right := fun_mk (st := s__law_great_right) l__law_great_right c__law_great_right k__law_great_right, law := fun_mk (st := s_law) l_law c_law k_law }
  exact ⟨fd.law, fun s u => .of_eq rfl, fun base _ _ => ok_law T Df⟩
theorem walk {q : Program} {loose : List Str} {XP : (Str → Option Value) → Heap → Prop} {YP : World → Heap → Prop} {d : DefRec} {K : Params → PySem.W.Frag} (hdf : d.params.defaults = []) (hnm : d.name = "law")
    (hY : ∀ (w : World) (h : Heap), YP w h → (K w.params).In h)
    (F : ∀ (w : World) (mg : Str → Option Value) (fa : Addr) (h : Heap), (K w.params).In h → h.Ns mainGlobals mg → mg "law" = some (.ref fa) →
      ∃ fd : FuncData, (∀ (s : Shared) (u : Value), BindsTo s fd ⟨[u], []⟩ [("_law_script", u)]) ∧ ∀ base : Heap, (K w.params).In base → base.Ns mainGlobals mg → FnG PySem.Challenge.pw_neverregret_k59_whole_disks_and_cuts w (K w.params) mg base 7 fa fd ["_law_script"] (lift (K w.params) a_law)) :
    PySem.W.WalkO q loose XP YP PySem.Challenge.rw_neverregret_k59_whole_disks_and_cuts.row.toRowW d [] (fun f vs => PySem.call f vs) :=
  walk_G (n := 63) (k := 7) (x := "_law_script") (a := fun _ => a_law) rfl (by decide) hdf ⟨rfl, by decide, by decide⟩ hY (fun w mg fa h KX G hm => F w mg fa h KX G (by rw [← hnm]; exact hm)) fun _ ns hl => ⟨ns, rfl, hl, fun _ => rfl⟩
end K59
open PySem PySem.W PyProof.Rows
set_option maxRecDepth 100000 in
set_option maxHeartbeats 0 in
theorem PySem.Challenge.cw_neverregret_k59_whole_disks_and_cuts_holds : PySem.Challenge.rw_neverregret_k59_whole_disks_and_cuts.Holds := by
  w_on; o_law; k_head; (case hw => w_witness2)
  k_fill
  refine K59.walk rfl rfl (fun w h Y => PySem.W.kIn_of Y) ?F
  case F =>
    intro w mg fa h KX G hmg
    refine' K59.all_mk KX G hmg ?aC_DeskError ?aC_InvalidNumber ?aC_Refused ?aC_Broken ?aC_Disk ?ac_MOST_CELLS ?ac_OCTETS ?nn_abs ?nn_all ?nn_bool ?nn_int ?nn_isinstance ?nn_len ?nn_list ?nn_range ?nn_repr ?nn_set ?nn_sorted ?nn_tuple ?nn_zip ?at_is_integer ?l_is_integer ?c_is_integer ?k_is_integer ?at_is_number ?l_is_number ?c_is_number ?k_is_number ?at_is_octet ?l_is_octet ?c_is_octet ?k_is_octet ?at_Disk___init__ ?i_Disk___init__ ?l_Disk___init__ ?c_Disk___init__ ?k_Disk___init__ ?at_Disk_look ?i_Disk_look ?l_Disk_look ?c_Disk_look ?k_Disk_look ?at_Disk_put ?i_Disk_put ?l_Disk_put ?c_Disk_put ?k_Disk_put ?at_Disk_flush ?i_Disk_flush ?l_Disk_flush ?c_Disk_flush ?k_Disk_flush ?at_Disk_events ?i_Disk_events ?l_Disk_events ?c_Disk_events ?k_Disk_events ?at_pending_places ?l_pending_places ?c_pending_places ?k_pending_places ?at_cut_cells ?l_cut_cells ?c_cut_cells ?k_cut_cells ?at__law_heap ?l__law_heap ?c__law_heap ?k__law_heap ?at__law_draw ?l__law_draw ?c__law_draw ?k__law_draw ?at__law_pick ?l__law_pick ?c__law_pick ?k__law_pick ?at__law_octet ?l__law_octet ?c__law_octet ?k__law_octet ?at__law_last ?l__law_last ?c__law_last ?k__law_last ?at__law_pending ?l__law_pending ?c__law_pending ?k__law_pending ?at__law_cut_right ?l__law_cut_right ?c__law_cut_right ?k__law_cut_right ?at__law_play ?l__law_play ?c__law_play ?k__law_play ?at__law_odds_right ?l__law_odds_right ?c__law_odds_right ?k__law_odds_right ?at__law_great_right ?l__law_great_right ?c__law_great_right ?k__law_great_right ?at_law ?l_law ?c_law ?k_law ?pg_Disk ?hd_Disk ?po_Disk ?sa_Disk ?mk_Disk ?kc_Disk ?nf_Disk_cells ?nf_Disk__octets ?nf_Disk__events ?op ?sup ?gn ?gt ?xl_Refused ?xr_Refused ?xa_Refused ?xs_Refused ?xno_Refused ?xi_Refused ?xt_Refused ?xk_Refused ?xe_Refused ?xv_Refused ?xy_Refused ?xf_Refused ?xc_Refused ?xd_Refused ?xw_Refused ?xz_Refused ?xq_Refused ?xg_Refused ?xgg_Refused ?xh_Refused ?xha_Refused ?xm_Refused ?ex_Refused_DeskError ?ex_Refused_Refused ?kt_Refused_Broken ?kt_Refused_InvalidNumber ?kt_Refused_Refused ?cb_DeskError ?ch_DeskError ?ct_DeskError ?cb_Refused ?ch_Refused ?ct_Refused
    (case aC_DeskError => first | k_is | rfl | decide +kernel)
    (case aC_InvalidNumber => first | k_is | rfl | decide +kernel)
    (case aC_Refused => first | k_is | rfl | decide +kernel)
    (case aC_Broken => first | k_is | rfl | decide +kernel)
    (case aC_Disk => first | k_is | rfl | decide +kernel)
    (case ac_MOST_CELLS => first | k_is | rfl | decide +kernel)
    (case ac_OCTETS => first | k_is | rfl | decide +kernel)
    (case nn_abs => first | k_is | rfl | decide +kernel)
    (case nn_all => first | k_is | rfl | decide +kernel)
    (case nn_bool => first | k_is | rfl | decide +kernel)
    (case nn_int => first | k_is | rfl | decide +kernel)
    (case nn_isinstance => first | k_is | rfl | decide +kernel)
    (case nn_len => first | k_is | rfl | decide +kernel)
    (case nn_list => first | k_is | rfl | decide +kernel)
    (case nn_range => first | k_is | rfl | decide +kernel)
    (case nn_repr => first | k_is | rfl | decide +kernel)
    (case nn_set => first | k_is | rfl | decide +kernel)
    (case nn_sorted => first | k_is | rfl | decide +kernel)
    (case nn_tuple => first | k_is | rfl | decide +kernel)
    (case nn_zip => first | k_is | rfl | decide +kernel)
    (case at_is_integer => first | k_is | rfl | decide +kernel)
    (case l_is_integer => first | k_is | rfl | decide +kernel)
    (case c_is_integer => first | k_is | rfl | decide +kernel)
    (case k_is_integer => first | k_is | rfl | decide +kernel)
    (case at_is_number => first | k_is | rfl | decide +kernel)
    (case l_is_number => first | k_is | rfl | decide +kernel)
    (case c_is_number => first | k_is | rfl | decide +kernel)
    (case k_is_number => first | k_is | rfl | decide +kernel)
    (case at_is_octet => first | k_is | rfl | decide +kernel)
    (case l_is_octet => first | k_is | rfl | decide +kernel)
    (case c_is_octet => first | k_is | rfl | decide +kernel)
    (case k_is_octet => first | k_is | rfl | decide +kernel)
    (case at_Disk___init__ => first | k_is | rfl | decide +kernel)
    (case i_Disk___init__ => first | k_is | rfl | decide +kernel)
    (case l_Disk___init__ => first | k_is | rfl | decide +kernel)
    (case c_Disk___init__ => first | k_is | rfl | decide +kernel)
    (case k_Disk___init__ => first | k_is | rfl | decide +kernel)
    (case at_Disk_look => first | k_is | rfl | decide +kernel)
    (case i_Disk_look => first | k_is | rfl | decide +kernel)
    (case l_Disk_look => first | k_is | rfl | decide +kernel)
    (case c_Disk_look => first | k_is | rfl | decide +kernel)
    (case k_Disk_look => first | k_is | rfl | decide +kernel)
    (case at_Disk_put => first | k_is | rfl | decide +kernel)
    (case i_Disk_put => first | k_is | rfl | decide +kernel)
    (case l_Disk_put => first | k_is | rfl | decide +kernel)
    (case c_Disk_put => first | k_is | rfl | decide +kernel)
    (case k_Disk_put => first | k_is | rfl | decide +kernel)
    (case at_Disk_flush => first | k_is | rfl | decide +kernel)
    (case i_Disk_flush => first | k_is | rfl | decide +kernel)
    (case l_Disk_flush => first | k_is | rfl | decide +kernel)
    (case c_Disk_flush => first | k_is | rfl | decide +kernel)
    (case k_Disk_flush => first | k_is | rfl | decide +kernel)
    (case at_Disk_events => first | k_is | rfl | decide +kernel)
    (case i_Disk_events => first | k_is | rfl | decide +kernel)
    (case l_Disk_events => first | k_is | rfl | decide +kernel)
    (case c_Disk_events => first | k_is | rfl | decide +kernel)
    (case k_Disk_events => first | k_is | rfl | decide +kernel)
    (case at_pending_places => first | k_is | rfl | decide +kernel)
    (case l_pending_places => first | k_is | rfl | decide +kernel)
    (case c_pending_places => first | k_is | rfl | decide +kernel)
    (case k_pending_places => first | k_is | rfl | decide +kernel)
    (case at_cut_cells => first | k_is | rfl | decide +kernel)
    (case l_cut_cells => first | k_is | rfl | decide +kernel)
    (case c_cut_cells => first | k_is | rfl | decide +kernel)
    (case k_cut_cells => first | k_is | rfl | decide +kernel)
    (case at__law_heap => first | k_is | rfl | decide +kernel)
    (case l__law_heap => first | k_is | rfl | decide +kernel)
    (case c__law_heap => first | k_is | rfl | decide +kernel)
    (case k__law_heap => first | k_is | rfl | decide +kernel)
    (case at__law_draw => first | k_is | rfl | decide +kernel)
    (case l__law_draw => first | k_is | rfl | decide +kernel)
    (case c__law_draw => first | k_is | rfl | decide +kernel)
    (case k__law_draw => first | k_is | rfl | decide +kernel)
    (case at__law_pick => first | k_is | rfl | decide +kernel)
    (case l__law_pick => first | k_is | rfl | decide +kernel)
    (case c__law_pick => first | k_is | rfl | decide +kernel)
    (case k__law_pick => first | k_is | rfl | decide +kernel)
    (case at__law_octet => first | k_is | rfl | decide +kernel)
    (case l__law_octet => first | k_is | rfl | decide +kernel)
    (case c__law_octet => first | k_is | rfl | decide +kernel)
    (case k__law_octet => first | k_is | rfl | decide +kernel)
    (case at__law_last => first | k_is | rfl | decide +kernel)
    (case l__law_last => first | k_is | rfl | decide +kernel)
    (case c__law_last => first | k_is | rfl | decide +kernel)
    (case k__law_last => first | k_is | rfl | decide +kernel)
    (case at__law_pending => first | k_is | rfl | decide +kernel)
    (case l__law_pending => first | k_is | rfl | decide +kernel)
    (case c__law_pending => first | k_is | rfl | decide +kernel)
    (case k__law_pending => first | k_is | rfl | decide +kernel)
    (case at__law_cut_right => first | k_is | rfl | decide +kernel)
    (case l__law_cut_right => first | k_is | rfl | decide +kernel)
    (case c__law_cut_right => first | k_is | rfl | decide +kernel)
    (case k__law_cut_right => first | k_is | rfl | decide +kernel)
    (case at__law_play => first | k_is | rfl | decide +kernel)
    (case l__law_play => first | k_is | rfl | decide +kernel)
    (case c__law_play => first | k_is | rfl | decide +kernel)
    (case k__law_play => first | k_is | rfl | decide +kernel)
    (case at__law_odds_right => first | k_is | rfl | decide +kernel)
    (case l__law_odds_right => first | k_is | rfl | decide +kernel)
    (case c__law_odds_right => first | k_is | rfl | decide +kernel)
    (case k__law_odds_right => first | k_is | rfl | decide +kernel)
    (case at__law_great_right => first | k_is | rfl | decide +kernel)
    (case l__law_great_right => first | k_is | rfl | decide +kernel)
    (case c__law_great_right => first | k_is | rfl | decide +kernel)
    (case k__law_great_right => first | k_is | rfl | decide +kernel)
    (case at_law => first | k_is | rfl | decide +kernel)
    (case l_law => first | k_is | rfl | decide +kernel)
    (case c_law => first | k_is | rfl | decide +kernel)
    (case k_law => first | k_is | rfl | decide +kernel)
    (case pg_Disk => first | k_is | rfl | decide +kernel)
    (case hd_Disk => first | k_is | rfl | decide +kernel)
    (case po_Disk => first | k_is | rfl | decide +kernel)
    (case sa_Disk => first | k_is | rfl | decide +kernel)
    (case mk_Disk => first | k_is | rfl | decide +kernel)
    (case kc_Disk => first | k_is | rfl | decide +kernel)
    (case nf_Disk_cells => first | k_is | rfl | decide +kernel)
    (case nf_Disk__octets => first | k_is | rfl | decide +kernel)
    (case nf_Disk__events => first | k_is | rfl | decide +kernel)
    (case op => first | k_is | rfl | decide +kernel)
    (case sup => first | k_is | rfl | decide +kernel)
    (case gn => first | k_is | rfl | decide +kernel)
    (case gt => first | k_is | rfl | decide +kernel)
    (case xl_Refused => first | k_is | rfl | decide +kernel)
    (case xr_Refused => first | rfl | rfl | decide +kernel)
    (case xa_Refused => first | k_is | rfl | decide +kernel)
    (case xs_Refused => first | k_is | rfl | decide +kernel)
    (case xno_Refused => first | k_is | rfl | decide +kernel)
    (case xi_Refused => first | k_is | rfl | decide +kernel)
    (case xt_Refused => first | k_is | rfl | decide +kernel)
    (case xk_Refused => first | k_is | rfl | decide +kernel)
    (case xe_Refused => first | k_is | rfl | decide +kernel)
    (case xv_Refused => first | k_is | rfl | decide +kernel)
    (case xy_Refused => first | k_is | rfl | decide +kernel)
    (case xf_Refused => first | k_is | rfl | decide +kernel)
    (case xc_Refused => first | k_is | rfl | decide +kernel)
    (case xd_Refused => first | k_is | rfl | decide +kernel)
    (case xw_Refused => first | rfl | rfl | decide +kernel)
    (case xz_Refused => first | rfl | rfl | decide +kernel)
    (case xq_Refused => first | k_is | rfl | decide +kernel)
    (case xg_Refused => first | k_is | rfl | decide +kernel)
    (case xgg_Refused => first | k_is | rfl | decide +kernel)
    (case xh_Refused => first | k_is | rfl | decide +kernel)
    (case xha_Refused => first | k_is | rfl | decide +kernel)
    (case xm_Refused => first | k_is | rfl | decide +kernel)
    (case ex_Refused_DeskError => first | k_is | rfl | decide +kernel)
    (case ex_Refused_Refused => first | k_is | rfl | decide +kernel)
    (case kt_Refused_Broken => first | k_is | rfl | decide +kernel)
    (case kt_Refused_InvalidNumber => first | k_is | rfl | decide +kernel)
    (case kt_Refused_Refused => first | k_is | rfl | decide +kernel)
    (case cb_DeskError => first | k_is | rfl | decide +kernel)
    (case ch_DeskError => first | k_is | rfl | decide +kernel)
    (case ct_DeskError => first | k_is | rfl | decide +kernel)
    (case cb_Refused => first | k_is | rfl | decide +kernel)
    (case ch_Refused => first | k_is | rfl | decide +kernel)
    (case ct_Refused => first | k_is | rfl | decide +kernel)
