import PyProof.Rows.All
import Wide.All
import OpenK.AllK
import Wide.FinOn
import HandS.ForMost
import HandS.Flow
import HandS.Style
import HandS.Wide
import HandS.Evl
import HandS.Defaults
import HandS.WideBits
import HandS.IsInst
import PySem.Challenge.RW_listworks_k10_short_forms_in_all_rooms
set_option Elab.async false
set_option linter.all false
set_option maxRecDepth 100000
set_option maxHeartbeats 8000000
/-! Pd: own layer. Values as plain data, lists that change as numbered cells; readings as wishes over (slots, cells), no heap in sight. -/
namespace Pd
open PySem L2
open Evl (Ex)

/-- a value: plain data; the k-th cell; a tuple that holds such -/
inductive W where
  | d (x : PyData)
  | m (k : Nat)
  | t (ws : List W)
  | f (ws : List W)
  | k (v : V)
/-- what a cell holds -/
inductive C where
  | lst (ws : List W)
abbrev G := List (Option W)
abbrev Mu := List (Option C)

variable {K : PySem.W.Frag}
/-! plain data at an address: lists are tracked ones -/
mutual
inductive DQ (K : PySem.W.Frag) (H : Hp) : V → PyData → Prop
  | non : DQ K H .non .none
  | bl (b : Bool) : DQ K H (.bl b) (.bool b)
  | int (i : Int) : DQ K H (.int i) (.int i)
  | str (x : PySem.Str) : DQ K H (.str x) (.str x)
  | lst {a : Addr} {xs : List V} {ds : List PyData} : H a = some (.lst xs) → DQs K H xs ds → DQ K H (.ref a) (.list ds)
  | tup {a : Addr} {xs : List V} {ds : List PyData} : SqT K H a xs → DQs K H xs ds → DQ K H (.ref a) (.tuple ds)
inductive DQs (K : PySem.W.Frag) (H : Hp) : List V → List PyData → Prop
  | nil : DQs K H [] []
  | cons {v : V} {vs : List V} {d : PyData} {ds : List PyData} : DQ K H v d → DQs K H vs ds → DQs K H (v :: vs) (d :: ds)
end
mutual
theorem DQ.dp {H : Hp} : ∀ {v : V} {d : PyData}, DQ K H v d → Dp K H v d
  | _, _, .non => .non
  | _, _, .bl b => .bl b
  | _, _, .int i => .int i
  | _, _, .str x => .str x
  | _, _, .lst h1 h2 => .lst (SqL.of h1) (DQs.dp h2)
  | _, _, .tup h1 h2 => .tup h1 (DQs.dp h2)
theorem DQs.dp {H : Hp} : ∀ {vs : List V} {ds : List PyData}, DQs K H vs ds → DpAll K H vs ds
  | _, _, .nil => .nil
  | _, _, .cons h1 h2 => .cons (DQ.dp h1) (DQs.dp h2)
end
mutual
inductive VR (K : PySem.W.Frag) (H : Hp) (M : List Addr) : V → W → Prop
  | d {v : V} {x : PyData} : DQ K H v x → VR K H M v (.d x)
  | m {k : Nat} {a : Addr} : M[k]? = some a → VR K H M (.ref a) (.m k)
  | t {a : Addr} {vs : List V} {ws : List W} : SqT K H a vs → VRs K H M vs ws → VR K H M (.ref a) (.t ws)
  | f {a : Addr} {vs : List V} {ws : List W} : SqL K H a vs → VRs K H M vs ws → VR K H M (.ref a) (.f ws)
  | k (v : V) : VR K H M v (.k v)
inductive VRs (K : PySem.W.Frag) (H : Hp) (M : List Addr) : List V → List W → Prop
  | nil : VRs K H M [] []
  | cons {v : V} {w : W} {vs : List V} {ws : List W} : VR K H M v w → VRs K H M vs ws → VRs K H M (v :: vs) (w :: ws)
end
mutual
theorem dp_mono {H H' : Hp} (e : Ex H H') : ∀ {v : V} {d : PyData}, DQ K H v d → DQ K H' v d
  | _, _, .non => .non
  | _, _, .bl b => .bl b
  | _, _, .int i => .int i
  | _, _, .str x => .str x
  | _, _, .lst h1 h2 => .lst (e _ _ h1) (dpa_mono e h2)
  | _, _, .tup h1 h2 => .tup (Evl.ex_t e h1) (dpa_mono e h2)
theorem dpa_mono {H H' : Hp} (e : Ex H H') : ∀ {vs : List V} {ds : List PyData}, DQs K H vs ds → DQs K H' vs ds
  | _, _, .nil => .nil
  | _, _, .cons h1 h2 => .cons (dp_mono e h1) (dpa_mono e h2)
end
def Pre (M M' : List Addr) : Prop := ∀ (k : Nat) a, M[k]? = some a → M'[k]? = some a
theorem Pre.refl (M : List Addr) : Pre M M := fun _ _ h => h
theorem Pre.trans {M M' M'' : List Addr} (a : Pre M M') (b : Pre M' M'') : Pre M M'' := fun k x h => b k x (a k x h)
mutual
theorem VR.mono {H H' : Hp} {M M' : List Addr} (e : Ex H H') (p : Pre M M') : ∀ {v : V} {w : W}, VR K H M v w → VR K H' M' v w
  | _, _, .d h => .d (dp_mono e h)
  | _, _, .m h => .m (p _ _ h)
  | _, _, .t h1 h2 => .t (Evl.ex_t e h1) (VRs.mono e p h2)
  | _, _, .f h1 h2 => .f (Evl.ex_l e h1) (VRs.mono e p h2)
  | _, _, .k v => .k v
theorem VRs.mono {H H' : Hp} {M M' : List Addr} (e : Ex H H') (p : Pre M M') : ∀ {vs : List V} {ws : List W}, VRs K H M vs ws → VRs K H' M' vs ws
  | _, _, .nil => .nil
  | _, _, .cons h1 h2 => .cons (VR.mono e p h1) (VRs.mono e p h2)
end
section lists
variable {H : Hp} {M : List Addr}
theorem VRs.length : ∀ {vs : List V} {ws : List W}, VRs K H M vs ws → vs.length = ws.length
  | _, _, .nil => rfl
  | _, _, .cons _ t => congrArg (· + 1) (VRs.length t)
theorem VRs.append : ∀ {vs us : List V} {ws zs : List W}, VRs K H M vs ws → VRs K H M us zs → VRs K H M (vs ++ us) (ws ++ zs)
  | _, _, _, _, .nil, s => s
  | _, _, _, _, .cons r t, s => .cons r (VRs.append t s)
theorem VRs.snoc {vs : List V} {ws : List W} {v : V} {w : W} (h : VRs K H M vs ws) (h2 : VR K H M v w) : VRs K H M (vs ++ [v]) (ws ++ [w]) := h.append (.cons h2 .nil)
theorem VRs.take : ∀ {vs : List V} {ws : List W} (n : Nat), VRs K H M vs ws → VRs K H M (vs.take n) (ws.take n)
  | _, _, 0, _ => by simpa using VRs.nil
  | _, _, _ + 1, .nil => .nil
  | _, _, n + 1, .cons r t => .cons r (VRs.take n t)
theorem VRs.drop : ∀ {vs : List V} {ws : List W} (n : Nat), VRs K H M vs ws → VRs K H M (vs.drop n) (ws.drop n)
  | _, _, 0, r => by simpa using r
  | _, _, _ + 1, .nil => .nil
  | _, _, n + 1, .cons _ t => VRs.drop n t
theorem VRs.dropLast {vs : List V} {ws : List W} (h : VRs K H M vs ws) : VRs K H M vs.dropLast ws.dropLast := by
  rw [List.dropLast_eq_take, List.dropLast_eq_take, h.length]
  exact h.take _
theorem VRs.get : ∀ {vs : List V} {ws : List W} {i : Nat} {v : V}, VRs K H M vs ws → vs[i]? = some v → ∃ w, ws[i]? = some w ∧ VR K H M v w
  | _, _, _, _, .nil, e => by simp at e
  | _, _, 0, _, .cons r _, e => by
    simp at e
    subst e
    exact ⟨_, rfl, r⟩
  | _, _, i + 1, v, .cons _ t, e => by
    obtain ⟨u, h1, h2⟩ := VRs.get (i := i) (v := v) t (by simpa using e)
    exact ⟨u, by simpa using h1, h2⟩
theorem VRs.getW : ∀ {vs : List V} {ws : List W} {i : Nat} {w : W}, VRs K H M vs ws → ws[i]? = some w → ∃ v, vs[i]? = some v ∧ VR K H M v w
  | _, _, _, _, .nil, e => by simp at e
  | _, _, 0, _, .cons r _, e => by
    simp at e
    subst e
    exact ⟨_, rfl, r⟩
  | _, _, i + 1, v, .cons _ t, e => by
    obtain ⟨u, h1, h2⟩ := VRs.getW (i := i) (w := v) t (by simpa using e)
    exact ⟨u, by simpa using h1, h2⟩
theorem VRs.set {v : V} {w : W} (r : VR K H M v w) : ∀ {vs : List V} {ws : List W} (i : Nat), VRs K H M vs ws → VRs K H M (vs.set i v) (ws.set i w)
  | _, _, _, .nil => .nil
  | _, _, 0, .cons _ t => .cons r t
  | _, _, i + 1, .cons q t => .cons q (VRs.set r i t)
theorem VRs.eraseIdx : ∀ {vs : List V} {ws : List W} (i : Nat), VRs K H M vs ws → VRs K H M (vs.eraseIdx i) (ws.eraseIdx i)
  | _, _, _, .nil => .nil
  | _, _, 0, .cons _ t => t
  | _, _, i + 1, .cons q t => .cons q (VRs.eraseIdx i t)
theorem VRs.reverse : ∀ {vs : List V} {ws : List W}, VRs K H M vs ws → VRs K H M vs.reverse ws.reverse
  | _, _, .nil => .nil
  | _, _, .cons r t => by
    rw [List.reverse_cons, List.reverse_cons]
    exact (VRs.reverse t).snoc r
theorem VRs.of_dp : ∀ {vs : List V} {ds : List PyData}, DQs K H vs ds → VRs K H M vs (ds.map W.d)
  | _, _, .nil => .nil
  | _, _, .cons h t => .cons (.d h) (VRs.of_dp t)
theorem VRs.dp : ∀ {vs : List V} {ds : List PyData}, VRs K H M vs (ds.map W.d) → DQs K H vs ds
  | _, [], h => by cases h; exact .nil
  | _, _ :: _, h => by
    cases h with
    | cons h t =>
      cases h with
      | d h => exact .cons h (VRs.dp t)
end lists

/-! ### what is hidden, the view -/
def hid (A : Addr → Prop) (M : List Addr) (μ : Mu) (a : Addr) : Prop := A a ∨ ∃ (k : Nat) (c : C), M[k]? = some a ∧ μ[k]? = some (some c)
open Classical in
noncomputable def vw (A : Addr → Prop) (M : List Addr) (μ : Mu) (H : Hp) : Hp := fun a => if hid A M μ a then none else H a
section view
variable {A : Addr → Prop} {M M' : List Addr} {μ μ' : Mu} {H H' : Hp} {a : Addr} {o : HO}
theorem vw_some (h : vw A M μ H a = some o) : ¬ hid A M μ a ∧ H a = some o := by
  unfold vw at h
  split at h
  · cases h
  · exact ⟨‹_›, h⟩
theorem vw_of (h : ¬ hid A M μ a) (e : H a = some o) : vw A M μ H a = some o := by
  unfold vw
  rw [if_neg h]
  exact e
theorem vw_le : Ex (vw A M μ H) H := fun _ _ h => (vw_some h).2
theorem vw_ex (e : Ex H H') : Ex (vw A M μ H) (vw A M μ H') := fun a o h => vw_of (vw_some h).1 (e a o (vw_some h).2)
def CT (K : PySem.W.Frag) (H : Hp) (M : List Addr) (o : HO) : C → Prop
  | .lst ws => ∃ vs, o = .lst vs ∧ VRs K H M vs ws
structure MOk (K : PySem.W.Frag) (A : Addr → Prop) (M : List Addr) (H : Hp) (μ : Mu) : Prop where
  len : M.length = μ.length
  nd : M.Nodup
  nA : ∀ a ∈ M, ¬ A a
  al : ∀ a ∈ M, H a ≠ none
  aA : ∀ a, A a → H a ≠ none
  ct : ∀ (k : Nat) a c, M[k]? = some a → μ[k]? = some (some c) → ∃ o, H a = some o ∧ CT K (vw A M μ H) M o c
def GR (K : PySem.W.Frag) (H : Hp) (M : List Addr) (σ : L2.St) (Γ : G) : Prop := σ.length = Γ.length ∧ ∀ (i : Nat) w, Γ[i]? = some (some w) → ∃ v, σ[i]? = some (some v) ∧ VR K H M v w
structure Cn (K : PySem.W.Frag) (A : Addr → Prop) (M : List Addr) (σ : L2.St) (H : Hp) (Γ : G) (μ : Mu) : Prop where
  mo : MOk K A M H μ
  gr : GR K (vw A M μ H) M σ Γ
structure Eff (A : Addr → Prop) (M : List Addr) (μ : Mu) (H : Hp) (M' : List Addr) (μ' : Mu) (H' : Hp) : Prop where
  pre : Pre M M'
  own : ∀ a o, A a → H a = some o → H' a = some o
  ex : Ex (vw A M μ H) (vw A M' μ' H')
theorem Eff.refl : Eff A M μ H M μ H := ⟨Pre.refl _, fun _ _ _ h => h, Ex.refl _⟩
theorem Eff.trans {M'' : List Addr} {μ'' : Mu} {H'' : Hp} (a : Eff A M μ H M' μ' H') (b : Eff A M' μ' H' M'' μ'' H'') : Eff A M μ H M'' μ'' H'' :=
  ⟨a.pre.trans b.pre, fun x o h e => b.own x o h (a.own x o h e), a.ex.trans b.ex⟩
theorem Eff.of_ex (e : Ex H H') : Eff A M μ H M μ H' := ⟨Pre.refl _, fun a o _ h => e a o h, vw_ex e⟩
theorem CT.mono {c : C} (e : Ex H H') (p : Pre M M') (h : CT K H M o c) : CT K H' M' o c := by
  cases c with
  | lst ws =>
    obtain ⟨vs, h1, h2⟩ := h
    exact ⟨vs, h1, h2.mono e p⟩
theorem MOk.ex (h : MOk K A M H μ) (e : Ex H H') : MOk K A M H' μ := by
  have nn : ∀ a, H a ≠ none → H' a ≠ none := fun a hn => by
    cases q : H a with
    | none => exact absurd q hn
    | some o => rw [e a o q]; intro z; cases z
  exact ⟨h.len, h.nd, h.nA, fun a m => nn a (h.al a m), fun a m => nn a (h.aA a m), fun k a c h1 h2 => by
    obtain ⟨o, q1, q2⟩ := h.ct k a c h1 h2
    exact ⟨o, e a o q1, q2.mono (vw_ex e) (Pre.refl _)⟩⟩
theorem GR.mono {σ : L2.St} {Γ : G} (h : GR K H M σ Γ) (e : Ex H H') (p : Pre M M') : GR K H' M' σ Γ :=
  ⟨h.1, fun i w hw => let ⟨v, h1, h2⟩ := h.2 i w hw; ⟨v, h1, h2.mono e p⟩⟩
theorem GR.set {σ : L2.St} {Γ : G} {i : Nat} {v : V} {w : W} (h : GR K H M σ Γ) (r : VR K H M v w) : GR K H M (σ.set i (some v)) (Γ.set i (some w)) := by
  refine ⟨by rw [List.length_set, List.length_set]; exact h.1, fun j u hu => ?_⟩
  by_cases hj : i = j
  · subst hj
    rw [List.getElem?_set] at hu
    rw [if_pos rfl] at hu
    split at hu
    · have : w = u := by simpa using hu
      subst this
      refine ⟨v, ?_, r⟩
      rw [List.getElem?_set, if_pos rfl, if_pos (by rw [h.1]; assumption)]
    · cases hu
  · rw [List.getElem?_set, if_neg hj] at hu
    obtain ⟨z, h1, h2⟩ := h.2 j u hu
    exact ⟨z, by rw [List.getElem?_set, if_neg hj]; exact h1, h2⟩
theorem GR.drop {σ : L2.St} {Γ : G} {i : Nat} (h : GR K H M σ Γ) : GR K H M (σ.set i none) (Γ.set i none) := by
  refine ⟨by rw [List.length_set, List.length_set]; exact h.1, fun j u hu => ?_⟩
  by_cases hj : i = j
  · subst hj
    rw [List.getElem?_set, if_pos rfl] at hu
    split at hu
    · cases hu
    · cases hu
  · rw [List.getElem?_set, if_neg hj] at hu
    obtain ⟨z, h1, h2⟩ := h.2 j u hu
    exact ⟨z, by rw [List.getElem?_set, if_neg hj]; exact h1, h2⟩
theorem Cn.ex {σ : L2.St} {Γ : G} (h : Cn K A M σ H Γ μ) (e : Ex H H') : Cn K A M σ H' Γ μ := ⟨h.mo.ex e, h.gr.mono (vw_ex e) (Pre.refl _)⟩
/-- the slots behind a change of the cells -/
theorem Cn.eff {σ : L2.St} {Γ : G} (h : Cn K A M σ H Γ μ) (e : Eff A M μ H M' μ' H') (mo : MOk K A M' H' μ') : Cn K A M' σ H' Γ μ' := ⟨mo, h.gr.mono e.ex e.pre⟩
theorem GR.wipe {σ : L2.St} {Γ : G} (h : GR K H M σ Γ) : ∀ vs : List Nat, GR K H M (wipe σ vs) (vs.foldr (fun v g => g.set v none) Γ)
  | [] => h
  | v :: vs => (h.wipe vs).drop
/-! ### changing a cell, adding one, taking one away -/
theorem MOk.ne_hid (h : MOk K A M H μ) {p : Addr} (hp : H p = none) : ¬ hid A M μ p := fun z => by
  rcases z with z | ⟨k, c, h1, _⟩
  · exact h.aA p z hp
  · exact h.al p (List.mem_of_getElem? h1) hp
theorem hid_set {k : Nat} {c c' : C} (hk : μ[k]? = some (some c)) : hid A M (μ.set k (some c')) a ↔ hid A M μ a := by
  constructor
  · rintro (z | ⟨j, d, h1, h2⟩)
    · exact .inl z
    · by_cases hj : k = j
      · subst hj
        exact .inr ⟨k, c, h1, hk⟩
      · rw [List.getElem?_set, if_neg hj] at h2
        exact .inr ⟨j, d, h1, h2⟩
  · rintro (z | ⟨j, d, h1, h2⟩)
    · exact .inl z
    · by_cases hj : k = j
      · subst hj
        refine .inr ⟨k, c', h1, ?_⟩
        rw [List.getElem?_set, if_pos rfl, if_pos ((List.getElem?_eq_some_iff.mp h2).1)]
      · exact .inr ⟨j, d, h1, by rw [List.getElem?_set, if_neg hj]; exact h2⟩
theorem vw_set {k : Nat} {c c' : C} {p : Addr} (hp : M[k]? = some p) (hk : μ[k]? = some (some c)) : vw A M (μ.set k (some c')) (upd H p o) = vw A M μ H := by
  funext b
  unfold vw
  by_cases hb : hid A M μ b
  · rw [if_pos hb, if_pos ((hid_set hk).mpr hb)]
  · rw [if_neg hb, if_neg fun z => hb ((hid_set hk).mp z)]
    refine upd_ne fun z => hb ?_
    subst z
    exact .inr ⟨k, c, hp, hk⟩
theorem MOk.write {k : Nat} {c c' : C} {p : Addr} (h : MOk K A M H μ) (hp : M[k]? = some p) (hk : μ[k]? = some (some c)) (hc : CT K (vw A M μ H) M o c') : MOk K A M (upd H p o) (μ.set k (some c')) := by
  have ev := vw_set (A := A) (H := H) (o := o) (c' := c') hp hk
  have nn : ∀ a, H a ≠ none → upd H p o a ≠ none := fun a hn => by
    by_cases e : a = p
    · subst e; rw [upd_same]; intro z; cases z
    · rw [upd_ne e]; exact hn
  refine ⟨by rw [List.length_set]; exact h.len, h.nd, h.nA, fun a m => nn a (h.al a m), fun a m => nn a (h.aA a m), fun j b d h1 h2 => ?_⟩
  rw [ev]
  by_cases hj : k = j
  · subst hj
    rw [hp] at h1
    cases h1
    rw [List.getElem?_set, if_pos rfl] at h2
    split at h2
    · have : c' = d := by simpa using h2
      subst this
      exact ⟨o, upd_same, hc⟩
    · cases h2
  · rw [List.getElem?_set, if_neg hj] at h2
    obtain ⟨u, q1, q2⟩ := h.ct j b d h1 h2
    refine ⟨u, ?_, q2⟩
    rw [upd_ne ?_]
    · exact q1
    · rintro rfl
      have l1 := (List.getElem?_eq_some_iff.mp h1)
      have l2 := (List.getElem?_eq_some_iff.mp hp)
      exact hj ((List.getElem_inj h.nd).mp (l2.2.trans l1.2.symm))
theorem Eff.write {k : Nat} {c c' : C} {p : Addr} (h : MOk K A M H μ) (hp : M[k]? = some p) (hk : μ[k]? = some (some c)) : Eff A M μ H M (μ.set k (some c')) (upd H p o) := by
  refine ⟨Pre.refl _, fun a u ha e => ?_, by rw [vw_set hp hk]; exact Ex.refl _⟩
  rw [upd_ne ?_]
  · exact e
  · rintro rfl
    exact h.nA a (List.mem_of_getElem? hp) ha
theorem pre_snoc {M : List Addr} {p : Addr} : Pre M (M ++ [p]) := fun k a h => by
  rw [List.getElem?_append_left (List.getElem?_eq_some_iff.mp h).1]
  exact h
theorem hid_new {p : Addr} {c : C} (h : M.length = μ.length) : hid A (M ++ [p]) (μ ++ [some c]) a ↔ hid A M μ a ∨ a = p := by
  constructor
  · rintro (z | ⟨j, d, h1, h2⟩)
    · exact .inl (.inl z)
    · by_cases hj : j < M.length
      · rw [List.getElem?_append_left hj] at h1
        rw [List.getElem?_append_left (by omega)] at h2
        exact .inl (.inr ⟨j, d, h1, h2⟩)
      · have hj2 : j = M.length := by
          have := (List.getElem?_eq_some_iff.mp h1).1
          simp at this
          omega
        subst hj2
        rw [List.getElem?_append_right (Nat.le_refl _)] at h1
        simp at h1
        exact .inr h1.symm
  · rintro ((z | ⟨j, d, h1, h2⟩) | z)
    · exact .inl z
    · refine .inr ⟨j, d, ?_, ?_⟩
      · rw [List.getElem?_append_left (List.getElem?_eq_some_iff.mp h1).1]; exact h1
      · rw [List.getElem?_append_left (List.getElem?_eq_some_iff.mp h2).1]; exact h2
    · subst z
      refine .inr ⟨M.length, c, ?_, ?_⟩
      · rw [List.getElem?_append_right (Nat.le_refl _)]; simp
      · rw [h, List.getElem?_append_right (Nat.le_refl _)]; simp
theorem vw_new {p : Addr} {c : C} (h : M.length = μ.length) (hp : H p = none) : vw A (M ++ [p]) (μ ++ [some c]) (upd H p o) = vw A M μ H := by
  funext b
  unfold vw
  by_cases hb : hid A M μ b
  · rw [if_pos hb, if_pos ((hid_new h).mpr (.inl hb))]
  · rw [if_neg hb]
    by_cases e : b = p
    · subst e
      rw [if_pos ((hid_new h).mpr (.inr rfl)), hp]
    · rw [if_neg fun z => (((hid_new h).mp z).elim hb e), upd_ne e]
theorem MOk.new {c : C} {p : Addr} (h : MOk K A M H μ) (hp : H p = none) (hc : CT K (vw A M μ H) M o c) : MOk K A (M ++ [p]) (upd H p o) (μ ++ [some c]) := by
  have ev := vw_new (A := A) (o := o) (c := c) h.len hp
  have nn : ∀ a, H a ≠ none → upd H p o a ≠ none := fun a hn => by
    rw [upd_ne fun z => hn (by rw [z]; exact hp)]
    exact hn
  have np : p ∉ M := fun m => h.al p m hp
  refine ⟨by simp [h.len], ?_, fun a m => ?_, fun a m => ?_, fun a m => nn a (h.aA a m), fun j b d h1 h2 => ?_⟩
  · rw [List.nodup_append]
    refine ⟨h.nd, by simp, fun a m b mb z => ?_⟩
    have : b = p := by simpa using mb
    subst this
    subst z
    exact np m
  · rcases List.mem_append.mp m with m | m
    · exact h.nA a m
    · have : a = p := by simpa using m
      subst this
      exact fun z => h.aA a z hp
  · rcases List.mem_append.mp m with m | m
    · exact nn a (h.al a m)
    · have : a = p := by simpa using m
      subst this
      rw [upd_same]
      intro z
      cases z
  · rw [ev]
    by_cases hj : j < M.length
    · rw [List.getElem?_append_left hj] at h1
      rw [List.getElem?_append_left (by have := h.len; omega)] at h2
      obtain ⟨u, q1, q2⟩ := h.ct j b d h1 h2
      refine ⟨u, ?_, q2.mono (Ex.refl _) pre_snoc⟩
      rw [upd_ne fun z => np (by rw [← z]; exact List.mem_of_getElem? h1)]
      exact q1
    · have hj2 : j = M.length := by
        have := (List.getElem?_eq_some_iff.mp h1).1
        simp at this
        omega
      subst hj2
      rw [List.getElem?_append_right (Nat.le_refl _)] at h1
      rw [h.len, List.getElem?_append_right (Nat.le_refl _)] at h2
      simp at h1 h2
      subst h1 h2
      exact ⟨o, upd_same, hc.mono (Ex.refl _) pre_snoc⟩
theorem Eff.new {c : C} {p : Addr} (h : MOk K A M H μ) (hp : H p = none) : Eff A M μ H (M ++ [p]) (μ ++ [some c]) (upd H p o) :=
  ⟨pre_snoc, fun a u ha e => by rw [upd_ne (ne_of_none e hp)]; exact e, by rw [vw_new h.len hp]; exact Ex.refl _⟩
end view
end Pd

namespace Pd
open PySem L2
open Evl (Ex)
section judgements
variable (K : PySem.W.Frag)
def AX (te : TE) (Γ : G) (μ : Mu) (R : W → Mu → Prop) : Prop := ∀ (A : Addr → Prop) (M : List Addr) (σ : L2.St) (H : Hp), Cn K A M σ H Γ μ → ∀ Q : VK,
  (∀ M' H' v w μ', MOk K A M' H' μ' → Eff A M μ H M' μ' H' → VR K (vw A M' μ' H') M' v w → R w μ' → Q v H') → te σ H Q
def AXA (ta : TA) (Γ : G) (μ : Mu) (R : List W → Mu → Prop) : Prop := ∀ (A : Addr → Prop) (M : List Addr) (σ : L2.St) (H : Hp), Cn K A M σ H Γ μ → ∀ Q : List V → Hp → Prop,
  (∀ M' H' vs ws μ', MOk K A M' H' μ' → Eff A M μ H M' μ' H' → VRs K (vw A M' μ' H') M' vs ws → R ws μ' → Q vs H') → ta σ H Q
def AXT (tt : TT) (Γ : G) (μ : Mu) (R : Bool → Mu → Prop) : Prop := ∀ (A : Addr → Prop) (M : List Addr) (σ : L2.St) (H : Hp), Cn K A M σ H Γ μ → ∀ Q : Bool → Hp → Prop,
  (∀ M' H' b μ', MOk K A M' H' μ' → Eff A M μ H M' μ' H' → R b μ' → Q b H') → tt σ H Q
def AXO (to : TO) (Γ : G) (μ : Mu) (R : Option Int → Mu → Prop) : Prop := ∀ (A : Addr → Prop) (M : List Addr) (σ : L2.St) (H : Hp), Cn K A M σ H Γ μ → ∀ Q : Option Int → Hp → Prop,
  (∀ M' H' b μ', MOk K A M' H' μ' → Eff A M μ H M' μ' H' → R b μ' → Q b H') → to σ H Q
def AO (r : R2) (x y : W) (μ : Mu) (R : W → Mu → Prop) : Prop := ∀ (A : Addr → Prop) (M : List Addr) (H : Hp) (v u : V), MOk K A M H μ → VR K (vw A M μ H) M v x → VR K (vw A M μ H) M u y → ∀ Q : VK,
  (∀ M' H' z w μ', MOk K A M' H' μ' → Eff A M μ H M' μ' H' → VR K (vw A M' μ' H') M' z w → R w μ' → Q z H') → r v u H Q
def AU (r : V → Hp → VK → Prop) (x : W) (μ : Mu) (R : W → Mu → Prop) : Prop := ∀ (A : Addr → Prop) (M : List Addr) (H : Hp) (v : V), MOk K A M H μ → VR K (vw A M μ H) M v x → ∀ Q : VK,
  (∀ M' H' z w μ', MOk K A M' H' μ' → Eff A M μ H M' μ' H' → VR K (vw A M' μ' H') M' z w → R w μ' → Q z H') → r v H Q
def AC (r : List V → Hp → VK → Prop) (ws : List W) (μ : Mu) (R : W → Mu → Prop) : Prop := ∀ (A : Addr → Prop) (M : List Addr) (H : Hp) (vs : List V), MOk K A M H μ → VRs K (vw A M μ H) M vs ws → ∀ Q : VK,
  (∀ M' H' z w μ', MOk K A M' H' μ' → Eff A M μ H M' μ' H' → VR K (vw A M' μ' H') M' z w → R w μ' → Q z H') → r vs H Q
def AM (r : V → List V → Hp → VK → Prop) (x : W) (ws : List W) (μ : Mu) (R : W → Mu → Prop) : Prop := ∀ (A : Addr → Prop) (M : List Addr) (H : Hp) (v : V) (vs : List V), MOk K A M H μ → VR K (vw A M μ H) M v x → VRs K (vw A M μ H) M vs ws → ∀ Q : VK,
  (∀ M' H' z w μ', MOk K A M' H' μ' → Eff A M μ H M' μ' H' → VR K (vw A M' μ' H') M' z w → R w μ' → Q z H') → r v vs H Q
def AG (g : TG) (w : W) (Γ : G) (μ : Mu) (R : G → Mu → Prop) : Prop := ∀ (A : Addr → Prop) (M : List Addr) (σ : L2.St) (H : Hp) (v : V), Cn K A M σ H Γ μ → VR K (vw A M μ H) M v w → ∀ Q : L2.St → Hp → Prop,
  (∀ M' σ' H' Γ' μ', Cn K A M' σ' H' Γ' μ' → Eff A M μ H M' μ' H' → R Γ' μ' → Q σ' H') → g v σ H Q
def AGs (g : TGs) (ws : List W) (Γ : G) (μ : Mu) (R : G → Mu → Prop) : Prop := ∀ (A : Addr → Prop) (M : List Addr) (σ : L2.St) (H : Hp) (vs : List V), Cn K A M σ H Γ μ → VRs K (vw A M μ H) M vs ws → ∀ Q : L2.St → Hp → Prop,
  (∀ M' σ' H' Γ' μ', Cn K A M' σ' H' Γ' μ' → Eff A M μ H M' μ' H' → R Γ' μ' → Q σ' H') → g vs σ H Q
structure AEn where
  nx : G → Mu → Prop
  rt : W → Mu → Prop
  bk : G → Mu → Prop := fun _ _ => False
  ct : G → Mu → Prop := fun _ _ => False
structure Hd (A : Addr → Prop) (M : List Addr) (μ : Mu) (H : Hp) (D : AEn) (E : Ends) : Prop where
  nx : ∀ M' σ' H' Γ' μ', Cn K A M' σ' H' Γ' μ' → Eff A M μ H M' μ' H' → D.nx Γ' μ' → E.nx σ' H'
  rt : ∀ M' H' v w μ', MOk K A M' H' μ' → Eff A M μ H M' μ' H' → VR K (vw A M' μ' H') M' v w → D.rt w μ' → E.rt v H'
  bk : ∀ M' σ' H' Γ' μ', Cn K A M' σ' H' Γ' μ' → Eff A M μ H M' μ' H' → D.bk Γ' μ' → E.bk σ' H'
  ct : ∀ M' σ' H' Γ' μ', Cn K A M' σ' H' Γ' μ' → Eff A M μ H M' μ' H' → D.ct Γ' μ' → E.ct σ' H'
def AS (t : TS) (D : AEn) (Γ : G) (μ : Mu) : Prop := ∀ (A : Addr → Prop) (M : List Addr) (σ : L2.St) (H : Hp), Cn K A M σ H Γ μ → ∀ E : Ends, Hd K A M μ H D E → t E σ H
end judgements
section
variable {K : PySem.W.Frag} {A : Addr → Prop} {M M' : List Addr} {μ μ' : Mu} {H H' : Hp} {D : AEn} {E : Ends} {Γ : G}
theorem Hd.after (h : Hd K A M μ H D E) (e : Eff A M μ H M' μ' H') : Hd K A M' μ' H' D E :=
  ⟨fun _ _ _ _ _ c e' => h.nx _ _ _ _ _ c (e.trans e'), fun _ _ _ _ _ m e' => h.rt _ _ _ _ _ m (e.trans e'), fun _ _ _ _ _ c e' => h.bk _ _ _ _ _ c (e.trans e'), fun _ _ _ _ _ c e' => h.ct _ _ _ _ _ c (e.trans e')⟩

/-! ### data as a whole: what a value comes to with the cells as they stand -/
mutual
inductive Rs (μ : Mu) : W → PyData → Prop
  | d (x : PyData) : Rs μ (.d x) x
  | m {k : Nat} {ws : List W} {xs : List PyData} : μ[k]? = some (some (.lst ws)) → Rss μ ws xs → Rs μ (.m k) (.list xs)
  | t {ws : List W} {xs : List PyData} : Rss μ ws xs → Rs μ (.t ws) (.tuple xs)
  | f {ws : List W} {xs : List PyData} : Rss μ ws xs → Rs μ (.f ws) (.list xs)
inductive Rss (μ : Mu) : List W → List PyData → Prop
  | nil : Rss μ [] []
  | cons {w : W} {x : PyData} {ws : List W} {xs : List PyData} : Rs μ w x → Rss μ ws xs → Rss μ (w :: ws) (x :: xs)
end
theorem Rss.ds : ∀ xs : List PyData, Rss μ (xs.map W.d) xs
  | [] => .nil
  | x :: xs => .cons (.d x) (Rss.ds xs)
mutual
theorem Rs.dp (mo : MOk K A M H μ) : ∀ {w : W} {x : PyData} {v : V}, Rs μ w x → VR K (vw A M μ H) M v w → Dp K H v x
  | _, _, _, .d x, h => by
    cases h with
    | d h => exact (dp_mono vw_le h).dp
  | _, _, _, .m h1 h2, h => by
    cases h with
    | m hm =>
      obtain ⟨o, e, c⟩ := mo.ct _ _ _ hm h1
      obtain ⟨vs, rfl, r⟩ := c
      exact .lst (SqL.of e) (Rss.dp mo h2 r)
  | _, _, _, .t h1, h => by
    cases h with
    | t hs r => exact .tup (Evl.ex_t vw_le hs) (Rss.dp mo h1 r)
  | _, _, _, .f h1, h => by
    cases h with
    | f hs r => exact .lst (Evl.ex_l vw_le hs) (Rss.dp mo h1 r)
theorem Rss.dp (mo : MOk K A M H μ) : ∀ {ws : List W} {xs : List PyData} {vs : List V}, Rss μ ws xs → VRs K (vw A M μ H) M vs ws → DpAll K H vs xs
  | _, _, _, .nil, h => by cases h; exact .nil
  | _, _, _, .cons h1 h2, h => by
    cases h with
    | cons r1 r2 => exact .cons (Rs.dp mo h1 r1) (Rss.dp mo h2 r2)
end
/-- a list's items; a tuple's -/
inductive LW (μ : Mu) : W → List W → Prop
  | d (xs : List PyData) : LW μ (.d (.list xs)) (xs.map W.d)
  | m {k : Nat} {ws : List W} : μ[k]? = some (some (.lst ws)) → LW μ (.m k) ws
  | f (ws : List W) : LW μ (.f ws) ws
/-- .. of a list that was made here -/
inductive LN (μ : Mu) : W → List W → Prop
  | d (xs : List PyData) : LN μ (.d (.list xs)) (xs.map W.d)
  | m {k : Nat} {ws : List W} : μ[k]? = some (some (.lst ws)) → LN μ (.m k) ws
inductive TW : W → List W → Prop
  | d (xs : List PyData) : TW (.d (.tuple xs)) (xs.map W.d)
  | t (ws : List W) : TW (.t ws) ws
theorem LW.get (mo : MOk K A M H μ) {v : V} {w : W} {ws : List W} (r : VR K (vw A M μ H) M v w) (h : LW μ w ws) : ∃ a vs, v = .ref a ∧ SqL K H a vs ∧ VRs K (vw A M μ H) M vs ws := by
  cases h with
  | d xs =>
    cases r with
    | d r =>
      cases r with
      | lst h1 h2 => exact ⟨_, _, rfl, SqL.of (vw_le _ _ h1), VRs.of_dp h2⟩
  | m hk =>
    cases r with
    | m hm =>
      obtain ⟨o, e, vs, rfl, r⟩ := mo.ct _ _ _ hm hk
      exact ⟨_, vs, rfl, SqL.of e, r⟩
  | f ws =>
    cases r with
    | f h1 h2 => exact ⟨_, _, rfl, Evl.ex_l vw_le h1, h2⟩
theorem LN.get (mo : MOk K A M H μ) {v : V} {w : W} {ws : List W} (r : VR K (vw A M μ H) M v w) (h : LN μ w ws) : ∃ a vs, v = .ref a ∧ H a = some (.lst vs) ∧ VRs K (vw A M μ H) M vs ws := by
  cases h with
  | d xs =>
    cases r with
    | d r =>
      cases r with
      | lst h1 h2 => exact ⟨_, _, rfl, vw_le _ _ h1, VRs.of_dp h2⟩
  | m hk =>
    cases r with
    | m hm =>
      obtain ⟨o, e, vs, rfl, r⟩ := mo.ct _ _ _ hm hk
      exact ⟨_, vs, rfl, e, r⟩
theorem TW.get {v : V} {w : W} {ws : List W} (r : VR K (vw A M μ H) M v w) (h : TW w ws) : ∃ a vs, v = .ref a ∧ SqT K (vw A M μ H) a vs ∧ VRs K (vw A M μ H) M vs ws := by
  cases h with
  | d xs =>
    cases r with
    | d r =>
      cases r with
      | tup h1 h2 => exact ⟨_, _, rfl, h1, VRs.of_dp h2⟩
  | t ws =>
    cases r with
    | t h1 h2 => exact ⟨_, _, rfl, h1, h2⟩
theorem map_d_inj : ∀ {xs ys : List PyData}, xs.map W.d = ys.map W.d → xs = ys
  | [], [], _ => rfl
  | [], _ :: _, h => by cases h
  | _ :: _, [], h => by cases h
  | x :: xs, y :: ys, h => by
    rw [List.map_cons, List.map_cons] at h
    injection h with h1 h2
    injection h1 with h1
    rw [h1, map_d_inj h2]
/-- scalars -/
theorem vr_int {v : V} {i : Int} {Hv : Hp} (h : VR K Hv M v (.d (.int i))) : v = .int i := by
  cases h with
  | d h => cases h; rfl
theorem vr_bool {v : V} {b : Bool} {Hv : Hp} (h : VR K Hv M v (.d (.bool b))) : v = .bl b := by
  cases h with
  | d h => cases h; rfl
theorem vr_str {v : V} {x : PySem.Str} {Hv : Hp} (h : VR K Hv M v (.d (.str x))) : v = .str x := by
  cases h with
  | d h => cases h; rfl
theorem vr_none {v : V} {Hv : Hp} (h : VR K Hv M v (.d .none)) : v = .non := by
  cases h with
  | d h => cases h; rfl
theorem vrs_int : ∀ {vs : List V} {ns : List Int} {Hv : Hp}, VRs K Hv M vs (ns.map fun n => W.d (.int n)) → vs = ns.map V.int
  | _, [], _, h => by cases h; rfl
  | _, n :: ns, _, h => by
    cases h with
    | cons h t => rw [vr_int h, vrs_int t]; rfl
theorem vrs_bool : ∀ {vs : List V} {ns : List Bool} {Hv : Hp}, VRs K Hv M vs (ns.map fun n => W.d (.bool n)) → vs = ns.map V.bl
  | _, [], _, h => by cases h; rfl
  | _, n :: ns, _, h => by
    cases h with
    | cons h t => rw [vr_bool h, vrs_bool t]; rfl

/-! ### a new list, a new tuple: plain data, or a new cell -/
def NL (ws : List W) (μ : Mu) (R : W → Mu → Prop) : Prop := (∃ xs, ws = xs.map W.d ∧ R (.d (.list xs)) μ) ∨ R (.m μ.length) (μ ++ [some (.lst ws)])
def NT (ws : List W) (μ : Mu) (R : W → Mu → Prop) : Prop := (∃ xs, ws = xs.map W.d ∧ R (.d (.tuple xs)) μ) ∨ R (.t ws) μ
theorem NL.d {xs : List PyData} {ws : List W} {R : W → Mu → Prop} (h : R (.d (.list xs)) μ) (e : ws = xs.map W.d := by first | rfl | simp) : NL ws μ R := .inl ⟨xs, e, h⟩
theorem NL.m {ws : List W} {R : W → Mu → Prop} (h : R (.m μ.length) (μ ++ [some (.lst ws)])) : NL ws μ R := .inr h
theorem NT.d {xs : List PyData} {ws : List W} {R : W → Mu → Prop} (h : R (.d (.tuple xs)) μ) (e : ws = xs.map W.d := by first | rfl | simp) : NT ws μ R := .inl ⟨xs, e, h⟩
theorem NT.t {ws : List W} {R : W → Mu → Prop} (h : R (.t ws) μ) : NT ws μ R := .inr h
theorem NL.use {ws : List W} {R : W → Mu → Prop} {vs : List V} {p : Addr} (h : NL ws μ R) (mo : MOk K A M H μ) (r : VRs K (vw A M μ H) M vs ws) (hp : H p = none) :
    ∃ M' μ' w, MOk K A M' (upd H p (.lst vs)) μ' ∧ Eff A M μ H M' μ' (upd H p (.lst vs)) ∧ VR K (vw A M' μ' (upd H p (.lst vs))) M' (.ref p) w ∧ R w μ' := by
  have e : Ex H (upd H p (.lst vs)) := Ex.new hp
  rcases h with ⟨xs, rfl, h⟩ | h
  · exact ⟨M, μ, _, mo.ex e, Eff.of_ex e,   .d (.lst (vw_of (mo.ne_hid hp) upd_same) (dpa_mono (vw_ex e) r.dp)), h⟩
  · refine ⟨M ++ [p], _, _, mo.new hp ⟨vs, rfl, r⟩, Eff.new mo hp, .m ?_, h⟩
    rw [← mo.len, List.getElem?_append_right (Nat.le_refl _)]
    simp
theorem NT.use {ws : List W} {R : W → Mu → Prop} {vs : List V} {p : Addr} (h : NT ws μ R) (mo : MOk K A M H μ) (r : VRs K (vw A M μ H) M vs ws) (hp : H p = none) :
    ∃ w, MOk K A M (upd H p (.tup vs)) μ ∧ Eff A M μ H M μ (upd H p (.tup vs)) ∧ VR K (vw A M μ (upd H p (.tup vs))) M (.ref p) w ∧ R w μ := by
  have e : Ex H (upd H p (.tup vs)) := Ex.new hp
  have hs : SqT K (vw A M μ (upd H p (.tup vs))) p vs := SqT.of (vw_of (mo.ne_hid hp) upd_same)
  rcases h with ⟨xs, rfl, h⟩ | h
  · exact ⟨_, mo.ex e, Eff.of_ex e, .d (.tup hs (dpa_mono (vw_ex e) r.dp)), h⟩
  · exact ⟨_, mo.ex e, Eff.of_ex e, .t hs (r.mono (vw_ex e) (Pre.refl _)), h⟩
end

/-! ### expressions -/
section
variable {K : PySem.W.Frag} {Γ : G} {μ : Mu} {R : W → Mu → Prop} {ta tb te : TE} {t u : TT} {r : R2}
theorem ax_var {i : Nat} {w : W} (h : Γ[i]? = some (some w)) (k : R w μ) : AX K (tVar i) Γ μ R := fun A M σ H c Q q =>
  let ⟨v, e, r⟩ := c.gr.2 i w h
  ⟨v, e, q M H v w μ c.mo Eff.refl r k⟩
theorem ax_int {i : Int} (k : R (.d (.int i)) μ) : AX K (tC (.int i)) Γ μ R := fun A M σ H c Q q => q M H _ _ μ c.mo Eff.refl (.d (.int i)) k
theorem ax_bl {b : Bool} (k : R (.d (.bool b)) μ) : AX K (tC (.bl b)) Γ μ R := fun A M σ H c Q q => q M H _ _ μ c.mo Eff.refl (.d (.bl b)) k
theorem ax_str {x : PySem.Str} (k : R (.d (.str x)) μ) : AX K (tC (.str x)) Γ μ R := fun A M σ H c Q q => q M H _ _ μ c.mo Eff.refl (.d (.str x)) k
theorem ax_cV {v : V} (k : R (.k v) μ) : AX K (tC v) Γ μ R := fun A M σ H c Q q => q M H _ _ μ c.mo Eff.refl (.k v) k
theorem ax_non (k : R (.d .none) μ) : AX K (tC .non) Γ μ R := fun A M σ H c Q q => q M H _ _ μ c.mo Eff.refl (.d .non) k
theorem ax_op (h : AX K ta Γ μ fun x μ1 => AX K tb Γ μ1 fun y μ2 => AO K r x y μ2 R) : AX K (tOp r ta tb) Γ μ R := fun A M σ H c Q q =>
  h A M σ H c _ fun M1 H1 v x μ1 mo1 e1 r1 h1 => h1 A M1 σ H1 (c.eff e1 mo1) _ fun M2 H2 u y μ2 mo2 e2 r2 h2 =>
    h2 A M2 H2 v u mo2 (r1.mono e2.ex e2.pre) r2 Q fun M3 H3 z w μ3 mo3 e3 r3 hR => q M3 H3 z w μ3 mo3 ((e1.trans e2).trans e3) r3 hR
theorem ax_un {r : V → Hp → VK → Prop} (h : AX K ta Γ μ fun x μ1 => AU K r x μ1 R) : AX K (tUn r ta) Γ μ R := fun A M σ H c Q q =>
  h A M σ H c _ fun M1 H1 v x μ1 mo1 e1 r1 h1 => h1 A M1 H1 v mo1 r1 Q fun M3 H3 z w μ3 mo3 e3 r3 hR => q M3 H3 z w μ3 mo3 (e1.trans e3) r3 hR
theorem ax_weak {R' : W → Mu → Prop} (h : AX K te Γ μ R) (k : ∀ w μ', R w μ' → R' w μ') : AX K te Γ μ R' := fun A M σ H c Q q =>
  h A M σ H c Q fun M1 H1 v w μ1 mo e r hr => q M1 H1 v w μ1 mo e r (k _ _ hr)
/-! two ints, and the like -/
theorem ao_I0 {g : Int → Int → V} {d : PyData} {i j : Int} (hd : ∀ Hv, DQ K Hv (g i j) d) (k : R (.d d) μ) : AO K (rI0 g) (.d (.int i)) (.d (.int j)) μ R := fun A M H v u mo rv ru Q q => by
  rw [vr_int rv, vr_int ru]
  exact ⟨i, j, rfl, rfl, q M H _ _ μ mo Eff.refl (.d (hd _)) k⟩
theorem ao_I {P : Int → Int → Prop} {g : Int → Int → V} {d : PyData} {i j : Int} (hd : ∀ Hv, DQ K Hv (g i j) d) (hc : P i j) (k : R (.d d) μ) : AO K (rI P g) (.d (.int i)) (.d (.int j)) μ R := fun A M H v u mo rv ru Q q => by
  rw [vr_int rv, vr_int ru]
  exact ⟨i, j, rfl, rfl, hc, q M H _ _ μ mo Eff.refl (.d (hd _)) k⟩
theorem ao_iI {g : Int → Int → Int} {i j : Int} (k : R (.d (.int (g i j))) μ) : AO K (rI0 fun i j => .int (g i j)) (.d (.int i)) (.d (.int j)) μ R := ao_I0 (fun _ => .int _) k
theorem ao_iB {g : Int → Int → Bool} {i j : Int} (k : R (.d (.bool (g i j))) μ) : AO K (rI0 fun i j => .bl (g i j)) (.d (.int i)) (.d (.int j)) μ R := ao_I0 (fun _ => .bl _) k
theorem ao_cI {P : Int → Int → Prop} {g : Int → Int → Int} {i j : Int} (hc : P i j) (k : R (.d (.int (g i j))) μ) : AO K (rI P fun i j => .int (g i j)) (.d (.int i)) (.d (.int j)) μ R := ao_I (fun _ => .int _) hc k
theorem au_neg {i : Int} (k : R (.d (.int (-i))) μ) : AU K (rU fun i => .int (-i)) (.d (.int i)) μ R := fun A M H v mo rv Q q => by
  rw [vr_int rv]
  exact ⟨i, rfl, q M H _ _ μ mo Eff.refl (.d (.int _)) k⟩
/-- == and != of scalars -/
def sV : PyData → V
  | .bool b => .bl b
  | .int i => .int i
  | .str x => .str x
  | _ => .non
def isS : PyData → Bool
  | .none => true
  | .bool _ => true
  | .int _ => true
  | .str _ => true
  | _ => false
theorem vr_s {v : V} {x : PyData} {Hv : Hp} {M : List Addr} (h : VR K Hv M v (.d x)) (hx : isS x = true) : v = sV x := by
  cases h with
  | d h => cases h <;> first | rfl | cases hx
theorem ao_eq {x y : PyData} (hx : isS x = true) (hy : isS y = true) (hs : scal (sV x) (sV y) = true) (k : R (.d (.bool (decide (sV x = sV y)))) μ) : AO K rEq (.d x) (.d y) μ R := fun A M H v u mo rv ru Q q => by
  rw [vr_s rv hx, vr_s ru hy]
  exact ⟨hs, q M H _ _ μ mo Eff.refl (.d (.bl _)) k⟩
theorem ao_ne {x y : PyData} (hx : isS x = true) (hy : isS y = true) (hs : scal (sV x) (sV y) = true) (k : R (.d (.bool (!decide (sV x = sV y)))) μ) : AO K rNe (.d x) (.d y) μ R := fun A M H v u mo rv ru Q q => by
  rw [vr_s rv hx, vr_s ru hy]
  exact ⟨hs, q M H _ _ μ mo Eff.refl (.d (.bl _)) k⟩
theorem dec_V {i j : Int} : decide (V.int i = V.int j) = decide (i = j) := by
  by_cases h : i = j
  · subst h; simp
  · rw [decide_eq_false h, decide_eq_false fun z => h (V.int.inj z)]
theorem dec_Vb {i j : Bool} : decide (V.bl i = V.bl j) = decide (i = j) := by cases i <;> cases j <;> rfl
theorem dec_Vs {i j : PySem.Str} : decide (V.str i = V.str j) = decide (i = j) := by
  by_cases h : i = j
  · subst h; simp
  · rw [decide_eq_false h, decide_eq_false fun z => h (V.str.inj z)]
theorem ao_eqI {i j : Int} (k : R (.d (.bool (decide (i = j)))) μ) : AO K rEq (.d (.int i)) (.d (.int j)) μ R := ao_eq rfl rfl rfl (by show R (.d (.bool (decide (V.int i = V.int j)))) μ; rw [dec_V]; exact k)
theorem ao_neI {i j : Int} (k : R (.d (.bool (!decide (i = j)))) μ) : AO K rNe (.d (.int i)) (.d (.int j)) μ R := ao_ne rfl rfl rfl (by show R (.d (.bool (!decide (V.int i = V.int j)))) μ; rw [dec_V]; exact k)
theorem ao_eqB {i j : Bool} (k : R (.d (.bool (decide (i = j)))) μ) : AO K rEq (.d (.bool i)) (.d (.bool j)) μ R := ao_eq rfl rfl rfl (by show R (.d (.bool (decide (V.bl i = V.bl j)))) μ; rw [dec_Vb]; exact k)
theorem ao_neB {i j : Bool} (k : R (.d (.bool (!decide (i = j)))) μ) : AO K rNe (.d (.bool i)) (.d (.bool j)) μ R := ao_ne rfl rfl rfl (by show R (.d (.bool (!decide (V.bl i = V.bl j)))) μ; rw [dec_Vb]; exact k)
theorem ao_eqS {i j : PySem.Str} (k : R (.d (.bool (decide (i = j)))) μ) : AO K rEq (.d (.str i)) (.d (.str j)) μ R := ao_eq rfl rfl rfl (by show R (.d (.bool (decide (V.str i = V.str j)))) μ; rw [dec_Vs]; exact k)
theorem ao_neS {i j : PySem.Str} (k : R (.d (.bool (!decide (i = j)))) μ) : AO K rNe (.d (.str i)) (.d (.str j)) μ R := ao_ne rfl rfl rfl (by show R (.d (.bool (!decide (V.str i = V.str j)))) μ; rw [dec_Vs]; exact k)
/-- == and != of data -/
theorem ao_eqD {x y : W} {d e : PyData} (hx : Rs μ x d) (hy : Rs μ y e) (sd : SeqAt.shaped d = true) (se : SeqAt.shaped e = true) (k : R (.d (.bool (PyData.eqv d e))) μ) : AO K (rEqD K) x y μ R := fun A M H v u mo rv ru Q q =>
  ⟨d, e, hx.dp mo rv, hy.dp mo ru, sd, se, q M H _ _ μ mo Eff.refl (.d (.bl _)) k⟩
theorem ao_neD {x y : W} {d e : PyData} (hx : Rs μ x d) (hy : Rs μ y e) (sd : SeqAt.shaped d = true) (se : SeqAt.shaped e = true) (k : R (.d (.bool (!PyData.eqv d e))) μ) : AO K (rNeD K) x y μ R := fun A M H v u mo rv ru Q q =>
  ⟨d, e, hx.dp mo rv, hy.dp mo ru, sd, se, q M H _ _ μ mo Eff.refl (.d (.bl _)) k⟩
/-- is None -/
def isNon : W → Bool
  | .d .none => true
  | .k v => decide (v = .non)
  | _ => false
theorem vr_isN {v : V} {w : W} {Hv : Hp} {M : List Addr} (h : VR K Hv M v w) : decide (v = .non) = isNon w := by
  cases h with
  | d h => cases h <;> rfl
  | m h => rfl
  | t h1 h2 => rfl
  | f h1 h2 => rfl
  | k v => rfl
theorem ax_isN (h : AX K ta Γ μ fun x μ1 => R (.d (.bool (isNon x))) μ1) : AX K (tIsN ta) Γ μ R := fun A M σ H c Q q =>
  h A M σ H c _ fun M1 H1 v x μ1 mo1 e1 r1 h1 => by
    show Q (.bl (decide (v = .non))) H1
    rw [vr_isN r1]
    exact q M1 H1 _ _ μ1 mo1 e1 (.d (.bl _)) h1
theorem ax_notN (h : AX K ta Γ μ fun x μ1 => R (.d (.bool (!isNon x))) μ1) : AX K (tNotN ta) Γ μ R := fun A M σ H c Q q =>
  h A M σ H c _ fun M1 H1 v x μ1 mo1 e1 r1 h1 => by
    show Q (.bl (!decide (v = .non))) H1
    rw [vr_isN r1]
    exact q M1 H1 _ _ μ1 mo1 e1 (.d (.bl _)) h1
/-! tests -/
section
variable {RT : Bool → Mu → Prop}
theorem at_test (h : AX K te Γ μ fun w μ1 => ∃ b, w = .d (.bool b) ∧ RT b μ1) : AXT K (tTest te) Γ μ RT := fun A M σ H c Q q =>
  h A M σ H c _ fun M1 H1 v w μ1 mo1 e1 r1 ⟨b, hb, hR⟩ => by
    subst hb
    exact ⟨b, vr_bool r1, q M1 H1 b μ1 mo1 e1 hR⟩
theorem at_B (h : AX K te Γ μ fun w μ1 => ∃ b, w = .d (.bool b) ∧ RT b μ1) : AXT K (tB te) Γ μ RT := fun A M σ H c Q q =>
  h A M σ H c _ fun M1 H1 v w μ1 mo1 e1 r1 ⟨b, hb, hR⟩ => by
    subst hb
    exact ⟨b, vr_bool r1, q M1 H1 b μ1 mo1 e1 hR⟩
theorem at_and (h : AXT K t Γ μ fun a μ1 => if a = true then AXT K u Γ μ1 RT else RT false μ1) : AXT K (tAnd t u) Γ μ RT := fun A M σ H c Q q =>
  h A M σ H c _ fun M1 H1 a μ1 mo1 e1 h1 => by
    cases a with
    | true =>
      show u σ H1 Q
      exact h1 A M1 σ H1 (c.eff e1 mo1) Q fun M2 H2 b μ2 mo2 e2 h2 => q M2 H2 b μ2 mo2 (e1.trans e2) h2
    | false => exact q M1 H1 false μ1 mo1 e1 h1
theorem at_or (h : AXT K t Γ μ fun a μ1 => if a = true then RT true μ1 else AXT K u Γ μ1 RT) : AXT K (tOr t u) Γ μ RT := fun A M σ H c Q q =>
  h A M σ H c _ fun M1 H1 a μ1 mo1 e1 h1 => by
    cases a with
    | false =>
      show u σ H1 Q
      exact h1 A M1 σ H1 (c.eff e1 mo1) Q fun M2 H2 b μ2 mo2 e2 h2 => q M2 H2 b μ2 mo2 (e1.trans e2) h2
    | true => exact q M1 H1 true μ1 mo1 e1 h1
theorem at_not (h : AXT K t Γ μ fun a μ1 => RT (!a) μ1) : AXT K (tNot t) Γ μ RT := fun A M σ H c Q q =>
  h A M σ H c _ fun M1 H1 a μ1 mo1 e1 h1 => q M1 H1 (!a) μ1 mo1 e1 h1
theorem at_yes (h : RT true μ) : AXT K tYes Γ μ RT := fun A M σ H c Q q => q M H true μ c.mo Eff.refl h
theorem at_weak {RT' : Bool → Mu → Prop} (h : AXT K t Γ μ RT) (k : ∀ w μ', RT w μ' → RT' w μ') : AXT K t Γ μ RT' := fun A M σ H c Q q =>
  h A M σ H c Q fun M1 H1 w μ1 mo e hr => q M1 H1 w μ1 mo e (k _ _ hr)
end
theorem ax_andV (h : AX K ta Γ μ fun x μ1 => ∃ b, x = .d (.bool b) ∧ if b = true then AX K tb Γ μ1 R else R (.d (.bool false)) μ1) : AX K (tAndV ta tb) Γ μ R := fun A M σ H c Q q =>
  h A M σ H c _ fun M1 H1 v x μ1 mo1 e1 r1 ⟨b, hb, h1⟩ => by
    subst hb
    refine ⟨b, vr_bool r1, ?_⟩
    cases b with
    | true =>
      show tb σ H1 Q
      exact h1 A M1 σ H1 (c.eff e1 mo1) Q fun M2 H2 z w μ2 mo2 e2 r2 h2 => q M2 H2 z w μ2 mo2 (e1.trans e2) r2 h2
    | false => exact q M1 H1 _ _ μ1 mo1 e1 (.d (.bl false)) h1
theorem ax_orV (h : AX K ta Γ μ fun x μ1 => ∃ b, x = .d (.bool b) ∧ if b = true then R (.d (.bool true)) μ1 else AX K tb Γ μ1 R) : AX K (tOrV ta tb) Γ μ R := fun A M σ H c Q q =>
  h A M σ H c _ fun M1 H1 v x μ1 mo1 e1 r1 ⟨b, hb, h1⟩ => by
    subst hb
    refine ⟨b, vr_bool r1, ?_⟩
    cases b with
    | false =>
      show tb σ H1 Q
      exact h1 A M1 σ H1 (c.eff e1 mo1) Q fun M2 H2 z w μ2 mo2 e2 r2 h2 => q M2 H2 z w μ2 mo2 (e1.trans e2) r2 h2
    | true => exact q M1 H1 _ _ μ1 mo1 e1 (.d (.bl true)) h1
theorem ax_notV (h : AX K ta Γ μ fun x μ1 => ∃ b, x = .d (.bool b) ∧ R (.d (.bool (!b))) μ1) : AX K (tNotV ta) Γ μ R := fun A M σ H c Q q =>
  h A M σ H c _ fun M1 H1 v x μ1 mo1 e1 r1 ⟨b, hb, h1⟩ => by
    subst hb
    exact ⟨b, vr_bool r1, q M1 H1 _ _ μ1 mo1 e1 (.d (.bl _)) h1⟩
theorem ax_if (h : AXT K t Γ μ fun a μ1 => if a = true then AX K ta Γ μ1 R else AX K tb Γ μ1 R) : AX K (tIf t ta tb) Γ μ R := fun A M σ H c Q q =>
  h A M σ H c _ fun M1 H1 a μ1 mo1 e1 h1 => by
    cases a with
    | true =>
      show ta σ H1 Q
      exact h1 A M1 σ H1 (c.eff e1 mo1) Q fun M2 H2 z w μ2 mo2 e2 r2 h2 => q M2 H2 z w μ2 mo2 (e1.trans e2) r2 h2
    | false =>
      show tb σ H1 Q
      exact h1 A M1 σ H1 (c.eff e1 mo1) Q fun M2 H2 z w μ2 mo2 e2 r2 h2 => q M2 H2 z w μ2 mo2 (e1.trans e2) r2 h2
/-! arguments -/
section
variable {RA : List W → Mu → Prop} {tr : TA}
theorem aa_nil (k : RA [] μ) : AXA K tNil Γ μ RA := fun A M σ H c Q q => q M H _ _ μ c.mo Eff.refl .nil k
theorem aa_cons (h : AX K ta Γ μ fun x μ1 => AXA K tr Γ μ1 fun ws μ2 => RA (x :: ws) μ2) : AXA K (tCons ta tr) Γ μ RA := fun A M σ H c Q q =>
  h A M σ H c _ fun M1 H1 v x μ1 mo1 e1 r1 h1 => h1 A M1 σ H1 (c.eff e1 mo1) _ fun M2 H2 vs ws μ2 mo2 e2 r2 h2 =>
    q M2 H2 (v :: vs) (x :: ws) μ2 mo2 (e1.trans e2) (.cons (r1.mono e2.ex e2.pre) r2) h2
end
theorem ax_tup {tr : TA} (h : AXA K tr Γ μ fun ws μ1 => ws.length ≤ sizeLine ∧ NT ws μ1 R) : AX K (tTup tr) Γ μ R := fun A M σ H c Q q =>
  h A M σ H c _ fun M1 H1 vs ws μ1 mo1 e1 r1 ⟨hl, hn⟩ => ⟨by rw [r1.length]; exact hl, fun p hp => by
    obtain ⟨w, m2, e2, r2, hR⟩ := hn.use mo1 r1 hp
    exact q M1 _ _ w μ1 m2 (e1.trans e2) r2 hR⟩
theorem ax_lst {tr : TA} (h : AXA K tr Γ μ fun ws μ1 => ws.length ≤ sizeLine ∧ NL ws μ1 R) : AX K (tLst tr) Γ μ R := fun A M σ H c Q q =>
  h A M σ H c _ fun M1 H1 vs ws μ1 mo1 e1 r1 ⟨hl, hn⟩ => ⟨by rw [r1.length]; exact hl, fun p hp => by
    obtain ⟨M2, μ2, w, m2, e2, r2, hR⟩ := hn.use mo1 r1 hp
    exact q M2 _ _ w μ2 m2 (e1.trans e2) r2 hR⟩
theorem ax_cb {r : List V → Hp → VK → Prop} {tr : TA} (h : AXA K tr Γ μ fun ws μ1 => AC K r ws μ1 R) : AX K (tCB r tr) Γ μ R := fun A M σ H c Q q =>
  h A M σ H c _ fun M1 H1 vs ws μ1 mo1 e1 r1 h1 => h1 A M1 H1 vs mo1 r1 Q fun M3 H3 z w μ3 mo3 e3 r3 hR => q M3 H3 z w μ3 mo3 (e1.trans e3) r3 hR
/-- a method of a built-in type -/
def tyW (T : String) (μ : Mu) : W → Prop
  | .m k => T = "list" ∧ ∃ ws, μ[k]? = some (some (.lst ws))
  | .d (.list _) => T = "list"
  | .f _ => T = "list"
  | .d (.str _) => T = "str"
  | .d (.int _) => T = "int"
  | _ => False
end
end Pd

namespace Pd
open PySem L2
open Evl (Ex)
section
variable {K : PySem.W.Frag} {A : Addr → Prop} {M : List Addr} {H : Hp} {Γ : G} {μ : Mu} {R : W → Mu → Prop} {ta tb te : TE} {t u : TT} {r : R2}
theorem tyW_ok {T : String} {w : W} {v : V} (mo : MOk K A M H μ) (rv : VR K (vw A M μ H) M v w) (h : tyW T μ w) : tyV K T v H := by
  cases rv with
  | d rv =>
    cases rv with
    | non => cases h
    | bl _ => cases h
    | int _ => exact h
    | str _ => exact h
    | lst h1 h2 => exact .inl ⟨h, _, SqL.of (vw_le _ _ h1)⟩
    | tup _ _ => cases h
  | m hm =>
    obtain ⟨e, ws, hk⟩ := h
    obtain ⟨o, e2, vs, rfl, _⟩ := mo.ct _ _ _ hm hk
    exact .inl ⟨e, _, SqL.of e2⟩
  | t _ _ => cases h
  | f h1 h2 => exact .inl ⟨h, _, Evl.ex_l vw_le h1⟩
  | k v => cases h
theorem ax_bm {T : String} {rm : V → List V → Hp → VK → Prop} {tr : TA} (h : AX K ta Γ μ fun x μ1 => tyW T μ1 x ∧ AXA K tr Γ μ1 fun ws μ2 => AM K rm x ws μ2 R) : AX K (tBM K T rm ta tr) Γ μ R := fun A M σ H c Q q =>
  h A M σ H c _ fun M1 H1 v x μ1 mo1 e1 r1 ⟨ty, h1⟩ => ⟨tyW_ok mo1 r1 ty, h1 A M1 σ H1 (c.eff e1 mo1) _ fun M2 H2 vs ws μ2 mo2 e2 r2 h2 =>
    h2 A M2 H2 v vs mo2 (r1.mono e2.ex e2.pre) r2 Q fun M3 H3 z w μ3 mo3 e3 r3 hR => q M3 H3 z w μ3 mo3 ((e1.trans e2).trans e3) r3 hR⟩
theorem ax_bm0 {T : String} {rm : V → List V → Hp → VK → Prop} (h : AX K ta Γ μ fun x μ1 => tyW T μ1 x ∧ AM K rm x [] μ1 R) : AX K (tBM0 K T rm ta) Γ μ R := fun A M σ H c Q q =>
  h A M σ H c _ fun M1 H1 v x μ1 mo1 e1 r1 ⟨ty, h1⟩ => ⟨tyW_ok mo1 r1 ty, h1 A M1 H1 v [] mo1 r1 .nil Q fun M3 H3 z w μ3 mo3 e3 r3 hR => q M3 H3 z w μ3 mo3 (e1.trans e3) r3 hR⟩
/-! lists that change -/
theorem cell_get {k : Nat} {ws : List W} {v : V} (mo : MOk K A M H μ) (rv : VR K (vw A M μ H) M v (.m k)) (hk : μ[k]? = some (some (.lst ws))) : ∃ a vs, v = .ref a ∧ M[k]? = some a ∧ H a = some (.lst vs) ∧ VRs K (vw A M μ H) M vs ws := by
  cases rv with
  | m hm =>
    obtain ⟨o, e, vs, rfl, r⟩ := mo.ct _ _ _ hm hk
    exact ⟨_, vs, rfl, hm, e, r⟩
theorem am_append {k : Nat} {ws : List W} {w : W} (hk : μ[k]? = some (some (.lst ws))) (hl : ws.length < sizeLine) (q : R (.d .none) (μ.set k (some (.lst (ws ++ [w]))))) : AM K rAppend (.m k) [w] μ R := fun A M H v vs mo rv rs Q h => by
  obtain ⟨a, us, rfl, hm, e, ru⟩ := cell_get mo rv hk
  cases rs with
  | cons rw rn =>
    cases rn
    refine ⟨a, us, _, rfl, rfl, e, by rw [ru.length]; exact hl, ?_⟩
    have mo' : MOk K A M (upd H a (.lst (us ++ [_]))) (μ.set k (some (.lst (ws ++ [w])))) := mo.write hm hk ⟨_, rfl, ru.snoc rw⟩
    exact h M _ _ _ _ mo' (Eff.write mo hm hk) (.d .non) q
theorem am_pop {k : Nat} {ws : List W} {w : W} (hk : μ[k]? = some (some (.lst ws))) (hw : ws[ws.length - 1]? = some w) (q : R w (μ.set k (some (.lst ws.dropLast)))) : AM K rPop (.m k) [] μ R := fun A M H v vs mo rv rs Q h => by
  obtain ⟨a, us, rfl, hm, e, ru⟩ := cell_get mo rv hk
  cases rs
  obtain ⟨y, hy, ry⟩ := ru.getW hw
  refine ⟨a, us, y, rfl, rfl, e, by rw [ru.length]; exact hy, ?_⟩
  have mo' : MOk K A M (upd H a (.lst us.dropLast)) (μ.set k (some (.lst ws.dropLast))) := mo.write hm hk ⟨_, rfl, ru.dropLast⟩
  have e' : Eff A M μ H M (μ.set k (some (.lst ws.dropLast))) (upd H a (.lst us.dropLast)) := Eff.write mo hm hk
  exact h M _ _ _ _ mo' e' (ry.mono e'.ex e'.pre) q
theorem am_popAt {k : Nat} {ws : List W} {w : W} {i : Int} {j : Nat} (hk : μ[k]? = some (some (.lst ws))) (hi : -(2 ^ 63) ≤ i ∧ i < 2 ^ 63) (hj : seqIndex? i ws.length = some j) (hw : ws[j]? = some w) (q : R w (μ.set k (some (.lst (ws.eraseIdx j))))) : AM K rPopAt (.m k) [.d (.int i)] μ R := fun A M H v vs mo rv rs Q h => by
  obtain ⟨a, us, rfl, hm, e, ru⟩ := cell_get mo rv hk
  cases rs with
  | cons rw rn =>
    cases rn
    rw [vr_int rw]
    obtain ⟨y, hy, ry⟩ := ru.getW hw
    refine ⟨a, us, i, j, y, rfl, rfl, e, hi.1, hi.2, by rw [ru.length]; exact hj, hy, ?_⟩
    have mo' : MOk K A M (upd H a (.lst (us.eraseIdx j))) (μ.set k (some (.lst (ws.eraseIdx j)))) := mo.write hm hk ⟨_, rfl, ru.eraseIdx j⟩
    have e' : Eff A M μ H M (μ.set k (some (.lst (ws.eraseIdx j)))) (upd H a (.lst (us.eraseIdx j))) := Eff.write mo hm hk
    exact h M _ _ _ _ mo' e' (ry.mono e'.ex e'.pre) q
theorem am_extend {k : Nat} {ws zs : List W} {w : W} (hk : μ[k]? = some (some (.lst ws))) (hw : LN μ w zs) (hl : ws.length + zs.length ≤ sizeLine) (q : R (.d .none) (μ.set k (some (.lst (ws ++ zs))))) : AM K rExtend (.m k) [w] μ R := fun A M H v vs mo rv rs Q h => by
  obtain ⟨a, us, rfl, hm, e, ru⟩ := cell_get mo rv hk
  cases rs with
  | cons rw rn =>
    cases rn
    obtain ⟨b, ys, rfl, eb, rb⟩ := hw.get mo rw
    refine ⟨a, b, us, ys, rfl, rfl, e, eb, by rw [ru.length, rb.length]; exact hl, ?_⟩
    have mo' : MOk K A M (upd H a (.lst (us ++ ys))) (μ.set k (some (.lst (ws ++ zs)))) := mo.write hm hk ⟨_, rfl, ru.append rb⟩
    exact h M _ _ _ _ mo' (Eff.write mo hm hk) (.d .non) q
/-! items, slices, sums of lists -/
theorem atI_map {ws : List W} {vs : List V} {i : Int} {w : W} {Hv : Hp} (ru : VRs K Hv M vs ws) (h : atI ws i = some w) : ∃ v, atI vs i = some v ∧ VR K Hv M v w := by
  unfold atI at h ⊢
  rw [ru.length]
  cases e : ixN ws.length i with
  | none => rw [e] at h; cases h
  | some j =>
    rw [e] at h
    exact ru.getW h
theorem ao_ixL {x z : W} {ws : List W} {i : Int} (hx : LW μ x ws) (hz : atI ws i = some z) (q : R z μ) : AO K (rIxL K) x (.d (.int i)) μ R := fun A M H v u mo rv ru Q h => by
  obtain ⟨a, vs, rfl, hs, rs⟩ := hx.get mo rv
  rw [vr_int ru]
  obtain ⟨y, hy, ry⟩ := atI_map rs hz
  exact ⟨a, vs, i, y, rfl, rfl, hs, hy, h M H y z μ mo Eff.refl ry q⟩
theorem ao_ixT {x z : W} {ws : List W} {i : Int} (hx : TW x ws) (hz : atI ws i = some z) (q : R z μ) : AO K (rIxT K) x (.d (.int i)) μ R := fun A M H v u mo rv ru Q h => by
  obtain ⟨a, vs, rfl, hs, rs⟩ := hx.get rv
  rw [vr_int ru]
  obtain ⟨y, hy, ry⟩ := atI_map rs hz
  exact ⟨a, vs, i, y, rfl, rfl, Evl.ex_t vw_le hs, hy, h M H y z μ mo Eff.refl ry q⟩
theorem ao_ixS {x : PySem.Str} {i : Int} {c : Nat} (hl : x.length ≤ sizeLine) (hc : atI x.cps.toList i = some c) (q : R (.d (.str ⟨#[c]⟩)) μ) : AO K rIxS (.d (.str x)) (.d (.int i)) μ R := fun A M H v u mo rv ru Q h => by
  rw [vr_int ru, vr_str rv]
  exact ⟨x, i, c, rfl, rfl, hl, hc, h M H _ _ μ mo Eff.refl (.d (.str _)) q⟩
theorem ao_cat {x y : W} {ws zs : List W} (hx : LN μ x ws) (hy : LN μ y zs) (hl : ws.length + zs.length ≤ sizeLine) (q : NL (ws ++ zs) μ R) : AO K rCat x y μ R := fun A M H v u mo rv ru Q h => by
  obtain ⟨a, vs, rfl, ha, ra⟩ := hx.get mo rv
  obtain ⟨b, us, rfl, hb, rb⟩ := hy.get mo ru
  refine ⟨a, b, vs, us, rfl, rfl, ha, hb, by rw [ra.length, rb.length]; exact hl, fun p hp => ?_⟩
  obtain ⟨M2, μ2, w, m2, e2, r2, hR⟩ := q.use mo (ra.append rb) hp
  exact h M2 _ _ w μ2 m2 e2 r2 hR
theorem vrs_rep {vs : List V} {ws : List W} {Hv : Hp} (h : VRs K Hv M vs ws) : ∀ n : Nat, VRs K Hv M (List.replicate n vs).flatten (List.replicate n ws).flatten
  | 0 => .nil
  | n + 1 => by
    rw [List.replicate_succ, List.replicate_succ, List.flatten_cons, List.flatten_cons]
    exact h.append (vrs_rep h n)
theorem ao_rep {x : W} {ws : List W} {k : Int} (hx : LN μ x ws) (hk : -(2 ^ 63) ≤ k ∧ k < 2 ^ 63) (hl : ws.length * k.toNat ≤ sizeLine) (q : NL (List.replicate k.toNat ws).flatten μ R) : AO K rRep x (.d (.int k)) μ R := fun A M H v u mo rv ru Q h => by
  obtain ⟨a, vs, rfl, ha, ra⟩ := hx.get mo rv
  rw [vr_int ru]
  refine ⟨a, k, vs, rfl, rfl, ha, hk.1, hk.2, by rw [ra.length]; exact hl, fun p hp => ?_⟩
  obtain ⟨M2, μ2, w, m2, e2, r2, hR⟩ := q.use mo (vrs_rep ra k.toNat) hp
  exact h M2 _ _ w μ2 m2 e2 r2 hR
def cutW (xs : List W) (lo hi : Option Int) : List W := (xs.drop (HT.sIx xs.length 0 lo)).take (HT.sIx xs.length xs.length hi - HT.sIx xs.length 0 lo)
theorem vrs_cut {vs : List V} {ws : List W} {Hv : Hp} (h : VRs K Hv M vs ws) (lo hi : Option Int) : VRs K Hv M (cutV vs lo hi) (cutW ws lo hi) := by
  unfold cutV cutW
  rw [h.length]
  exact (h.drop _).take _
section
variable {RO : Option Int → Mu → Prop}
theorem xo_no (q : RO none μ) : AXO K tNoPart Γ μ RO := fun A M σ H c Q h => h M H none μ c.mo Eff.refl q
theorem xo_some (h : AX K te Γ μ fun w μ1 => ∃ i, w = .d (.int i) ∧ RO (some i) μ1) : AXO K (tPart te) Γ μ RO := fun A M σ H c Q q =>
  h A M σ H c _ fun M1 H1 v w μ1 mo1 e1 r1 ⟨i, hi, hR⟩ => by
    subst hi
    exact ⟨i, vr_int r1, q M1 H1 (some i) μ1 mo1 e1 hR⟩
end
def ASl (K : PySem.W.Frag) (r : V → Option Int → Option Int → Hp → VK → Prop) (x : W) (lo hi : Option Int) (μ : Mu) (R : W → Mu → Prop) : Prop := AU K (fun v H Q => r v lo hi H Q) x μ R
theorem ax_sl {r : V → Option Int → Option Int → Hp → VK → Prop} {tl th : TO} (h : AX K te Γ μ fun x μ1 => AXO K tl Γ μ1 fun lo μ2 => AXO K th Γ μ2 fun hi μ3 => ASl K r x lo hi μ3 R) : AX K (tSl r te tl th) Γ μ R := fun A M σ H c Q q =>
  h A M σ H c _ fun M1 H1 v x μ1 mo1 e1 r1 h1 => h1 A M1 σ H1 (c.eff e1 mo1) _ fun M2 H2 lo μ2 mo2 e2 h2 => h2 A M2 σ H2 (c.eff (e1.trans e2) mo2) _ fun M3 H3 hi μ3 mo3 e3 h3 =>
    h3 A M3 H3 v mo3 (r1.mono (e2.trans e3).ex (e2.trans e3).pre) Q fun M4 H4 z w μ4 mo4 e4 r4 hR => q M4 H4 z w μ4 mo4 (((e1.trans e2).trans e3).trans e4) r4 hR
theorem as_slL {x : W} {ws : List W} {lo hi : Option Int} (hx : LW μ x ws) (q : NL (cutW ws lo hi) μ R) : ASl K (rSlL K) x lo hi μ R := fun A M H v mo rv Q h => by
  obtain ⟨a, vs, rfl, hs, rs⟩ := hx.get mo rv
  refine ⟨a, vs, rfl, hs, fun p hp => ?_⟩
  obtain ⟨M2, μ2, w, m2, e2, r2, hR⟩ := q.use mo (vrs_cut rs lo hi) hp
  exact h M2 _ _ w μ2 m2 e2 r2 hR
theorem as_slS {x : PySem.Str} {lo hi : Option Int} (hl : x.length ≤ sizeLine) (q : R (.d (.str (cutS x lo hi))) μ) : ASl K rSlS (.d (.str x)) lo hi μ R := fun A M H v mo rv Q h => by
  rw [vr_str rv]
  exact ⟨x, rfl, hl, h M H _ _ μ mo Eff.refl (.d (.str _)) q⟩
theorem ax_revL (h : AX K te Γ μ fun x μ1 => ∃ ws, LW μ1 x ws ∧ NL ws.reverse μ1 R) : AX K (tRevL K te) Γ μ R := fun A M σ H c Q q =>
  h A M σ H c _ fun M1 H1 v x μ1 mo1 e1 r1 ⟨ws, hx, hn⟩ => by
    obtain ⟨a, vs, rfl, hs, rs⟩ := hx.get mo1 r1
    refine ⟨a, vs, rfl, hs, fun p hp => ?_⟩
    obtain ⟨M2, μ2, w, m2, e2, r2, hR⟩ := hn.use mo1 rs.reverse hp
    exact q M2 _ _ w μ2 m2 (e1.trans e2) r2 hR
/-! built-ins by values -/
/-- a reading that wants a list's address and items -/
theorem ac_len {x : W} {ws : List W} (hx : LW μ x ws) (q : R (.d (.int ws.length)) μ) : AC K (fun xs H Q => ∃ p ys, xs = [.ref p] ∧ (SqL K H p ys ∨ SqT K H p ys) ∧ Q (.int ys.length) H) [x] μ R := fun A M H vs mo rs Q h => by
  cases rs with
  | cons rw rn =>
    cases rn
    obtain ⟨a, us, rfl, hs, ru⟩ := hx.get mo rw
    refine ⟨a, us, rfl, .inl hs, ?_⟩
    rw [ru.length]
    exact h M H _ _ μ mo Eff.refl (.d (.int _)) q
theorem ac_lenT {x : W} {ws : List W} (hx : TW x ws) (q : R (.d (.int ws.length)) μ) : AC K (fun xs H Q => ∃ p ys, xs = [.ref p] ∧ (SqL K H p ys ∨ SqT K H p ys) ∧ Q (.int ys.length) H) [x] μ R := fun A M H vs mo rs Q h => by
  cases rs with
  | cons rw rn =>
    cases rn
    obtain ⟨a, us, rfl, hs, ru⟩ := hx.get rw
    refine ⟨a, us, rfl, .inr (Evl.ex_t vw_le hs), ?_⟩
    rw [ru.length]
    exact h M H _ _ μ mo Eff.refl (.d (.int _)) q
theorem ac_list {x : W} {ws : List W} (hx : LW μ x ws) (q : NL ws μ R) : AC K (fun xs H Q => ∃ p ys, xs = [.ref p] ∧ (SqL K H p ys ∨ SqT K H p ys) ∧ ∀ l, H l = none → Q (.ref l) (upd H l (.lst ys))) [x] μ R := fun A M H vs mo rs Q h => by
  cases rs with
  | cons rw rn =>
    cases rn
    obtain ⟨a, us, rfl, hs, ru⟩ := hx.get mo rw
    refine ⟨a, us, rfl, .inl hs, fun p hp => ?_⟩
    obtain ⟨M2, μ2, w, m2, e2, r2, hR⟩ := q.use mo ru hp
    exact h M2 _ _ w μ2 m2 e2 r2 hR
theorem ac_listT {x : W} {ws : List W} (hx : TW x ws) (q : NL ws μ R) : AC K (fun xs H Q => ∃ p ys, xs = [.ref p] ∧ (SqL K H p ys ∨ SqT K H p ys) ∧ ∀ l, H l = none → Q (.ref l) (upd H l (.lst ys))) [x] μ R := fun A M H vs mo rs Q h => by
  cases rs with
  | cons rw rn =>
    cases rn
    obtain ⟨a, us, rfl, hs, ru⟩ := hx.get rw
    refine ⟨a, us, rfl, .inr (Evl.ex_t vw_le hs), fun p hp => ?_⟩
    obtain ⟨M2, μ2, w, m2, e2, r2, hR⟩ := q.use mo (ru) hp
    exact h M2 _ _ w μ2 m2 e2 r2 hR
theorem ac_tupleL {x : W} {ws : List W} (hx : LW μ x ws) (q : NT ws μ R) : AC K (fun xs H Q => ∃ p ys, xs = [.ref p] ∧ ((SqL K H p ys ∧ ∀ l, H l = none → Q (.ref l) (upd H l (.tup ys))) ∨ (SqT K H p ys ∧ Q (.ref p) H))) [x] μ R := fun A M H vs mo rs Q h => by
  cases rs with
  | cons rw rn =>
    cases rn
    obtain ⟨a, us, rfl, hs, ru⟩ := hx.get mo rw
    refine ⟨a, us, rfl, .inl ⟨hs, fun p hp => ?_⟩⟩
    obtain ⟨w, m2, e2, r2, hR⟩ := q.use mo ru hp
    exact h M _ _ w μ m2 e2 r2 hR
theorem ac_1 {g : Int → Int} {i : Int} (q : R (.d (.int (g i))) μ) : AC K (fun xs H Q => ∃ i, xs = [.int i] ∧ Q (.int (g i)) H) [.d (.int i)] μ R := fun A M H vs mo rs Q h => by
  cases rs with
  | cons rw rn =>
    cases rn
    exact ⟨i, by rw [vr_int rw], h M H _ _ μ mo Eff.refl (.d (.int _)) q⟩
theorem ac_2 {g : Int → Int → Int} {i j : Int} (q : R (.d (.int (g i j))) μ) : AC K (fun xs H Q => ∃ i j, xs = [.int i, .int j] ∧ Q (.int (g i j)) H) [.d (.int i), .d (.int j)] μ R := fun A M H vs mo rs Q h => by
  cases rs with
  | cons rw rn =>
    cases rn with
    | cons rw2 rn =>
      cases rn
      exact ⟨i, j, by rw [vr_int rw, vr_int rw2], h M H _ _ μ mo Eff.refl (.d (.int _)) q⟩
theorem ac_int {i : Int} (q : R (.d (.int i)) μ) : AC K (fun xs H Q => (∃ i, xs = [.int i] ∧ Q (.int i) H) ∨ ∃ k, xs = [.bl k] ∧ Q (.int (if k then 1 else 0)) H) [.d (.int i)] μ R := fun A M H vs mo rs Q h => by
  cases rs with
  | cons rw rn =>
    cases rn
    exact .inl ⟨i, by rw [vr_int rw], h M H _ _ μ mo Eff.refl (.d (.int _)) q⟩
theorem ac_intB {i : Bool} (q : R (.d (.int (if i then 1 else 0))) μ) : AC K (fun xs H Q => (∃ i, xs = [.int i] ∧ Q (.int i) H) ∨ ∃ k, xs = [.bl k] ∧ Q (.int (if k then 1 else 0)) H) [.d (.bool i)] μ R := fun A M H vs mo rs Q h => by
  cases rs with
  | cons rw rn =>
    cases rn
    exact .inr ⟨i, by rw [vr_bool rw], h M H _ _ μ mo Eff.refl (.d (.int _)) q⟩
theorem ac_sum {x : W} {ns : List Int} (hx : LW μ x (ns.map fun n => W.d (.int n))) (q : R (.d (.int ns.sum)) μ) : AC K (rSum K) [x] μ R := fun A M H vs mo rs Q h => by
  cases rs with
  | cons rw rn =>
    cases rn
    obtain ⟨a, us, rfl, hs, ru⟩ := hx.get mo rw
    rw [vrs_int ru] at hs
    exact ⟨a, ns, rfl, hs, h M H _ _ μ mo Eff.refl (.d (.int _)) q⟩
theorem ac_max {x : W} {ns : List Int} (hx : LW μ x (ns.map fun n => W.d (.int n))) (h0 : 0 < ns.length) (q : ∀ m, m ∈ ns → (∀ y, y ∈ ns → y ≤ m) → R (.d (.int m)) μ) : AC K (rMax K) [x] μ R := fun A M H vs mo rs Q h => by
  cases rs with
  | cons rw rn =>
    cases rn
    obtain ⟨a, us, rfl, hs, ru⟩ := hx.get mo rw
    rw [vrs_int ru] at hs
    exact ⟨a, ns, rfl, hs, h0, fun m m1 m2 => h M H _ _ μ mo Eff.refl (.d (.int _)) (q m m1 m2)⟩
theorem ac_min {x : W} {ns : List Int} (hx : LW μ x (ns.map fun n => W.d (.int n))) (h0 : 0 < ns.length) (q : ∀ m, m ∈ ns → (∀ y, y ∈ ns → m ≤ y) → R (.d (.int m)) μ) : AC K (rMin K) [x] μ R := fun A M H vs mo rs Q h => by
  cases rs with
  | cons rw rn =>
    cases rn
    obtain ⟨a, us, rfl, hs, ru⟩ := hx.get mo rw
    rw [vrs_int ru] at hs
    exact ⟨a, ns, rfl, hs, h0, fun m m1 m2 => h M H _ _ μ mo Eff.refl (.d (.int _)) (q m m1 m2)⟩
theorem ac_all {x : W} {bs : List Bool} (hx : LW μ x (bs.map fun n => W.d (.bool n))) (q : R (.d (.bool (bs.all id))) μ) : AC K (rAll K) [x] μ R := fun A M H vs mo rs Q h => by
  cases rs with
  | cons rw rn =>
    cases rn
    obtain ⟨a, us, rfl, hs, ru⟩ := hx.get mo rw
    rw [vrs_bool ru] at hs
    exact ⟨a, bs, rfl, hs, h M H _ _ μ mo Eff.refl (.d (.bl _)) q⟩
end
/-! ### targets, statements -/
section
variable {K : PySem.W.Frag} {A : Addr → Prop} {M M' : List Addr} {H H' : Hp} {Γ : G} {μ μ' : Mu} {ta te tl : TE} {c : TT} {t u tb : TS} {g : TG} {D : AEn}
theorem ag_name {i : Nat} {w : W} {R : G → Mu → Prop} (q : R (Γ.set i (some w)) μ) : AG K (gName i) w Γ μ R := fun A M σ H v c rv Q h => h M _ H _ μ ⟨c.mo, c.gr.set rv⟩ Eff.refl q
theorem ags_nil {R : G → Mu → Prop} (q : R Γ μ) : AGs K gNil [] Γ μ R := fun A M σ H vs c rs Q h => by
  cases rs
  exact ⟨rfl, h M σ H Γ μ c Eff.refl q⟩
theorem ags_cons {g : TG} {gs : TGs} {w : W} {ws : List W} {R : G → Mu → Prop} (h : AG K g w Γ μ fun Γ1 μ1 => AGs K gs ws Γ1 μ1 R) : AGs K (gCons g gs) (w :: ws) Γ μ R := fun A M σ H vs c rs Q q => by
  cases rs with
  | cons r1 r2 =>
    refine ⟨_, _, rfl, h A M σ H _ c r1 _ fun M1 σ1 H1 Γ1 μ1 c1 e1 h1 => ?_⟩
    exact h1 A M1 σ1 H1 _ c1 (r2.mono e1.ex e1.pre) Q fun M2 σ2 H2 Γ2 μ2 c2 e2 h2 => q M2 σ2 H2 Γ2 μ2 c2 (e1.trans e2) h2
theorem ag_tup {gs : TGs} {n : Nat} {w : W} {ws : List W} {R : G → Mu → Prop} (hw : TW w ws) (hn : ws.length = n) (h : AGs K gs ws Γ μ R) : AG K (gTup K n gs) w Γ μ R := fun A M σ H v c rv Q q => by
  obtain ⟨a, vs, rfl, hs, rs⟩ := hw.get rv
  exact ⟨a, vs, rfl, Evl.ex_t vw_le hs, by rw [rs.length]; exact hn, h A M σ H vs c rs Q q⟩
theorem as_asg (h : AX K te Γ μ fun w μ1 => AG K g w Γ μ1 D.nx) : AS K (tAsg te g) D Γ μ := fun A M σ H cn E hd =>
  h A M σ H cn _ fun M1 H1 v w μ1 mo1 e1 r1 h1 => h1 A M1 σ H1 v (cn.eff e1 mo1) r1 _ fun M2 σ2 H2 Γ2 μ2 c2 e2 h2 => hd.nx M2 σ2 H2 Γ2 μ2 c2 (e1.trans e2) h2
theorem as_par {i j : Nat} {tr : TA} (h : AXA K tr Γ μ fun ws μ1 => ∃ x y, ws = [x, y] ∧ D.nx ((Γ.set i (some x)).set j (some y)) μ1) : AS K (tPar i j tr) D Γ μ := fun A M σ H cn E hd =>
  h A M σ H cn _ fun M1 H1 vs ws μ1 mo1 e1 r1 ⟨x, y, hw, h1⟩ => by
    subst hw
    cases r1 with
    | cons ra r2 =>
      cases r2 with
      | cons rb r3 =>
        cases r3
        exact ⟨_, _, rfl, hd.nx M1 _ H1 _ μ1 ⟨mo1, ((cn.gr.mono e1.ex e1.pre).set ra).set rb⟩ e1 h1⟩
theorem as_par3 {i j l : Nat} {tr : TA} (h : AXA K tr Γ μ fun ws μ1 => ∃ x y z, ws = [x, y, z] ∧ D.nx (((Γ.set i (some x)).set j (some y)).set l (some z)) μ1) : AS K (tPar3 i j l tr) D Γ μ := fun A M σ H cn E hd =>
  h A M σ H cn _ fun M1 H1 vs ws μ1 mo1 e1 r1 ⟨x, y, z, hw, h1⟩ => by
    subst hw
    cases r1 with
    | cons ra r2 =>
      cases r2 with
      | cons rb r3 =>
        cases r3 with
        | cons rc r4 =>
          cases r4
          exact ⟨_, _, _, rfl, hd.nx M1 _ H1 _ μ1 ⟨mo1, (((cn.gr.mono e1.ex e1.pre).set ra).set rb).set rc⟩ e1 h1⟩
theorem as_seq (h : AS K t { D with nx := fun Γ1 μ1 => AS K u D Γ1 μ1 } Γ μ) : AS K (tSeq t u) D Γ μ := fun A M σ H cn E hd =>
  h A M σ H cn { E with nx := u E } ⟨fun M1 σ1 H1 Γ1 μ1 c1 e1 h1 => h1 A M1 σ1 H1 c1 E (hd.after e1), hd.rt, hd.bk, hd.ct⟩
theorem as_next (h : D.nx Γ μ) : AS K tNext D Γ μ := fun A M σ H cn E hd => hd.nx M σ H Γ μ cn Eff.refl h
theorem as_break (h : D.bk Γ μ) : AS K tBreak D Γ μ := fun A M σ H cn E hd => hd.bk M σ H Γ μ cn Eff.refl h
theorem as_cont (h : D.ct Γ μ) : AS K tCont D Γ μ := fun A M σ H cn E hd => hd.ct M σ H Γ μ cn Eff.refl h
theorem as_drop (h : AX K te Γ μ fun _ μ1 => D.nx Γ μ1) : AS K (tDrop te) D Γ μ := fun A M σ H cn E hd =>
  h A M σ H cn _ fun M1 H1 v w μ1 mo1 e1 r1 h1 => hd.nx M1 σ H1 Γ μ1 (cn.eff e1 mo1) e1 h1
theorem as_ret (h : AX K te Γ μ D.rt) : AS K (tRet te) D Γ μ := fun A M σ H cn E hd => h A M σ H cn _ fun M1 H1 v w μ1 mo1 e1 r1 h1 => hd.rt M1 H1 v w μ1 mo1 e1 r1 h1
theorem as_retN (h : D.rt (.d .none) μ) : AS K tRetN D Γ μ := fun A M σ H cn E hd => hd.rt M H _ _ μ cn.mo Eff.refl (.d .non) h
theorem as_if (h : AXT K c Γ μ fun b μ1 => if b = true then AS K t D Γ μ1 else AS K u D Γ μ1) : AS K (tIfS c t u) D Γ μ := fun A M σ H cn E hd =>
  h A M σ H cn _ fun M1 H1 b μ1 mo1 e1 h1 => by
    cases b with
    | true => exact h1 A M1 σ H1 (cn.eff e1 mo1) E (hd.after e1)
    | false => exact h1 A M1 σ H1 (cn.eff e1 mo1) E (hd.after e1)
theorem as_aug {i : Nat} {x : W} {f : Int → Int → Int} {a : Int} (hx : Γ[i]? = some (some (.d (.int a)))) (h : AX K te Γ μ fun w μ1 => ∃ b, w = .d (.int b) ∧ D.nx (Γ.set i (some (.d (.int (f a b))))) μ1) : AS K (tAug i te (ipI f)) D Γ μ := fun A M σ H cn E hd => by
  obtain ⟨v, e, r⟩ := cn.gr.2 i _ hx
  refine ⟨v, e, h A M σ H cn _ fun M1 H1 u w μ1 mo1 e1 r1 ⟨b, hw, h1⟩ => ?_⟩
  subst hw
  exact ⟨a, b, vr_int r, vr_int r1, hd.nx M1 _ H1 _ μ1 ⟨mo1, (cn.gr.mono e1.ex e1.pre).set (.d (.int _))⟩ e1 h1⟩
/-- an operator's rule as an in-place one -/
theorem as_augR {i : Nat} {x : W} {r : R2} (hx : Γ[i]? = some (some x)) (h : AX K te Γ μ fun w μ1 => AO K r x w μ1 fun z μ2 => D.nx (Γ.set i (some z)) μ2) : AS K (tAug i te r) D Γ μ := fun A M σ H cn E hd => by
  obtain ⟨v, e, rx⟩ := cn.gr.2 i _ hx
  refine ⟨v, e, h A M σ H cn _ fun M1 H1 u w μ1 mo1 e1 r1 h1 => ?_⟩
  exact h1 A M1 H1 v u mo1 (rx.mono e1.ex e1.pre) r1 _ fun M2 H2 z w2 μ2 mo2 e2 r2 h2 => hd.nx M2 _ H2 _ μ2 ⟨mo2, (cn.gr.mono (e1.trans e2).ex (e1.trans e2).pre).set r2⟩ (e1.trans e2) h2
/-- xs[i] = e -/
def ASet (K : PySem.W.Frag) (ts : TSet) (o i w : W) (μ : Mu) (R : Mu → Prop) : Prop := ∀ (A : Addr → Prop) (M : List Addr) (H : Hp) (x y v : V), MOk K A M H μ → VR K (vw A M μ H) M x o → VR K (vw A M μ H) M y i → VR K (vw A M μ H) M v w → ∀ Q : Hp → Prop,
  (∀ M' H' μ', MOk K A M' H' μ' → Eff A M μ H M' μ' H' → R μ' → Q H') → ts x y v H Q
theorem ag_sub {to ti : TE} {ts : TSet} {w : W} {R : G → Mu → Prop} (h : AX K to Γ μ fun o μ1 => AX K ti Γ μ1 fun i μ2 => ASet K ts o i w μ2 fun μ3 => R Γ μ3) : AG K (gSub to ti ts) w Γ μ R := fun A M σ H v cn rv Q q =>
  h A M σ H cn _ fun M1 H1 x o μ1 mo1 e1 r1 h1 => h1 A M1 σ H1 (cn.eff e1 mo1) _ fun M2 H2 y i μ2 mo2 e2 r2 h2 =>
    h2 A M2 H2 x y v mo2 (r1.mono e2.ex e2.pre) r2 (rv.mono (e1.trans e2).ex (e1.trans e2).pre) _ fun M3 H3 μ3 mo3 e3 h3 => q M3 σ H3 Γ μ3 (cn.eff ((e1.trans e2).trans e3) mo3) ((e1.trans e2).trans e3) h3
theorem aset_L {k j : Nat} {ws : List W} {i : Int} {w : W} {R : Mu → Prop} (hk : μ[k]? = some (some (.lst ws))) (hj : ixN ws.length i = some j) (q : R (μ.set k (some (.lst (ws.set j w))))) : ASet K rSetL (.m k) (.d (.int i)) w μ R := fun A M H x y v mo rx ry rv Q h => by
  obtain ⟨a, us, rfl, hm, e, ru⟩ := cell_get mo rx hk
  rw [vr_int ry]
  refine ⟨a, us, i, j, rfl, rfl, e, by rw [ru.length]; exact hj, ?_⟩
  have mo' : MOk K A M (upd H a (.lst (us.set j v))) (μ.set k (some (.lst (ws.set j w)))) := mo.write hm hk ⟨_, rfl, VRs.set rv j ru⟩
  exact h M _ _ mo' (Eff.write mo hm hk) q
end
end Pd

namespace Pd
open PySem L2
open Evl (Ex)
/-! ### what is walked -/
def ItOk (K : PySem.W.Frag) (J : It) (Hv : Hp) (M1 : List Addr) (items : List W) (S : Mu → Prop) : Prop := ∀ (A' : Addr → Prop) (M' : List Addr) (H' : Hp) (μ' : Mu), MOk K A' M' H' μ' → Ex Hv (vw A' M' μ' H') → Pre M1 M' → S μ' → ∀ i,
  (∀ w, items[i]? = some w → J.go i H' ∧ ∀ x H2, J.yld i H' x H2 → Ex H' H2 ∧ VR K (vw A' M' μ' H2) M' x w) ∧ (items[i]? = none → J.stop i H')
def AI (K : PySem.W.Frag) (wi : TI) (Γ : G) (μ : Mu) (R : List W → (Mu → Prop) → Mu → Prop) : Prop := ∀ (A : Addr → Prop) (M : List Addr) (σ : L2.St) (H : Hp), Cn K A M σ H Γ μ → ∀ Q : It → Hp → Prop,
  (∀ M' H' J items S μ', MOk K A M' H' μ' → Eff A M μ H M' μ' H' → ItOk K J (vw A M' μ' H') M' items S → R items S μ' → Q J H') → wi σ H Q
section
variable {K : PySem.W.Frag} {Γ : G} {μ : Mu} {tl te : TE} {ta : TA} {R : List W → (Mu → Prop) → Mu → Prop}
theorem ai_list (h : AX K tl Γ μ fun w μ1 => ∃ ws, LW μ1 w ws ∧ R ws (fun μ' => LW μ' w ws) μ1) : AI K (iList K tl) Γ μ R := fun A M σ H c Q q =>
  h A M σ H c _ fun M1 H1 v w μ1 mo1 e1 r1 ⟨ws, hl, hR⟩ => by
    obtain ⟨a, vs, rfl, hs, rs⟩ := hl.get mo1 r1
    refine ⟨a, rfl, ⟨vs, hs⟩, q M1 H1 _ ws _ μ1 mo1 e1 (fun A' M' H' μ' mo' ex pr hS i => ?_) hR⟩
    obtain ⟨a2, us, ea, hu, ru⟩ := LW.get mo' (r1.mono ex pr) hS
    cases ea
    refine ⟨fun w' hw => ?_, fun hn => ⟨us, hu, ?_⟩⟩
    · obtain ⟨y, hy, ry⟩ := ru.getW hw
      refine ⟨⟨us, y, hu, hy⟩, fun x H2 hx => ?_⟩
      obtain ⟨rfl, hx⟩ := hx
      have : y = x := Option.some.inj (hy.symm.trans (hx us hu))
      subst this
      exact ⟨Ex.refl _, ry⟩
    · rw [ru.length]
      exact List.getElem?_eq_none_iff.mp hn
theorem ai_tup (h : AX K tl Γ μ fun w μ1 => ∃ ws, TW w ws ∧ R ws (fun _ => True) μ1) : AI K (iTup K tl) Γ μ R := fun A M σ H c Q q =>
  h A M σ H c _ fun M1 H1 v w μ1 mo1 e1 r1 ⟨ws, hl, hR⟩ => by
    obtain ⟨a, vs, rfl, hs, rs⟩ := hl.get r1
    refine ⟨a, rfl, ⟨vs, Evl.ex_t vw_le hs⟩, q M1 H1 _ ws _ μ1 mo1 e1 (fun A' M' H' μ' mo' ex pr hS i => ?_) hR⟩
    have hu : SqT K H' a vs := Evl.ex_t vw_le (Evl.ex_t ex hs)
    have ru := rs.mono ex pr
    refine ⟨fun w' hw => ?_, fun hn => ⟨vs, hu, ?_⟩⟩
    · obtain ⟨y, hy, ry⟩ := ru.getW hw
      refine ⟨⟨vs, y, hu, hy⟩, fun x H2 hx => ?_⟩
      obtain ⟨rfl, hx⟩ := hx
      have : y = x := Option.some.inj (hy.symm.trans (hx vs hu))
      subst this
      exact ⟨Ex.refl _, ry⟩
    · rw [ru.length]
      exact List.getElem?_eq_none_iff.mp hn
theorem it_rng (lo : Int) (n : Nat) (Hv : Hp) (M1 : List Addr) : ItOk K (Itr lo n) Hv M1 ((List.range n).map fun (i : Nat) => W.d (.int (lo + i))) (fun _ => True) := fun A' M' H' μ' mo' ex pr hS i => by
  by_cases hi : i < n
  · have e : ((List.range n).map fun (i : Nat) => W.d (.int (lo + i)))[i]? = some (W.d (.int (lo + i))) := by
      rw [List.getElem?_map, List.getElem?_range hi]
      rfl
    refine ⟨fun w hw => ⟨hi, fun x H2 hx => ?_⟩, fun hn => by rw [e] at hn; cases hn⟩
    obtain ⟨rfl, rfl⟩ := hx
    rw [e] at hw
    cases hw
    exact ⟨Ex.refl _, .d (.int _)⟩
  · have e : ((List.range n).map fun (i : Nat) => W.d (.int (lo + i)))[i]? = none := by
      rw [List.getElem?_map, List.getElem?_eq_none_iff.mpr (by rw [List.length_range]; omega)]
      rfl
    exact ⟨fun w hw => (by rw [e] at hw; cases hw), fun _ => Nat.le_of_not_lt hi⟩
theorem ai_rng1 (h : AXA K ta Γ μ fun ws μ1 => ∃ j : Int, ws = [.d (.int j)] ∧ (-(2 ^ 62) ≤ j ∧ j < 2 ^ 62) ∧ R ((List.range j.toNat).map fun (i : Nat) => W.d (.int (0 + i))) (fun _ => True) μ1) : AI K (iRng1 ta) Γ μ R := fun A M σ H c Q q =>
  h A M σ H c _ fun M1 H1 vs ws μ1 mo1 e1 r1 ⟨j, hj, ⟨b1, b2⟩, hR⟩ => by
    subst hj
    cases r1 with
    | cons ra rn =>
      cases rn
      exact ⟨j, by rw [vr_int ra], b1, b2, q M1 H1 _ _ _ μ1 mo1 e1 (it_rng 0 j.toNat _ _) hR⟩
theorem ai_rng2 (h : AXA K ta Γ μ fun ws μ1 => ∃ i j : Int, ws = [.d (.int i), .d (.int j)] ∧ (-(2 ^ 62) ≤ i ∧ i < 2 ^ 62 ∧ -(2 ^ 62) ≤ j ∧ j < 2 ^ 62) ∧ R ((List.range (j - i).toNat).map fun (k : Nat) => W.d (.int (i + k))) (fun _ => True) μ1) : AI K (iRng2 ta) Γ μ R := fun A M σ H c Q q =>
  h A M σ H c _ fun M1 H1 vs ws μ1 mo1 e1 r1 ⟨i, j, hj, b, hR⟩ => by
    subst hj
    cases r1 with
    | cons ra rn =>
      cases rn with
      | cons rb rn =>
        cases rn
        exact ⟨i, j, by rw [vr_int ra, vr_int rb], b, q M1 H1 _ _ _ μ1 mo1 e1 (it_rng i (j - i).toNat _ _) hR⟩
theorem ai_str (h : AX K te Γ μ fun w μ1 => ∃ x : PySem.Str, w = .d (.str x) ∧ R (x.cps.toList.map fun c => W.d (.str ⟨#[c]⟩)) (fun _ => True) μ1) : AI K (iStr te) Γ μ R := fun A M σ H c Q q =>
  h A M σ H c _ fun M1 H1 v w μ1 mo1 e1 r1 ⟨x, hx, hR⟩ => by
    subst hx
    refine ⟨x, vr_str r1, q M1 H1 _ _ _ μ1 mo1 e1 (fun A' M' H' μ' mo' ex pr hS i => ?_) hR⟩
    have hz : x.cps.toList[i]? = x.cps[i]? := by simp
    refine ⟨fun w hw => ?_, fun hn => ?_⟩
    · rw [List.getElem?_map, hz] at hw
      cases hc : x.cps[i]? with
      | none => rw [hc] at hw; cases hw
      | some cc =>
        rw [hc] at hw
        cases hw
        refine ⟨(Array.getElem?_eq_some_iff.mp hc).1, fun y H2 hy => ?_⟩
        obtain ⟨rfl, c2, h2, rfl⟩ := hy
        rw [hc] at h2
        cases h2
        exact ⟨Ex.refl _, .d (.str _)⟩
    · rw [List.getElem?_map, hz] at hn
      have : x.cps[i]? = none := by
        cases hc : x.cps[i]? with
        | none => rfl
        | some cc => rw [hc] at hn; cases hn
      exact Array.getElem?_eq_none_iff.mp this
/-- a pair that was made on the way -/
def pairW : W → W → W
  | .d x, .d y => .d (.tuple [x, y])
  | a, b => .t [a, b]
theorem vr_pair {A : Addr → Prop} {M : List Addr} {H : Hp} {T : Addr} {x y : V} {a b : W} (mo : MOk K A M H μ) (hT : H T = none) (rx : VR K (vw A M μ H) M x a) (ry : VR K (vw A M μ H) M y b) : VR K (vw A M μ (upd H T (.tup [x, y]))) M (.ref T) (pairW a b) := by
  have hs : SqT K (vw A M μ (upd H T (.tup [x, y]))) T [x, y] := SqT.of (vw_of (mo.ne_hid hT) upd_same)
  have ex : Ex (vw A M μ H) (vw A M μ (upd H T (.tup [x, y]))) := vw_ex (Ex.new hT)
  have g : VRs K (vw A M μ (upd H T (.tup [x, y]))) M [x, y] [a, b] := .cons (rx.mono ex (Pre.refl _)) (.cons (ry.mono ex (Pre.refl _)) .nil)
  cases a with
  | d a =>
    cases b with
    | d b => exact .d (.tup hs (VRs.dp (ds := [a, b]) g))
    | m _ => exact .t hs g
    | t _ => exact .t hs g
    | f _ => exact .t hs g
    | k _ => exact .t hs g
  | m _ => exact .t hs g
  | t _ => exact .t hs g
  | f _ => exact .t hs g
  | k _ => exact .t hs g
theorem tw_pair (a b : W) : TW (pairW a b) [a, b] := by
  cases a with
  | d a =>
    cases b with
    | d b => exact .d [a, b]
    | m _ => exact .t _
    | t _ => exact .t _
    | f _ => exact .t _
    | k _ => exact .t _
  | m _ => exact .t _
  | t _ => exact .t _
  | f _ => exact .t _
  | k _ => exact .t _
theorem ai_enum (h : AXA K ta Γ μ fun ws μ1 => ∃ w zs, ws = [w] ∧ LW μ1 w zs ∧ R (zs.mapIdx fun i z => pairW (.d (.int (i : Nat))) z) (fun μ' => LW μ' w zs) μ1) : AI K (iEnum K ta) Γ μ R := fun A M σ H c Q q =>
  h A M σ H c _ fun M1 H1 vs ws μ1 mo1 e1 r1 ⟨w, zs, hw, hl, hR⟩ => by
    subst hw
    cases r1 with
    | cons ra rn =>
      cases rn
      obtain ⟨a, us, rfl, hs, rs⟩ := hl.get mo1 ra
      refine ⟨a, us, rfl, hs, q M1 H1 _ _ _ μ1 mo1 e1 (fun A' M' H' μ' mo' ex pr hS i => ?_) hR⟩
      obtain ⟨a2, us2, ea, hu, ru⟩ := LW.get mo' (ra.mono ex pr) hS
      cases ea
      refine ⟨fun w' hw => ?_, fun hn => ⟨us2, hu, ?_⟩⟩
      · rw [List.getElem?_mapIdx] at hw
        cases hz : zs[i]? with
        | none => rw [hz] at hw; cases hw
        | some z =>
          rw [hz] at hw
          cases hw
          obtain ⟨y, hy, ry⟩ := ru.getW hz
          refine ⟨⟨us2, y, hu, hy⟩, fun x H2 hx => ?_⟩
          obtain ⟨T, x2, rfl, hT, rfl, hx⟩ := hx
          have : y = x2 := Option.some.inj (hy.symm.trans (hx us2 hu))
          subst this
          exact ⟨Ex.new hT, vr_pair mo' hT (.d (.int _)) ry⟩
      · rw [List.getElem?_mapIdx] at hn
        have : zs[i]? = none := by
          cases hz : zs[i]? with
          | none => rfl
          | some z => rw [hz] at hn; cases hn
        rw [ru.length]
        exact List.getElem?_eq_none_iff.mp this
theorem ai_zip (h : AXA K ta Γ μ fun ws μ1 => ∃ w1 w2 xs ys, ws = [w1, w2] ∧ LW μ1 w1 xs ∧ LW μ1 w2 ys ∧ R (List.zipWith pairW xs ys) (fun μ' => LW μ' w1 xs ∧ LW μ' w2 ys) μ1) : AI K (iZip K ta) Γ μ R := fun A M σ H c Q q =>
  h A M σ H c _ fun M1 H1 vs ws μ1 mo1 e1 r1 ⟨w1, w2, zs, zs2, hw, hl1, hl2, hR⟩ => by
    subst hw
    cases r1 with
    | cons ra rn =>
      cases rn with
      | cons rb rn =>
        cases rn
        obtain ⟨a, us, rfl, hs, rs⟩ := hl1.get mo1 ra
        obtain ⟨b, us2, rfl, hs2, rs2⟩ := hl2.get mo1 rb
        refine ⟨a, b, us, us2, rfl, hs, hs2, q M1 H1 _ _ _ μ1 mo1 e1 (fun A' M' H' μ' mo' ex pr hS i => ?_) hR⟩
        obtain ⟨a2, u1, ea, hu, ru⟩ := LW.get mo' (ra.mono ex pr) hS.1
        cases ea
        obtain ⟨b2, u2, eb, hu2, ru2⟩ := LW.get mo' (rb.mono ex pr) hS.2
        cases eb
        refine ⟨fun w' hw => ?_, fun hn => ⟨u1, u2, hu, hu2, ?_⟩⟩
        · rw [List.getElem?_zipWith] at hw
          cases hz : zs[i]? with
          | none => rw [hz] at hw; cases hw
          | some z =>
            cases hz2 : zs2[i]? with
            | none => rw [hz, hz2] at hw; cases hw
            | some z2 =>
              rw [hz, hz2] at hw
              cases hw
              obtain ⟨y, hy, ry⟩ := ru.getW hz
              obtain ⟨y2, hy2, ry2⟩ := ru2.getW hz2
              refine ⟨⟨u1, u2, y, y2, hu, hu2, hy, hy2⟩, fun x H2 hx => ?_⟩
              obtain ⟨T, x2, x3, rfl, hT, rfl, hx, hx3⟩ := hx
              have : y = x2 := Option.some.inj (hy.symm.trans (hx u1 hu))
              subst this
              have : y2 = x3 := Option.some.inj (hy2.symm.trans (hx3 u2 hu2))
              subst this
              exact ⟨Ex.new hT, vr_pair mo' hT ry ry2⟩
        · rw [List.getElem?_zipWith] at hn
          rw [ru.length, ru2.length]
          by_cases h1 : i < zs.length
          · by_cases h2 : i < zs2.length
            · rw [List.getElem?_eq_getElem h1, List.getElem?_eq_getElem h2] at hn
              cases hn
            · exact .inr (by omega)
          · exact .inl (by omega)
theorem ai_rev (h : AXA K ta Γ μ fun ws μ1 => ∃ w zs, ws = [w] ∧ LW μ1 w zs ∧ R zs.reverse (fun μ' => LW μ' w zs) μ1) : AI K (iRev K ta) Γ μ R := fun A M σ H c Q q =>
  h A M σ H c _ fun M1 H1 vs ws μ1 mo1 e1 r1 ⟨w, zs, hw, hl, hR⟩ => by
    subst hw
    cases r1 with
    | cons ra rn =>
      cases rn
      obtain ⟨a, us, rfl, hs, rs⟩ := hl.get mo1 ra
      refine ⟨a, us, rfl, hs, q M1 H1 _ _ _ μ1 mo1 e1 (fun A' M' H' μ' mo' ex pr hS i => ?_) hR⟩
      obtain ⟨a2, us2, ea, hu, ru⟩ := LW.get mo' (ra.mono ex pr) hS
      cases ea
      have hl2 : us.length = zs.length := rs.length
      refine ⟨fun w' hw => ?_, fun hn => ?_⟩
      · have hi : i < zs.length := by
          have := (List.getElem?_eq_some_iff.mp hw).1
          simpa using this
        rw [List.getElem?_reverse hi] at hw
        obtain ⟨y, hy, ry⟩ := ru.getW hw
        refine ⟨⟨by omega, us2, y, hu, by rw [hl2]; exact hy⟩, fun x H2 hx => ?_⟩
        obtain ⟨rfl, hx⟩ := hx
        have hx2 := hx us2 hu
        rw [hl2] at hx2
        have : y = x := Option.some.inj (hy.symm.trans hx2)
        subst this
        exact ⟨Ex.refl _, ry⟩
      · have := List.getElem?_eq_none_iff.mp hn
        show us.length ≤ i
        rw [hl2]
        simpa using this
end
/-! ### loops -/
theorem take_snoc {α : Type} {ns : List α} {i : Nat} {x : α} (h : ns[i]? = some x) : ns.take (i + 1) = ns.take i ++ [x] := by
  rw [List.take_add_one, h]
  rfl
theorem split_at {α : Type} {ns : List α} {i : Nat} {x : α} (h : ns[i]? = some x) : ns = ns.take i ++ x :: ns.drop (i + 1) := by
  obtain ⟨hi, e⟩ := List.getElem?_eq_some_iff.mp h
  rw [← e, ← List.drop_eq_getElem_cons hi, List.take_append_drop]
theorem as_for {K : PySem.W.Frag} {Γ : G} {μ : Mu} {wi : TI} {g : TG} {tb : TS} {D : AEn} {α : Type} (f : α → W) (ns : List α) (I : List α → G → Mu → Prop)
    (h : AI K wi Γ μ fun items S μ1 => items = ns.map f ∧ (∀ pre Γ' μ', I pre Γ' μ' → S μ') ∧ I [] Γ μ1)
    (hs : ∀ pre x post Γ' μ', ns = pre ++ x :: post → I pre Γ' μ' → AG K g (f x) Γ' μ' fun Γ2 μ2 => AS K tb { D with nx := I (pre ++ [x]), ct := I (pre ++ [x]), bk := D.nx } Γ2 μ2)
    (hd : ∀ Γ' μ', I ns Γ' μ' → D.nx Γ' μ') : AS K (tFor wi g tb) D Γ μ := fun A M σ H cn E hE =>
  h A M σ H cn _ fun M1 H1 J items S μ1 mo1 e1 hJ ⟨hi, hS, h0⟩ => by
    subst hi
    refine ⟨fun i m σ' H' => ∃ M' Γ' μ', Cn K A M' σ' H' Γ' μ' ∧ Eff A M1 μ1 H1 M' μ' H' ∧ i ≤ ns.length ∧ m = ns.length - i ∧ I (ns.take i) Γ' μ',
      ⟨ns.length, M1, Γ, μ1, cn.eff e1 mo1, Eff.refl, Nat.zero_le _, rfl, h0⟩, fun i m σ' H' hW => ?_⟩
    obtain ⟨M', Γ', μ', c', e', hi, rfl, hI⟩ := hW
    have hit := hJ A M' H' μ' c'.mo e'.ex e'.pre (hS _ _ _ hI) i
    by_cases hlt : i < ns.length
    · have hx : ns[i]? = some ns[i] := List.getElem?_eq_getElem hlt
      have hw : (ns.map f)[i]? = some (f ns[i]) := by rw [List.getElem?_map, hx]; rfl
      obtain ⟨hgo, hy⟩ := hit.1 _ hw
      refine .inr ⟨hgo, fun σ2 H2 => ∃ M2 Γ2 μ2, Cn K A M2 σ2 H2 Γ2 μ2 ∧ Eff A M1 μ1 H1 M2 μ2 H2 ∧ I (ns.take (i + 1)) Γ2 μ2,
        fun σ2 H2 ⟨M2, Γ2, μ2, c2, e2, hI2⟩ => ⟨ns.length - (i + 1), by omega, M2, Γ2, μ2, c2, e2, hlt, rfl, hI2⟩, fun x H2 hyld => ?_⟩
      obtain ⟨ex2, rx⟩ := hy x H2 hyld
      have e2' : Eff A M' μ' H' M' μ' H2 := Eff.of_ex ex2
      refine hs (ns.take i) ns[i] (ns.drop (i + 1)) Γ' μ' (split_at hx) hI A M' σ' H2 x (c'.ex ex2) rx _ fun M3 σ3 H3 Γ3 μ3 c3 e3 h3 => ?_
      have e13 : Eff A M1 μ1 H1 M3 μ3 H3 := (e'.trans e2').trans e3
      refine h3 A M3 σ3 H3 c3 _ ⟨fun M4 σ4 H4 Γ4 μ4 c4 e4 h4 => ?_, fun M4 H4 v w μ4 m4 e4 r4 h4 => hE.rt M4 H4 v w μ4 m4 ((e1.trans e13).trans e4) r4 h4, fun M4 σ4 H4 Γ4 μ4 c4 e4 h4 => hE.nx M4 σ4 H4 Γ4 μ4 c4 ((e1.trans e13).trans e4) h4, fun M4 σ4 H4 Γ4 μ4 c4 e4 h4 => ?_⟩
      · refine ⟨M4, Γ4, μ4, c4, e13.trans e4, ?_⟩
        rw [take_snoc hx]
        exact h4
      · refine ⟨M4, Γ4, μ4, c4, e13.trans e4, ?_⟩
        rw [take_snoc hx]
        exact h4
    · have hei : i = ns.length := by omega
      subst hei
      refine .inl ⟨hit.2 (by simp), ?_⟩
      rw [List.take_length] at hI
      exact hE.nx M' σ' H' Γ' μ' c' (e1.trans e') (hd Γ' μ' hI)
theorem as_while {K : PySem.W.Frag} {Γ : G} {μ : Mu} {c : TT} {tb : TS} {D : AEn} (I : Nat → G → Mu → Prop) (m0 : Nat) (h0 : I m0 Γ μ)
    (hs : ∀ m Γ' μ', I m Γ' μ' → AXT K c Γ' μ' fun b μ1 => if b = true then AS K tb { D with nx := fun Γ2 μ2 => ∃ m', m' < m ∧ I m' Γ2 μ2, ct := fun Γ2 μ2 => ∃ m', m' < m ∧ I m' Γ2 μ2, bk := D.nx } Γ' μ1 else D.nx Γ' μ1) : AS K (tWhile c tb) D Γ μ := fun A M σ H cn E hE => by
  refine ⟨fun m σ' H' => ∃ M' Γ' μ', Cn K A M' σ' H' Γ' μ' ∧ Eff A M μ H M' μ' H' ∧ I m Γ' μ', ⟨m0, M, Γ, μ, cn, Eff.refl, h0⟩, fun m σ' H' ⟨M', Γ', μ', c', e', hI⟩ => ?_⟩
  refine hs m Γ' μ' hI A M' σ' H' c' _ fun M1 H1 b μ1 mo1 e1 h1 => ?_
  cases b with
  | true =>
    refine ⟨fun σ2 H2 => ∃ m', m' < m ∧ ∃ M2 Γ2 μ2, Cn K A M2 σ2 H2 Γ2 μ2 ∧ Eff A M μ H M2 μ2 H2 ∧ I m' Γ2 μ2, fun σ2 H2 h => h, ?_⟩
    have e2 := e'.trans e1
    have hb : AS K tb { D with nx := fun Γ2 μ2 => ∃ m', m' < m ∧ I m' Γ2 μ2, ct := fun Γ2 μ2 => ∃ m', m' < m ∧ I m' Γ2 μ2, bk := D.nx } Γ' μ1 := h1
    refine hb A M1 σ' H1 (c'.eff e1 mo1) _ ⟨fun M4 σ4 H4 Γ4 μ4 c4 e4 ⟨m', hm, h4⟩ => ⟨m', hm, M4, Γ4, μ4, c4, e2.trans e4, h4⟩, fun M4 H4 v w μ4 m4 e4 r4 h4 => hE.rt M4 H4 v w μ4 m4 (e2.trans e4) r4 h4, fun M4 σ4 H4 Γ4 μ4 c4 e4 h4 => hE.nx M4 σ4 H4 Γ4 μ4 c4 (e2.trans e4) h4, fun M4 σ4 H4 Γ4 μ4 c4 e4 ⟨m', hm, h4⟩ => ⟨m', hm, M4, Γ4, μ4, c4, e2.trans e4, h4⟩⟩
  | false => exact hE.nx M1 σ' H1 Γ' μ1 (c'.eff e1 mo1) (e'.trans e1) h1
/-! ### comprehensions -/
def wipeG (Γ : G) (vs : List Nat) : G := vs.foldr (fun v g => g.set v none) Γ
def WipeOk (g : TG) (vs : List Nat) : Prop := ∀ x σ H Q, g x (wipe σ vs) H Q → g x (wipe σ vs) H fun σ' H' => wipe σ' vs = wipe σ vs ∧ Q σ' H'
theorem wipe_get (σ : L2.St) : ∀ (vs : List Nat) (i : Nat), (wipe σ vs)[i]? = if i ∈ vs then (if i < σ.length then some none else none) else σ[i]?
  | [], i => by simp [wipe]
  | v :: vs, i => by
    unfold wipe
    rw [List.getElem?_set, wipe_length, wipe_get σ vs i]
    by_cases h : v = i
    · subst h
      simp
    · have h2 : ¬ i = v := fun z => h z.symm
      simp [h, h2]
theorem wipe_set {σ : L2.St} {vs : List Nat} {σ' : L2.St} (hl : σ'.length = σ.length) (h : ∀ i, i ∉ vs → σ'[i]? = (wipe σ vs)[i]?) : wipe σ' vs = wipe σ vs := by
  apply List.ext_getElem?
  intro i
  rw [wipe_get σ' vs i, hl]
  by_cases hi : i ∈ vs
  · rw [if_pos hi, wipe_get, if_pos hi]
  · rw [if_neg hi, h i hi]
theorem wk_name {j : Nat} {vs : List Nat} (hj : j ∈ vs) : WipeOk (gName j) vs := fun x σ H Q q => ⟨wipe_set (by rw [List.length_set, wipe_length]) (fun i hi => by
  rw [List.getElem?_set, if_neg fun z => hi (by rw [← z]; exact hj)]), q⟩
/-- the same for a list of targets, from any σ that differs at vs alone -/
def WipeGs (gs : TGs) (vs : List Nat) : Prop := ∀ xs σ σ0 H Q, σ.length = σ0.length → (∀ i, i ∉ vs → σ[i]? = (wipe σ0 vs)[i]?) → gs xs σ H Q → gs xs σ H fun σ' H' => wipe σ' vs = wipe σ0 vs ∧ Q σ' H'
theorem wks_nil {vs : List Nat} : WipeGs gNil vs := fun xs σ σ0 H Q hl hs ⟨e, q⟩ => ⟨e, wipe_set hl hs, q⟩
theorem wks_cons {j : Nat} {gs : TGs} {vs : List Nat} (hj : j ∈ vs) (h : WipeGs gs vs) : WipeGs (gCons (gName j) gs) vs := fun xs σ σ0 H Q hl hs ⟨v, r, e, q⟩ => ⟨v, r, e, h r _ σ0 H Q (by rw [List.length_set]; exact hl) (fun i hi => by
  rw [List.getElem?_set, if_neg fun z => hi (by rw [← z]; exact hj)]
  exact hs i hi) q⟩
theorem wk_tup {K : PySem.W.Frag} {n : Nat} {gs : TGs} {vs : List Nat} (h : WipeGs gs vs) : WipeOk (gTup K n gs) vs := fun x σ H Q ⟨a, xs, e, hs, hl, q⟩ => ⟨a, xs, e, hs, hl, h xs _ σ H Q (wipe_length _ _) (fun _ _ => rfl) q⟩
def delH (H : Hp) (a : Addr) : Hp := fun b => if b = a then none else H b
theorem delH_upd {H : Hp} {a : Addr} {o : HO} (h : H a = some o) : upd (delH H a) a o = H := by
  funext b
  unfold upd delH
  by_cases e : b = a
  · subst e; rw [if_pos rfl, h]
  · rw [if_neg e, if_neg e]
def addA (A : Addr → Prop) (p : Addr) : Addr → Prop := fun a => A a ∨ a = p
theorem vw_add {A : Addr → Prop} {M : List Addr} {μ : Mu} {H : Hp} {p : Addr} : vw (addA A p) M μ H = vw A M μ (delH H p) := by
  funext b
  unfold vw delH
  have hh : hid (addA A p) M μ b ↔ hid A M μ b ∨ b = p := by
    constructor
    · rintro ((z | z) | z)
      · exact .inl (.inl z)
      · exact .inr z
      · exact .inl (.inr z)
    · rintro ((z | z) | z)
      · exact .inl (.inl z)
      · exact .inr z
      · exact .inl (.inr z)
  by_cases e : b = p
  · subst e
    rw [if_pos (hh.mpr (.inr rfl)), if_pos rfl]
    split <;> rfl
  · rw [if_neg e]
    by_cases hb : hid A M μ b
    · rw [if_pos hb, if_pos (hh.mpr (.inl hb))]
    · rw [if_neg hb, if_neg fun z => (hh.mp z).elim hb e]
theorem MOk.add {K : PySem.W.Frag} {A : Addr → Prop} {M : List Addr} {μ : Mu} {H : Hp} {p : Addr} {o : HO} (h : MOk K A M H μ) (hp : H p = none) : MOk K (addA A p) M (upd H p o) μ := by
  have np : p ∉ M := fun m => h.al p m hp
  have nn : ∀ a, H a ≠ none → upd H p o a ≠ none := fun a hn => by
    rw [upd_ne fun z => hn (by rw [z]; exact hp)]
    exact hn
  have ed : delH (upd H p o) p = H := by
    funext b
    unfold delH upd
    by_cases e : b = p
    · subst e; rw [if_pos rfl, hp]
    · rw [if_neg e, if_neg e]
  refine ⟨h.len, h.nd, fun a m z => z.elim (h.nA a m) fun z => np (by rw [← z]; exact m), fun a m => nn a (h.al a m), fun a m => m.elim (fun m => nn a (h.aA a m)) fun z => (by subst z; rw [upd_same]; intro q; cases q), fun k a c h1 h2 => ?_⟩
  obtain ⟨u, q1, q2⟩ := h.ct k a c h1 h2
  refine ⟨u, by rw [upd_ne (ne_of_none q1 hp)]; exact q1, ?_⟩
  rw [vw_add, ed]
  exact q2
theorem MOk.del {K : PySem.W.Frag} {A : Addr → Prop} {M : List Addr} {μ : Mu} {H : Hp} {p : Addr} (h : MOk K (addA A p) M H μ) (hA : ¬ A p) : MOk K A M (delH H p) μ := by
  have np : p ∉ M := fun m => h.nA p m (.inr rfl)
  have dn : ∀ a, a ≠ p → delH H p a = H a := fun a e => by unfold delH; rw [if_neg e]
  refine ⟨h.len, h.nd, fun a m z => h.nA a m (.inl z), fun a m => by rw [dn a fun z => np (by rw [← z]; exact m)]; exact h.al a m, fun a z => by rw [dn a fun q => hA (by rw [← q]; exact z)]; exact h.aA a (.inl z), fun k a c h1 h2 => ?_⟩
  obtain ⟨u, q1, q2⟩ := h.ct k a c h1 h2
  refine ⟨u, by rw [dn a fun z => np (by rw [← z]; exact List.mem_of_getElem? h1)]; exact q1, ?_⟩
  rw [← vw_add]
  exact q2
theorem Eff.del {A : Addr → Prop} {M M' : List Addr} {μ μ' : Mu} {H H' : Hp} {p : Addr} {o : HO} (hp : H p = none) (h : Eff (addA A p) M μ (upd H p o) M' μ' H') : Eff A M μ H M' μ' (delH H' p) := by
  have ed : delH (upd H p o) p = H := by
    funext b
    unfold delH upd
    by_cases e : b = p
    · subst e; rw [if_pos rfl, hp]
    · rw [if_neg e, if_neg e]
  refine ⟨h.pre, fun a u ha e => ?_, ?_⟩
  · have ne : a ≠ p := ne_of_none e hp
    unfold delH
    rw [if_neg ne]
    exact h.own a u (.inl ha) (by rw [upd_ne ne]; exact e)
  · have := h.ex
    rw [vw_add, vw_add, ed] at this
    exact this
theorem delH_upd2 {H : Hp} {p : Addr} {o : HO} : delH (upd H p o) p = delH H p := by
  funext b
  unfold delH upd
  by_cases e : b = p
  · rw [if_pos e, if_pos e]
  · rw [if_neg e, if_neg e, if_neg e]
theorem delH_none {H : Hp} {p : Addr} (hp : H p = none) : delH H p = H := by
  funext b
  unfold delH
  by_cases e : b = p
  · subst e; rw [if_pos rfl, hp]
  · rw [if_neg e]
theorem Eff.del2 {A : Addr → Prop} {M M' : List Addr} {μ μ' : Mu} {H H' : Hp} {p : Addr} (h : Eff (addA A p) M μ H M' μ' H') : Eff A M μ (delH H p) M' μ' (delH H' p) := by
  refine ⟨h.pre, fun a u ha e => ?_, by have := h.ex; rw [vw_add, vw_add] at this; exact this⟩
  unfold delH at e ⊢
  by_cases ne : a = p
  · rw [if_pos ne] at e
    cases e
  · rw [if_neg ne] at e ⊢
    exact h.own a u (.inl ha) e
theorem GR.wipeG {K : PySem.W.Frag} {H : Hp} {M : List Addr} {σ : L2.St} {Γ : G} (h : GR K H M σ Γ) (vs : List Nat) : GR K H M (L2.wipe σ vs) (Pd.wipeG Γ vs) := h.wipe vs
theorem MOk.wr {K : PySem.W.Frag} {A : Addr → Prop} {M : List Addr} {μ : Mu} {H : Hp} {p : Addr} {o : HO} (h : MOk K (addA A p) M H μ) : MOk K (addA A p) M (upd H p o) μ := by
  have np : p ∉ M := fun m => h.nA p m (.inr rfl)
  have dn : ∀ a, H a ≠ none → upd H p o a ≠ none := fun a hn => by
    by_cases e : a = p
    · subst e; rw [upd_same]; intro z; cases z
    · rw [upd_ne e]; exact hn
  refine ⟨h.len, h.nd, h.nA, fun a m => dn a (h.al a m), fun a m => dn a (h.aA a m), fun k a c k1 k2 => ?_⟩
  obtain ⟨u, q1, q2⟩ := h.ct k a c k1 k2
  refine ⟨u, ?_, by rw [vw_add, delH_upd2, ← vw_add]; exact q2⟩
  rw [upd_ne fun z => np (by rw [← z]; exact List.mem_of_getElem? k1)]
  exact q1
/-- the state within a comprehension whose list stands at p -/
def LcI (K : PySem.W.Frag) (A : Addr → Prop) (M1 : List Addr) (μ1 : Mu) (H1 : Hp) (p : Addr) (P : List W → Mu → Prop) (H' : Hp) : Prop :=
  ∃ M' μ' us acc, H' p = some (.lst us) ∧ MOk K (addA A p) M' H' μ' ∧ Eff A M1 μ1 H1 M' μ' (delH H' p) ∧ VRs K (vw (addA A p) M' μ' H') M' us acc ∧ P acc μ'
theorem ax_lc {K : PySem.W.Frag} {Γ : G} {μ : Mu} {wi : TI} {g : TG} {tt : TT} {te : TE} {vs : List Nat} {R : W → Mu → Prop} {α : Type} (f : α → W) (ns : List α) (I : List α → List W → Mu → Prop) (hz : ns.length ≤ sizeLine) (hw : WipeOk g vs)
    (h : AI K wi Γ μ fun items S μ1 => items = ns.map f ∧ (∀ pre acc μ', I pre acc μ' → S μ') ∧ I [] [] μ1)
    (hs : ∀ pre x post acc μ', ns = pre ++ x :: post → acc.length ≤ pre.length → I pre acc μ' → AG K g (f x) (wipeG Γ vs) μ' fun Γ2 μ2 => AXT K tt Γ2 μ2 fun b μ3 => if b = true then AX K te Γ2 μ3 fun w μ4 => I (pre ++ [x]) (acc ++ [w]) μ4 else I (pre ++ [x]) acc μ3)
    (hd : ∀ acc μ', I ns acc μ' → NL acc μ' R) : AX K (tLc wi g tt te vs) Γ μ R := fun A M σ H cn Q q =>
  h A M σ H cn _ fun M1 H1 J items S μ1 mo1 e1 hJ ⟨hi, hS, h0⟩ => by
    subst hi
    intro p hp
    have hA : ¬ A p := fun z => mo1.aA p z hp
    refine ⟨fun i m H' => i ≤ ns.length ∧ m = ns.length - i ∧ LcI K A M1 μ1 H1 p (fun acc μ' => acc.length ≤ i ∧ I (ns.take i) acc μ') H',
      ⟨ns.length, Nat.zero_le _, rfl, M1, μ1, [], [], upd_same, mo1.add hp, by rw [delH_upd2, delH_none hp]; exact Eff.refl, .nil, Nat.le_refl _, h0⟩, fun i m H' hW => ?_⟩
    obtain ⟨hi, rfl, M', μ', us, acc, hu, mo', e', ru, hal, hI⟩ := hW
    have hex : Ex (vw A M1 μ1 H1) (vw (addA A p) M' μ' H') := by
      rw [vw_add]
      exact e'.ex
    have hit := hJ (addA A p) M' H' μ' mo' hex e'.pre (hS _ _ _ hI) i
    by_cases hlt : i < ns.length
    · have hx : ns[i]? = some ns[i] := List.getElem?_eq_getElem hlt
      have hw' : (ns.map f)[i]? = some (f ns[i]) := by rw [List.getElem?_map, hx]; rfl
      obtain ⟨hgo, hy⟩ := hit.1 _ hw'
      refine .inr ⟨hgo, LcI K A M1 μ1 H1 p (fun acc μ' => acc.length ≤ i + 1 ∧ I (ns.take (i + 1)) acc μ'), fun H2 h2 => ⟨ns.length - (i + 1), by omega, hlt, rfl, h2⟩, fun x H2 hyld => ?_⟩
      obtain ⟨ex2, rx⟩ := hy x H2 hyld
      have eH2 : Eff (addA A p) M' μ' H' M' μ' H2 := Eff.of_ex ex2
      have c0 : GR K (vw A M1 μ1 H1) M1 (wipe σ vs) (wipeG Γ vs) := (cn.gr.mono e1.ex e1.pre).wipeG vs
      have c2 : Cn K (addA A p) M' (wipe σ vs) H2 (wipeG Γ vs) μ' := ⟨mo'.ex ex2, (c0.mono hex e'.pre).mono (vw_ex ex2) (Pre.refl _)⟩
      have hlen : (ns.take i).length = i := by rw [List.length_take]; omega
      refine hw x σ H2 _ ?_
      refine hs (ns.take i) ns[i] (ns.drop (i + 1)) acc μ' (split_at hx) (by omega) hI (addA A p) M' (wipe σ vs) H2 x c2 rx _ fun M3 σ3 H3 Γ3 μ3 c3 e3 h3 => ?_
      refine h3 (addA A p) M3 σ3 H3 c3 _ fun M4 H4 b μ4 mo4 e4 h4 => ?_
      have eA : Eff (addA A p) M' μ' H' M4 μ4 H4 := (eH2.trans e3).trans e4
      have hu4 : H4 p = some (.lst us) := eA.own p _ (.inr rfl) hu
      cases b with
      | false =>
        refine ⟨M4, μ4, us, acc, hu4, mo4, e'.trans eA.del2, ru.mono eA.ex eA.pre, by omega, ?_⟩
        rw [take_snoc hx]
        exact h4
      | true =>
        refine h4 (addA A p) M4 σ3 H4 (c3.eff e4 mo4) _ fun M5 H5 y w μ5 mo5 e5 r5 h5 => ?_
        have eB : Eff (addA A p) M' μ' H' M5 μ5 H5 := eA.trans e5
        have hu5 : H5 p = some (.lst us) := eB.own p _ (.inr rfl) hu
        have rus : VRs K (vw (addA A p) M5 μ5 H5) M5 (us ++ [y]) (acc ++ [w]) := (ru.mono eB.ex eB.pre).snoc r5
        refine ⟨us, hu5, ?_, M5, μ5, us ++ [y], acc ++ [w], upd_same, mo5.wr, ?_, ?_, by simp; omega, ?_⟩
        · rw [ru.length]
          omega
        · rw [delH_upd2]
          exact e'.trans eB.del2
        · rw [vw_add, delH_upd2, ← vw_add]
          exact rus
        · rw [take_snoc hx]
          exact h5
    · have hei : i = ns.length := by omega
      subst hei
      refine .inl ⟨hit.2 (by simp), ?_⟩
      rw [List.take_length] at hI
      have md := mo'.del hA
      have rd : VRs K (vw A M' μ' (delH H' p)) M' us acc := by
        rw [← vw_add]
        exact ru
      obtain ⟨M2, μ2, w, m2, e2, r2, hR⟩ := (hd acc μ' hI).use md rd (show delH H' p p = none from if_pos rfl)
      rw [delH_upd hu] at m2 e2 r2
      exact q M2 H' _ w μ2 m2 ((e1.trans e').trans e2) r2 hR
/-! ### a cell that changes no more -/
theorem hid_dead {A : Addr → Prop} {M : List Addr} {μ : Mu} {k : Nat} {a : Addr} (h : hid A M (μ.set k none) a) : hid A M μ a := by
  rcases h with z | ⟨j, c, h1, h2⟩
  · exact .inl z
  · by_cases e : k = j
    · subst e
      rw [List.getElem?_set, if_pos rfl] at h2
      split at h2 <;> cases h2
    · rw [List.getElem?_set, if_neg e] at h2
      exact .inr ⟨j, c, h1, h2⟩
theorem vw_dead {A : Addr → Prop} {M : List Addr} {μ : Mu} {H : Hp} {k : Nat} : Ex (vw A M μ H) (vw A M (μ.set k none) H) := fun a o h => vw_of (fun z => (vw_some h).1 (hid_dead z)) (vw_some h).2
theorem MOk.dead {K : PySem.W.Frag} {A : Addr → Prop} {M : List Addr} {μ : Mu} {H : Hp} (h : MOk K A M H μ) (k : Nat) : MOk K A M H (μ.set k none) := by
  refine ⟨by rw [List.length_set]; exact h.len, h.nd, h.nA, h.al, h.aA, fun j a c h1 h2 => ?_⟩
  by_cases e : k = j
  · subst e
    rw [List.getElem?_set, if_pos rfl] at h2
    split at h2 <;> cases h2
  · rw [List.getElem?_set, if_neg e] at h2
    obtain ⟨o, q1, q2⟩ := h.ct j a c h1 h2
    exact ⟨o, q1, q2.mono vw_dead (Pre.refl _)⟩
theorem Eff.dead {A : Addr → Prop} {M : List Addr} {μ : Mu} {H : Hp} (k : Nat) : Eff A M μ H M (μ.set k none) H := ⟨Pre.refl _, fun _ _ _ h => h, vw_dead⟩
theorem vr_dead {K : PySem.W.Frag} {A : Addr → Prop} {M : List Addr} {μ : Mu} {H : Hp} {k : Nat} {xs : List PyData} {v : V} (mo : MOk K A M H μ) (r : VR K (vw A M μ H) M v (.m k)) (hk : μ[k]? = some (some (.lst (xs.map W.d)))) : VR K (vw A M (μ.set k none) H) M v (.d (.list xs)) := by
  obtain ⟨a, vs, rfl, hm, e, ru⟩ := cell_get mo r hk
  refine .d (.lst (vw_of (fun z => ?_) e) (dpa_mono vw_dead ru.dp))
  rcases z with z | ⟨j, c, h1, h2⟩
  · exact mo.nA a (List.mem_of_getElem? hm) z
  · have hj : k = j := by
      have l1 := List.getElem?_eq_some_iff.mp hm
      have l2 := List.getElem?_eq_some_iff.mp h1
      exact (List.getElem_inj mo.nd).mp (l1.2.trans l2.2.symm)
    subst hj
    rw [List.getElem?_set, if_pos rfl] at h2
    split at h2 <;> cases h2
/-- the name is read and its list changes no more -/
theorem ax_varF {K : PySem.W.Frag} {Γ : G} {μ : Mu} {R : W → Mu → Prop} {i k : Nat} {xs : List PyData} (h : Γ[i]? = some (some (.m k))) (hk : μ[k]? = some (some (.lst (xs.map W.d)))) (q : R (.d (.list xs)) (μ.set k none)) : AX K (tVar i) Γ μ R := fun A M σ H c Q hq => by
  obtain ⟨v, e, r⟩ := c.gr.2 i _ h
  exact ⟨v, e, hq M H v _ _ (c.mo.dead k) (Eff.dead k) (vr_dead c.mo r hk) q⟩
/-- the same as a step between statements -/
theorem as_freeze {K : PySem.W.Frag} {Γ : G} {μ : Mu} {t : TS} {D : AEn} (i k : Nat) (xs : List PyData) (h : Γ[i]? = some (some (.m k))) (hk : μ[k]? = some (some (.lst (xs.map W.d)))) (q : AS K t D (Γ.set i (some (.d (.list xs)))) (μ.set k none)) : AS K t D Γ μ := fun A M σ H c E hE => by
  obtain ⟨v, e, r⟩ := c.gr.2 i _ h
  have g1 : GR K (vw A M (μ.set k none) H) M (σ.set i (some v)) (Γ.set i (some (.d (.list xs)))) := (c.gr.mono vw_dead (Pre.refl _)).set (vr_dead c.mo r hk)
  have es : σ.set i (some v) = σ := by
    apply List.ext_getElem?
    intro j
    rw [List.getElem?_set]
    by_cases hj : i = j
    · subst hj
      rw [if_pos rfl, if_pos (List.getElem?_eq_some_iff.mp e).1, e]
    · rw [if_neg hj]
  rw [es] at g1
  exact q A M σ H ⟨c.mo.dead k, g1⟩ E (hE.after (Eff.dead k))
/-- a name is forgotten -/
theorem as_forget {K : PySem.W.Frag} {Γ : G} {μ : Mu} {t : TS} {D : AEn} (Γ' : G) (hl : Γ'.length = Γ.length) (h : ∀ (i : Nat) w, Γ'[i]? = some (some w) → Γ[i]? = some (some w)) (q : AS K t D Γ' μ) : AS K t D Γ μ := fun A M σ H c E hE =>
  q A M σ H ⟨c.mo, by rw [c.gr.1, hl], fun i w e => c.gr.2 i w (h i w e)⟩ E hE
theorem as_weak {K : PySem.W.Frag} {Γ : G} {μ : Mu} {t : TS} {D D' : AEn} (h : AS K t D Γ μ) (n : ∀ g m, D.nx g m → D'.nx g m) (r : ∀ w m, D.rt w m → D'.rt w m) (b : ∀ g m, D.bk g m → D'.bk g m) (c : ∀ g m, D.ct g m → D'.ct g m) : AS K t D' Γ μ := fun A M σ H cn E hE =>
  h A M σ H cn E ⟨fun _ _ _ _ _ x e z => hE.nx _ _ _ _ _ x e (n _ _ z), fun _ _ _ _ _ x e y z => hE.rt _ _ _ _ _ x e y (r _ _ z), fun _ _ _ _ _ x e z => hE.bk _ _ _ _ _ x e (b _ _ z), fun _ _ _ _ _ x e z => hE.ct _ _ _ _ _ x e (c _ _ z)⟩
/-- a statement, what holds behind it, the rest from there -/
theorem as_cut {K : PySem.W.Frag} {Γ : G} {μ : Mu} {t u : TS} {D : AEn} (Mid : G → Mu → Prop) (h : AS K t { D with nx := Mid } Γ μ) (k : ∀ Γ1 μ1, Mid Γ1 μ1 → AS K u D Γ1 μ1) : AS K (tSeq t u) D Γ μ := as_seq (as_weak h k (fun _ _ z => z) (fun _ _ z => z) (fun _ _ z => z))
/-! ### calls -/
abbrev FS := List W → Mu → (W → Mu → Prop) → Prop
def spD (K : PySem.W.Frag) (F : FS) : Sp := fun vs H Q _ => ∃ (A : Addr → Prop) (M : List Addr) (μ : Mu) (ws : List W) (R : W → Mu → Prop), MOk K A M H μ ∧ VRs K (vw A M μ H) M vs ws ∧ F ws μ R ∧
  ∀ M' H' v w μ', MOk K A M' H' μ' → Eff A M μ H M' μ' H' → VR K (vw A M' μ' H') M' v w → R w μ' → Q v H'
section
variable {K : PySem.W.Frag} {Γ : G} {μ : Mu} {R : W → Mu → Prop} {ta tk : TA}
theorem ax_call {F : FS} {E : XK} (h : AXA K ta Γ μ fun ws μ1 => F ws μ1 R) : AX K (tCall (spD K F) [] E ta) Γ μ R := fun A M σ H c Q q =>
  h A M σ H c _ fun M1 H1 vs ws μ1 mo1 e1 r1 h1 => by
    show spD K F (vs ++ []) H1 Q E
    rw [List.append_nil]
    exact ⟨A, M1, μ1, ws, R, mo1, r1, h1, fun M' H' v w μ' mo' e' r' hR => q M' H' v w μ' mo' (e1.trans e') r' hR⟩
/-- keywords: ix tells the parameters' order among positional values and keywords' values -/
def perm {α : Type} (ix : List Nat) (l : List α) : List α := ix.filterMap (l[·]?)
theorem vrs_perm {H : Hp} {M : List Addr} {vs : List V} {ws : List W} (h : VRs K H M vs ws) : ∀ ix : List Nat, VRs K H M (perm ix vs) (perm ix ws)
  | [] => .nil
  | i :: ix => by
    unfold perm
    rw [List.filterMap_cons, List.filterMap_cons]
    cases e : ws[i]? with
    | none =>
      have : vs[i]? = none := by
        rw [List.getElem?_eq_none_iff, h.length]
        exact List.getElem?_eq_none_iff.mp e
      rw [this]
      exact vrs_perm h ix
    | some w =>
      obtain ⟨v, hv, r⟩ := h.getW e
      rw [hv]
      exact .cons r (vrs_perm h ix)
theorem vals_perm {vs : List V} {us : List Value} (h : Vals vs us) : ∀ ix : List Nat, Vals (perm ix vs) (perm ix us)
  | [] => .nil
  | i :: ix => by
    unfold perm
    rw [List.filterMap_cons, List.filterMap_cons]
    cases e : vs[i]? with
    | none =>
      rw [h.none_of e]
      exact vals_perm h ix
    | some v =>
      obtain ⟨u, hu, r⟩ := h.get e
      rw [hu]
      exact .cons r (vals_perm h ix)
theorem ax_callN {F : FS} {E : XK} {n m : Nat} {ix : List Nat} (h : AXA K ta Γ μ fun ws μ1 => ws.length = n ∧ AXA K tk Γ μ1 fun us μ2 => us.length = m ∧ F (perm ix (ws ++ us)) μ2 R) : AX K (tCallN n m (spD K F) (fun vs zs => perm ix (vs ++ zs)) E ta tk) Γ μ R := fun A M σ H c Q q =>
  h A M σ H c _ fun M1 H1 vs ws μ1 mo1 e1 r1 ⟨l1, h1⟩ => h1 A M1 σ H1 (c.eff e1 mo1) _ fun M2 H2 zs us μ2 mo2 e2 r2 ⟨l2, h2⟩ =>
    ⟨r1.length.trans l1, r2.length.trans l2, A, M2, μ2, _, R, mo2, vrs_perm ((r1.mono e2.ex e2.pre).append r2) ix, h2, fun M' H' v w μ' mo' e' r' hR => q M' H' v w μ' mo' ((e1.trans e2).trans e') r' hR⟩
end
def stG (N : List PySem.Str) (ws : List W) : G := ws.map some ++ List.replicate (N.length - ws.length) none
theorem gr_start {K : PySem.W.Frag} {H : Hp} {M : List Addr} {N : List PySem.Str} {vs : List V} {ws : List W} (h : VRs K H M vs ws) : GR K H M (L2.start N vs) (stG N ws) := by
  have hl := h.length
  refine ⟨by simp [L2.start, stG, hl], fun i w e => ?_⟩
  unfold stG at e
  unfold L2.start
  by_cases hi : i < ws.length
  · rw [List.getElem?_append_left (by simpa using hi), List.getElem?_map] at e
    cases hw : ws[i]? with
    | none => rw [hw] at e; cases e
    | some w' =>
      rw [hw] at e
      have : w' = w := by simpa using e
      subst this
      obtain ⟨v, hv, r⟩ := h.getW hw
      exact ⟨v, by rw [List.getElem?_append_left (by simp; omega), List.getElem?_map, hv]; rfl, r⟩
  · rw [List.getElem?_append_right (by simp; omega), List.getElem?_replicate] at e
    split at e <;> cases e
/-- THE RULE for a def -/
theorem fn_ok {P : PySem.Program} {w : PySem.World} {K : PySem.W.Frag} {mg : PySem.Str → Option PySem.Value} {base : PySem.Heap} {x qual : PySem.Str} {st : PySem.Stmt} {f : Addr} {fd : PySem.FuncData} {N ps : List PySem.Str} {k : Nat} {F : FS} (Fu : Fun K x qual st f fd) (S : FnScope N ps (defScope st)) (len : ∀ ws μ R, F ws μ R → ws.length = ps.length)
    (hbody : ∀ (cdv : PySem.Value) (A : PySem.Around) (outer : List PySem.Env) (s : PySem.Shared) (H : Hp) (E : XK), Room k (A.deeper (PyProof.Rows.envOfC qual (defScope st) s.heap.objs.size f cdv)) →
      ∃ t, PSs (cxOf CX0 P w K mg base N qual (defScope st) f cdv A outer s H E).nox (defBody st) t ∧ ∀ ws μ R, F ws μ R → AS K t { nx := fun _ μ' => R (.d .none) μ', rt := R } (stG N ws) μ) : FnOk P w K mg base CX0 (k + 1) f fd ps (spD K F) := by
  refine Fu.ok S (fun vs H Q E h => ?_) (fun cdv A outer s H vs Q E hr h => ?_)
  · obtain ⟨A, M, μ, ws, R, mo, r, h, _⟩ := h
    rw [r.length]
    exact len ws μ R h
  · obtain ⟨t, ht, hs⟩ := hbody cdv A outer s H E hr
    obtain ⟨A, M, μ, ws, R, mo, r, h, q⟩ := h
    refine ⟨t, ht, hs ws μ R h A M _ H ⟨mo, gr_start r⟩ _ ⟨fun M' σ' H' Γ' μ' c e h => q M' H' _ _ μ' c.mo e (.d .non) h, fun M' H' v w μ' mo' e' r' h => q M' H' v w μ' mo' e' r' h, fun _ _ _ _ _ _ _ h => h.elim, fun _ _ _ _ _ _ _ h => h.elim⟩⟩
end Pd

/-! unions: one rule for each operator, whatever its operands -/
namespace Pd
open PySem PySem.Spec PyProof.Rows L2
open Evl (Ex)
theorem orR {X : Cx} {f : Value → Value → Sem Value} {r r' : R2} (h : OpR X f r) (h' : OpR X f r') : OpR X f (fun x y H Q => r x y H Q ∨ r' x y H Q) := by
  intro pins s σ H x y v u Q I rx ry q
  rcases q with q | q
  · exact h pins s σ H x y v u Q I rx ry q
  · exact h' pins s σ H x y v u Q I rx ry q
theorem orC {X : Cx} {f : Value} {r r' : List V → Hp → VK → Prop} (h : CallR X f r) (h' : CallR X f r') : CallR X f (fun xs H Q => r xs H Q ∨ r' xs H Q) := by
  intro pins s σ H xs us Q I rx q
  rcases q with q | q
  · exact h pins s σ H xs us Q I rx q
  · exact h' pins s σ H xs us Q I rx q
theorem orI {X : Cx} {tg e : Expr} {w w' : TI} (h : PI X tg e w) (h' : PI X tg e w') : PI X tg e (fun σ H R => w σ H R ∨ w' σ H R) := ⟨fun pins s σ H R I q => by
  rcases q with q | q
  · exact h.run pins s σ H R I q
  · exact h'.run pins s σ H R I q⟩
def COp (i j : Int) : Prop := 0 ≤ j ∧ (Builtin.Int.intBits i : Int) * j ≤ 2 ^ 27
section
variable {X : Cx}
theorem op_powX : OpR X (binaryOp .Pow) (rI COp fun i j => .int (i ^ j.toNat)) := opI fun _ _ _ _ _ _ _ hc q => pow_int hc.1 hc.2 q
/-- + -/
def rAddI : R2 := rI0 fun i j => .int (i + j)
def rAddS : R2 := fun x y H Q => ∃ i j, x = .str i ∧ y = .str j ∧ i.length + j.length ≤ sizeLine ∧ Q (.str (i ++ j)) H
def rAddU (K : PySem.W.Frag) : R2 := fun x y H Q => rAddI x y H Q ∨ (rCat x y H Q ∨ (rCatT K x y H Q ∨ rAddS x y H Q))
theorem op_addU : OpR X (binaryOp .Add) (rAddU X.K) := orR op_add (orR op_cat (orR op_catT op_add_str))
theorem iop_addU : OpR X (inplaceOp .Add) (fun x y H Q => rAddI x y H Q ∨ rAddS x y H Q) := orR iop_add iop_add_str
def rSubI : R2 := rI0 fun i j => .int (i - j)
theorem op_subU : OpR X (binaryOp .Sub) rSubI := op_sub
theorem iop_subU : OpR X (inplaceOp .Sub) rSubI := iop_sub
def rMulI : R2 := rI CMul fun i j => .int (i * j)
def rMulX : R2 := rI CMulX fun i j => .int (i * j)
def rMulU : R2 := fun x y H Q => rMulI x y H Q ∨ (rMulX x y H Q ∨ rRep x y H Q)
theorem op_mulU : OpR X (binaryOp .Mult) rMulU := orR op_mul (orR op_mulX op_rep)
theorem iop_mulU : OpR X (inplaceOp .Mult) rMulI := iop_mul
def rDivI : R2 := rI CDivW fun i j => .int (i / j)
theorem op_divU : OpR X (binaryOp .FloorDiv) rDivI := op_fdivW
theorem iop_divU : OpR X (inplaceOp .FloorDiv) (rI CDiv fun i j => .int (i / j)) := iop_fdiv
def rModI : R2 := rI (fun _ j => 0 < j) fun i j => .int (i % j)
theorem op_modU : OpR X (binaryOp .Mod) rModI := op_mod
def rPowI : R2 := rI COp fun i j => .int (i ^ j.toNat)
theorem op_powU : OpR X (binaryOp .Pow) rPowI := op_powX
/-- == -/
def rEqU (K : PySem.W.Frag) : R2 := fun x y H Q => rEq x y H Q ∨ rEqD K x y H Q
def rNeU (K : PySem.W.Frag) : R2 := fun x y H Q => rNe x y H Q ∨ rNeD K x y H Q
theorem op_eqU (hu : X.A.units + 64 < cLine) : OpR X (compareOp .Eq) (rEqU X.K) := orR op_eq (op_eqD hu)
theorem op_neU (hu : X.A.units + 64 < cLine) : OpR X (compareOp .NotEq) (rNeU X.K) := orR op_ne (op_neD hu)
def rLtI : R2 := rI0 fun i j => .bl (decide (i < j))
def rLeI : R2 := rI0 fun i j => .bl (decide (i ≤ j))
def rGtI : R2 := rI0 fun i j => .bl (decide (j < i))
def rGeI : R2 := rI0 fun i j => .bl (decide (j ≤ i))
def rLtS : R2 := fun x y H Q => ∃ i j, x = .str i ∧ y = .str j ∧ Q (.bl (decide (i.cps.toList < j.cps.toList))) H
def rLtU : R2 := fun x y H Q => rLtI x y H Q ∨ rLtS x y H Q
theorem op_ltU : OpR X (compareOp .Lt) rLtU := orR op_lt op_lt_str
theorem op_leU : OpR X (compareOp .LtE) rLeI := op_le
theorem op_gtU : OpR X (compareOp .Gt) rGtI := op_gt
theorem op_geU : OpR X (compareOp .GtE) rGeI := op_ge
def rInS (neg : Bool) : R2 := fun x y H Q => ∃ i j, x = .str i ∧ y = .str j ∧ Q (.bl (if neg then !(!(Builtin.Str.occurrences j i 0 j.length 1).isEmpty) else !(Builtin.Str.occurrences j i 0 j.length 1).isEmpty)) H
def rInU (K : PySem.W.Frag) (neg : Bool) : R2 := fun x y H Q => rIn K neg x y H Q ∨ rInS neg x y H Q
theorem op_inU : OpR X (compareOp .In) (rInU X.K false) := orR op_in_seq op_in_str
theorem op_niU : OpR X (compareOp .NotIn) (rInU X.K true) := orR op_notIn_seq op_notin_str
/-- None, or a bool beside a bool -/
def rIsU (neg : Bool) : R2 := fun x y H Q => (y = .non ∧ Q (.bl (if neg then !decide (x = .non) else decide (x = .non))) H) ∨ (∃ a b : Bool, x = .bl a ∧ y = .bl b ∧ Q (.bl (if neg then !decide (a = b) else decide (a = b))) H)
theorem op_isU : OpR X (compareOp .Is) (rIsU false) := orR op_isN op_isBl
theorem op_isnU : OpR X (compareOp .IsNot) (rIsU true) := orR op_notN op_notBl
def iSeq (K : PySem.W.Frag) (te : TE) : TI := fun σ H R => iList K te σ H R ∨ (iTup K te σ H R ∨ iStr te σ H R)
theorem pi_seq {tg e : Expr} {te : TE} (he : PE X e te) : PI X tg e (iSeq X.K te) := orI (pi_list he) (orI (pi_tup he) (pi_str he))
def rSlU (K : PySem.W.Frag) : V → Option Int → Option Int → Hp → VK → Prop := fun x l u H Q => rSlL K x l u H Q ∨ (rSlT K x l u H Q ∨ rSlS x l u H Q)
theorem sl_U : SlR X (rSlU X.K) := SlR.or sl_list (SlR.or sl_tup sl_str)
def tTru (K : PySem.W.Frag) (ta : TE) : TT := fun σ H Q => ta σ H fun x H' => ∃ k, TruV K x H' k ∧ Q k H'
theorem pt_tru {a : Expr} {ta : TE} (ha : PE X a ta) (he : ∀ whole, isTrue a X.env whole = (do let v ← whole; standAt a.pos; holding [v] (truthy v)) := by intro _; rfl) : PT X a (tTru X.K ta) := pt_truth ha he
def rLenU (K : PySem.W.Frag) : List V → Hp → VK → Prop := fun xs H Q => ∃ x n, xs = [x] ∧ LenV K x H n ∧ Q (.int n) H
theorem call_lenU : CallR X (.builtin "len") (rLenU X.K) := call_len
def rListU (K : PySem.W.Frag) : List V → Hp → VK → Prop := fun xs H Q => ∃ p ys, xs = [.ref p] ∧ (SqL K H p ys ∨ SqT K H p ys) ∧ ∀ l, H l = none → Q (.ref l) (upd H l (.lst ys))
theorem call_listU : CallR X (.type "list") (rListU X.K) := call_list_of
def rTupU (K : PySem.W.Frag) : List V → Hp → VK → Prop := fun xs H Q => ∃ p ys, xs = [.ref p] ∧ ((SqL K H p ys ∧ ∀ l, H l = none → Q (.ref l) (upd H l (.tup ys))) ∨ (SqT K H p ys ∧ Q (.ref p) H))
theorem call_tupU : CallR X (.type "tuple") (rTupU X.K) := call_tuple_of
def rIntU : List V → Hp → VK → Prop := fun xs H Q => (∃ i, xs = [.int i] ∧ Q (.int i) H) ∨ ∃ k, xs = [.bl k] ∧ Q (.int (if k then 1 else 0)) H
theorem call_intU : CallR X (.type "int") rIntU := call_int1
def rAbsU : List V → Hp → VK → Prop := fun xs H Q => ∃ i, xs = [.int i] ∧ Q (.int (if i < 0 then -i else i)) H
theorem call_absU : CallR X (.builtin "abs") rAbsU := call_abs
def rMax2 : List V → Hp → VK → Prop := fun xs H Q => ∃ i j, xs = [.int i, .int j] ∧ Q (.int (if j > i then j else i)) H
def rMin2 : List V → Hp → VK → Prop := fun xs H Q => ∃ i j, xs = [.int i, .int j] ∧ Q (.int (if j < i then j else i)) H
def rMaxU (K : PySem.W.Frag) : List V → Hp → VK → Prop := fun xs H Q => rMax2 xs H Q ∨ rMax K xs H Q
def rMinU (K : PySem.W.Frag) : List V → Hp → VK → Prop := fun xs H Q => rMin2 xs H Q ∨ rMin K xs H Q
theorem call_maxU (hc : X.calm = true) : CallR X (.builtin "max") (rMaxU X.K) := orC (call_max2 hc) (cr_max hc)
theorem call_minU (hc : X.calm = true) : CallR X (.builtin "min") (rMinU X.K) := orC (call_min2 hc) (cr_min hc)
def rPopU : V → List V → Hp → VK → Prop := fun x vs H Q => rPop x vs H Q ∨ rPopAt x vs H Q
theorem mt_popU : MtM X "list.pop" rPopU := by
  intro pins s σ H x xs v us Q I rx rs q
  rcases q with q | q
  · exact mt_pop pins s σ H x xs v us Q I rx rs q
  · exact mt_popAt pins s σ H x xs v us Q I rx rs q
/-- a call with keywords alone -/
theorem pe_callN0 {CX : CXT} {k : Nat} {f : Addr} {fd : FuncData} {ps ks : List Str} {sp : Sp} {x : Str} {E : XK} {kws : List Keyword} {tk : TA} {p pos : Pos} {g : List Value → List Value → List Value} {gV : List V → List V → List V} (F : FnOk X.prog X.w X.K X.mg X.base CX k f fd ps sp) (hr : Room k X.A) (hg : Gl X x) (hm : X.mg x = some (.ref f)) (hk : PySem.W.keepIn X.K (.ref f) = true) (hb : KBn X.K fd ps 0 ks g gV) (hx : Passes CX X E)
    (hkw : PK X kws tk) (hall : (backToKw pos (keywordEach kws X.env)).all (·.1.isSome) = true := by rfl) (hks : (backToKw pos (keywordEach kws X.env)).filterMap (·.1) = ks := by rfl)
    (hdb : (x == ("__debug__" : Str)) = false := by decide)
    (hpl : ((backTo pos (starEach [] X.env)).any (·.1) || (backToKw pos (keywordEach kws X.env)).any (·.1.isNone)) = false := by rfl) :
    PE X (.Call (.Name x p) [] kws pos) (tCallN 0 ks.length sp gV E tNil tk) := by
  refine ⟨fun pins s σ H Q I h => ?_⟩
  refine wpAny_Call_Name_kw (ld_glob I hg hm ?_ hdb)
  refine PySem.W.callWith_KW0 (h₀ := X.base) I.ok.mod.kin hk hall (thn (hkw.run pos pins s σ H _ I h) fun ws s2 ⟨zs, H2, I2, rz, l1, l2, q2⟩ => ⟨I2.kIn, ?_⟩) hpl
  rw [hks]
  exact run_fnN F hr hb hx I2 .nil rz l1 l2 q2
end
/-! ### what they ask -/
section
variable {K : PySem.W.Frag} {Γ : G} {μ : Mu} {R : W → Mu → Prop} {ta tb te : TE}
theorem ao_l {r r' : R2} {x y : W} (h : AO K r x y μ R) : AO K (fun x y H Q => r x y H Q ∨ r' x y H Q) x y μ R := fun A M H v u mo rv ru Q q => .inl (h A M H v u mo rv ru Q q)
theorem ao_r {r r' : R2} {x y : W} (h : AO K r' x y μ R) : AO K (fun x y H Q => r x y H Q ∨ r' x y H Q) x y μ R := fun A M H v u mo rv ru Q q => .inr (h A M H v u mo rv ru Q q)
theorem ac_l {r r' : List V → Hp → VK → Prop} {xs : List W} (h : AC K r xs μ R) : AC K (fun xs H Q => r xs H Q ∨ r' xs H Q) xs μ R := fun A M H v mo rv Q q => .inl (h A M H v mo rv Q q)
theorem ac_r {r r' : List V → Hp → VK → Prop} {xs : List W} (h : AC K r' xs μ R) : AC K (fun xs H Q => r xs H Q ∨ r' xs H Q) xs μ R := fun A M H v mo rv Q q => .inr (h A M H v mo rv Q q)
theorem am_l {r r' : V → List V → Hp → VK → Prop} {x : W} {xs : List W} (h : AM K r x xs μ R) : AM K (fun x xs H Q => r x xs H Q ∨ r' x xs H Q) x xs μ R := fun A M H v vs mo rv rs Q q => .inl (h A M H v vs mo rv rs Q q)
theorem am_r {r r' : V → List V → Hp → VK → Prop} {x : W} {xs : List W} (h : AM K r' x xs μ R) : AM K (fun x xs H Q => r x xs H Q ∨ r' x xs H Q) x xs μ R := fun A M H v vs mo rv rs Q q => .inr (h A M H v vs mo rv rs Q q)
theorem ai_l {w w' : TI} {RI : List W → (Mu → Prop) → Mu → Prop} (h : AI K w Γ μ RI) : AI K (fun σ H R => w σ H R ∨ w' σ H R) Γ μ RI := fun A M σ H c Q q => .inl (h A M σ H c Q q)
theorem ai_r {w w' : TI} {RI : List W → (Mu → Prop) → Mu → Prop} (h : AI K w' Γ μ RI) : AI K (fun σ H R => w σ H R ∨ w' σ H R) Γ μ RI := fun A M σ H c Q q => .inr (h A M σ H c Q q)
theorem asl_l {r r' : V → Option Int → Option Int → Hp → VK → Prop} {x : W} {lo hi : Option Int} (h : ASl K r x lo hi μ R) : ASl K (fun x l u H Q => r x l u H Q ∨ r' x l u H Q) x lo hi μ R := fun A M H v mo rv Q q => .inl (h A M H v mo rv Q q)
theorem asl_r {r r' : V → Option Int → Option Int → Hp → VK → Prop} {x : W} {lo hi : Option Int} (h : ASl K r' x lo hi μ R) : ASl K (fun x l u H Q => r x l u H Q ∨ r' x l u H Q) x lo hi μ R := fun A M H v mo rv Q q => .inr (h A M H v mo rv Q q)
/-! +, -, *, //, %, ** -/
theorem o_addI {i j : Int} (k : R (.d (.int (i + j))) μ) : AO K (rAddU K) (.d (.int i)) (.d (.int j)) μ R := ao_l (ao_iI (g := fun i j => i + j) k)
theorem o_addL {x y : W} {ws zs : List W} (hx : LN μ x ws) (hy : LN μ y zs) (hl : ws.length + zs.length ≤ sizeLine) (q : NL (ws ++ zs) μ R) : AO K (rAddU K) x y μ R := ao_r (ao_l (ao_cat hx hy hl q))
theorem ao_addS {x y : PySem.Str} (hl : x.length + y.length ≤ sizeLine) (q : R (.d (.str (x ++ y))) μ) : AO K rAddS (.d (.str x)) (.d (.str y)) μ R := fun A M H v u mo rv ru Q h => by
  rw [vr_str rv, vr_str ru]
  exact ⟨x, y, rfl, rfl, hl, h M H _ _ μ mo Eff.refl (.d (.str _)) q⟩
theorem o_addS {x y : PySem.Str} (hl : x.length + y.length ≤ sizeLine) (q : R (.d (.str (x ++ y))) μ) : AO K (rAddU K) (.d (.str x)) (.d (.str y)) μ R := ao_r (ao_r (ao_r (ao_addS hl q)))
theorem o_addT {x y : W} {ws zs : List W} (hx : TW x ws) (hy : TW y zs) (h0 : ws ≠ []) (h1 : zs ≠ []) (hl : ws.length + zs.length ≤ sizeLine) (q : NT (ws ++ zs) μ R) : AO K (rAddU K) x y μ R := ao_r (ao_r (ao_l fun A M H v u mo rv ru Q h => by
  obtain ⟨a, vs, rfl, ha, ra⟩ := hx.get rv
  obtain ⟨b, us, rfl, hb, rb⟩ := hy.get ru
  have n1 : vs ≠ [] := fun z => by
    subst z
    cases ra
    exact h0 rfl
  have n2 : us ≠ [] := fun z => by
    subst z
    cases rb
    exact h1 rfl
  refine ⟨a, b, vs, us, rfl, rfl, Evl.ex_t vw_le ha, Evl.ex_t vw_le hb, n1, by rw [ra.length, rb.length]; exact hl, ?_⟩
  first
    | exact ⟨fun z => absurd z n2, fun _ p hp => by
        obtain ⟨w, m2, e2, r2, hR⟩ := q.use mo (ra.append rb) hp
        exact h M _ _ w μ m2 e2 r2 hR⟩
    | exact ⟨fun z => absurd z n2, fun p hp => by
        obtain ⟨w, m2, e2, r2, hR⟩ := q.use mo (ra.append rb) hp
        exact h M _ _ w μ m2 e2 r2 hR⟩))
theorem o_subI {i j : Int} (k : R (.d (.int (i - j))) μ) : AO K rSubI (.d (.int i)) (.d (.int j)) μ R := ao_iI (g := fun i j => i - j) k
theorem o_mulI {i j : Int} (hc : CMul i j) (k : R (.d (.int (i * j))) μ) : AO K rMulU (.d (.int i)) (.d (.int j)) μ R := ao_l (ao_cI (g := fun i j => i * j) hc k)
theorem o_mulX {i j : Int} (hc : CMulX i j) (k : R (.d (.int (i * j))) μ) : AO K rMulU (.d (.int i)) (.d (.int j)) μ R := ao_r (ao_l (ao_cI (g := fun i j => i * j) hc k))
theorem o_rep {x : W} {ws : List W} {k : Int} (hx : LN μ x ws) (hk : -(2 ^ 63) ≤ k ∧ k < 2 ^ 63) (hl : ws.length * k.toNat ≤ sizeLine) (q : NL (List.replicate k.toNat ws).flatten μ R) : AO K rMulU x (.d (.int k)) μ R := ao_r (ao_r (ao_rep hx hk hl q))
theorem o_divI {i j : Int} (hc : CDivW i j) (k : R (.d (.int (i / j))) μ) : AO K rDivI (.d (.int i)) (.d (.int j)) μ R := ao_cI (g := fun i j => i / j) hc k
theorem o_modI {i j : Int} (hc : 0 < j) (k : R (.d (.int (i % j))) μ) : AO K rModI (.d (.int i)) (.d (.int j)) μ R := ao_cI (P := fun _ j => 0 < j) (g := fun i j => i % j) hc k
theorem o_powI {i j : Int} (hc : COp i j) (k : R (.d (.int (i ^ j.toNat))) μ) : AO K rPowI (.d (.int i)) (.d (.int j)) μ R := ao_cI (g := fun i j => i ^ j.toNat) hc k
theorem o_ltI {i j : Int} (k : R (.d (.bool (decide (i < j)))) μ) : AO K rLtU (.d (.int i)) (.d (.int j)) μ R := ao_l (ao_iB (g := fun i j => decide (i < j)) k)
theorem o_leI {i j : Int} (k : R (.d (.bool (decide (i ≤ j)))) μ) : AO K rLeI (.d (.int i)) (.d (.int j)) μ R := ao_iB (g := fun i j => decide (i ≤ j)) k
theorem o_gtI {i j : Int} (k : R (.d (.bool (decide (j < i)))) μ) : AO K rGtI (.d (.int i)) (.d (.int j)) μ R := ao_iB (g := fun i j => decide (j < i)) k
theorem o_geI {i j : Int} (k : R (.d (.bool (decide (j ≤ i)))) μ) : AO K rGeI (.d (.int i)) (.d (.int j)) μ R := ao_iB (g := fun i j => decide (j ≤ i)) k
theorem o_eqI {i j : Int} (k : R (.d (.bool (decide (i = j)))) μ) : AO K (rEqU K) (.d (.int i)) (.d (.int j)) μ R := ao_l (ao_eqI k)
theorem o_neI {i j : Int} (k : R (.d (.bool (!decide (i = j)))) μ) : AO K (rNeU K) (.d (.int i)) (.d (.int j)) μ R := ao_l (ao_neI k)
theorem o_eqB {i j : Bool} (k : R (.d (.bool (decide (i = j)))) μ) : AO K (rEqU K) (.d (.bool i)) (.d (.bool j)) μ R := ao_l (ao_eqB k)
theorem o_neB {i j : Bool} (k : R (.d (.bool (!decide (i = j)))) μ) : AO K (rNeU K) (.d (.bool i)) (.d (.bool j)) μ R := ao_l (ao_neB k)
theorem o_eqS {i j : PySem.Str} (k : R (.d (.bool (decide (i = j)))) μ) : AO K (rEqU K) (.d (.str i)) (.d (.str j)) μ R := ao_l (ao_eqS k)
theorem o_neS {i j : PySem.Str} (k : R (.d (.bool (!decide (i = j)))) μ) : AO K (rNeU K) (.d (.str i)) (.d (.str j)) μ R := ao_l (ao_neS k)
theorem o_eqD {x y : W} {d e : PyData} (hx : Rs μ x d) (hy : Rs μ y e) (sd : SeqAt.shaped d = true) (se : SeqAt.shaped e = true) (k : R (.d (.bool (PyData.eqv d e))) μ) : AO K (rEqU K) x y μ R := ao_r (ao_eqD hx hy sd se k)
theorem o_neD {x y : W} {d e : PyData} (hx : Rs μ x d) (hy : Rs μ y e) (sd : SeqAt.shaped d = true) (se : SeqAt.shaped e = true) (k : R (.d (.bool (!PyData.eqv d e))) μ) : AO K (rNeU K) x y μ R := ao_r (ao_neD hx hy sd se k)
theorem o_is {x : W} {neg : Bool} (k : R (.d (.bool (if neg then !isNon x else isNon x))) μ) : AO K (rIsU neg) x (.d .none) μ R := fun A M H v u mo rv ru Q h => by
  rw [vr_none ru]
  refine .inl ⟨rfl, ?_⟩
  rw [vr_isN rv]
  exact h M H _ _ μ mo Eff.refl (.d (.bl _)) k
theorem o_isB {a b neg : Bool} (k : R (.d (.bool (if neg then !decide (a = b) else decide (a = b)))) μ) : AO K (rIsU neg) (.d (.bool a)) (.d (.bool b)) μ R := fun A M H v u mo rv ru Q h => by
  rw [vr_bool rv, vr_bool ru]
  exact .inr ⟨a, b, rfl, rfl, h M H _ _ μ mo Eff.refl (.d (.bl _)) k⟩
/-! items -/
theorem o_ixL {x z : W} {ws : List W} {i : Int} (hx : LW μ x ws) (hz : atI ws i = some z) (q : R z μ) : AO K (rIx K) x (.d (.int i)) μ R := ao_l (ao_ixL hx hz q)
theorem o_ixT {x z : W} {ws : List W} {i : Int} (hx : TW x ws) (hz : atI ws i = some z) (q : R z μ) : AO K (rIx K) x (.d (.int i)) μ R := ao_r (ao_l (ao_ixT hx hz q))
theorem o_ixS {x : PySem.Str} {i : Int} {c : Nat} (hl : x.length ≤ sizeLine) (hc : atI x.cps.toList i = some c) (q : R (.d (.str ⟨#[c]⟩)) μ) : AO K (rIx K) (.d (.str x)) (.d (.int i)) μ R := ao_r (ao_r (ao_ixS hl hc q))
theorem o_slL {x : W} {ws : List W} {lo hi : Option Int} (hx : LW μ x ws) (q : NL (cutW ws lo hi) μ R) : ASl K (rSlU K) x lo hi μ R := asl_l (as_slL hx q)
theorem o_slS {x : PySem.Str} {lo hi : Option Int} (hl : x.length ≤ sizeLine) (q : R (.d (.str (cutS x lo hi))) μ) : ASl K (rSlU K) (.d (.str x)) lo hi μ R := asl_r (asl_r (as_slS hl q))
/-! truth -/
inductive TrW (μ : Mu) : W → Bool → Prop
  | non : TrW μ (.d .none) false
  | bl (b : Bool) : TrW μ (.d (.bool b)) b
  | int (i : Int) : TrW μ (.d (.int i)) (i != 0)
  | str (x : PySem.Str) (h : x.length ≤ sizeLine) : TrW μ (.d (.str x)) ((x.length : Int) != 0)
  | lst {w : W} {ws : List W} (h : LW μ w ws) : TrW μ w (!ws.isEmpty)
  | tup {w : W} {ws : List W} (h : TW w ws) : TrW μ w (!ws.isEmpty)
theorem vrs_empty {Hv : Hp} {M : List Addr} {vs : List V} {ws : List W} (h : VRs K Hv M vs ws) : vs.isEmpty = ws.isEmpty := by cases h <;> rfl
theorem TrW.ok {A : Addr → Prop} {M : List Addr} {H : Hp} {w : W} {v : V} {b : Bool} (mo : MOk K A M H μ) (r : VR K (vw A M μ H) M v w) (h : TrW μ w b) : TruV K v H b := by
  cases h with
  | non => rw [vr_none r]; rfl
  | bl b => rw [vr_bool r]; rfl
  | int i => rw [vr_int r]; rfl
  | str x hl => rw [vr_str r]; exact ⟨hl, rfl⟩
  | lst hl =>
    obtain ⟨a, vs, rfl, hs, rs⟩ := hl.get mo r
    exact .inl ⟨vs, hs, by rw [vrs_empty rs]⟩
  | tup hl =>
    obtain ⟨a, vs, rfl, hs, rs⟩ := hl.get r
    exact .inr (.inl ⟨vs, Evl.ex_t vw_le hs, by rw [vrs_empty rs]⟩)
theorem at_tru {RT : Bool → Mu → Prop} (h : AX K te Γ μ fun w μ1 => ∃ b, TrW μ1 w b ∧ RT b μ1) : AXT K (tTru K te) Γ μ RT := fun A M σ H c Q q =>
  h A M σ H c _ fun M1 H1 v w μ1 mo1 e1 r1 ⟨b, hb, hR⟩ => ⟨b, hb.ok mo1 r1, q M1 H1 b μ1 mo1 e1 hR⟩
theorem at_truB {RT : Bool → Mu → Prop} (h : AX K te Γ μ fun w μ1 => ∃ b, w = .d (.bool b) ∧ RT b μ1) : AXT K (tTru K te) Γ μ RT := at_tru (ax_weak h fun w μ' ⟨b, e, r⟩ => ⟨b, by rw [e]; exact .bl b, r⟩)
theorem ax_andT (h : AX K ta Γ μ fun x μ1 => ∃ b, TrW μ1 x b ∧ if b = true then AX K tb Γ μ1 R else R x μ1) : AX K (tAndT K ta tb) Γ μ R := fun A M σ H c Q q =>
  h A M σ H c _ fun M1 H1 v x μ1 mo1 e1 r1 ⟨b, hb, h1⟩ => by
    refine ⟨b, hb.ok mo1 r1, ?_⟩
    cases b with
    | true =>
      show tb σ H1 Q
      exact h1 A M1 σ H1 (c.eff e1 mo1) Q fun M2 H2 z w μ2 mo2 e2 r2 h2 => q M2 H2 z w μ2 mo2 (e1.trans e2) r2 h2
    | false => exact q M1 H1 _ _ μ1 mo1 e1 r1 h1
theorem ax_orT (h : AX K ta Γ μ fun x μ1 => ∃ b, TrW μ1 x b ∧ if b = true then R x μ1 else AX K tb Γ μ1 R) : AX K (tOrT K ta tb) Γ μ R := fun A M σ H c Q q =>
  h A M σ H c _ fun M1 H1 v x μ1 mo1 e1 r1 ⟨b, hb, h1⟩ => by
    refine ⟨b, hb.ok mo1 r1, ?_⟩
    cases b with
    | false =>
      show tb σ H1 Q
      exact h1 A M1 σ H1 (c.eff e1 mo1) Q fun M2 H2 z w μ2 mo2 e2 r2 h2 => q M2 H2 z w μ2 mo2 (e1.trans e2) r2 h2
    | true => exact q M1 H1 _ _ μ1 mo1 e1 r1 h1
theorem ax_notT (h : AX K ta Γ μ fun x μ1 => ∃ b, TrW μ1 x b ∧ R (.d (.bool (!b))) μ1) : AX K (tNotT K ta) Γ μ R := fun A M σ H c Q q =>
  h A M σ H c _ fun M1 H1 v x μ1 mo1 e1 r1 ⟨b, hb, h1⟩ => ⟨b, hb.ok mo1 r1, q M1 H1 _ _ μ1 mo1 e1 (.d (.bl _)) h1⟩
theorem ax_chain {r r' : R2} {tc : TE} (h : AX K ta Γ μ fun x μ1 => AX K tb Γ μ1 fun y μ2 => AO K r x y μ2 fun z μ3 => ∃ b, z = .d (.bool b) ∧ if b = true then AX K tc Γ μ3 fun u μ4 => AO K r' y u μ4 R else R (.d (.bool false)) μ3) : AX K (tChain r r' ta tb tc) Γ μ R := fun A M σ H c Q q =>
  h A M σ H c _ fun M1 H1 v x μ1 mo1 e1 r1 h1 => h1 A M1 σ H1 (c.eff e1 mo1) _ fun M2 H2 u y μ2 mo2 e2 r2 h2 => h2 A M2 H2 v u mo2 (r1.mono e2.ex e2.pre) r2 _ fun M3 H3 z w μ3 mo3 e3 r3 ⟨b, hb, h3⟩ => by
    subst hb
    have e13 := (e1.trans e2).trans e3
    refine ⟨b, vr_bool r3, ?_⟩
    cases b with
    | true => exact h3 A M3 σ H3 (c.eff e13 mo3) _ fun M4 H4 u4 w4 μ4 mo4 e4 r4 h4 => h4 A M4 H4 u u4 mo4 (r2.mono (e3.trans e4).ex (e3.trans e4).pre) r4 Q fun M5 H5 z5 w5 μ5 mo5 e5 r5 h5 => q M5 H5 z5 w5 μ5 mo5 ((e13.trans e4).trans e5) r5 h5
    | false => exact q M3 H3 _ _ μ3 mo3 e13 (.d (.bl _)) h3
/-! calls of built-ins -/
theorem c_lenL {x : W} {ws : List W} (hx : LW μ x ws) (q : R (.d (.int ws.length)) μ) : AC K (rLenU K) [x] μ R := fun A M H vs mo rs Q h => by
  cases rs with
  | cons rw rn =>
    cases rn
    obtain ⟨a, us, rfl, hs, ru⟩ := hx.get mo rw
    refine ⟨_, _, rfl, .inl ⟨us, hs, rfl⟩, ?_⟩
    rw [ru.length]
    exact h M H _ _ μ mo Eff.refl (.d (.int _)) q
theorem c_lenT {x : W} {ws : List W} (hx : TW x ws) (q : R (.d (.int ws.length)) μ) : AC K (rLenU K) [x] μ R := fun A M H vs mo rs Q h => by
  cases rs with
  | cons rw rn =>
    cases rn
    obtain ⟨a, us, rfl, hs, ru⟩ := hx.get rw
    refine ⟨_, _, rfl, .inr ⟨us, Evl.ex_t vw_le hs, rfl⟩, ?_⟩
    rw [ru.length]
    exact h M H _ _ μ mo Eff.refl (.d (.int _)) q
theorem c_lenS {x : PySem.Str} (hl : x.length ≤ sizeLine) (q : R (.d (.int x.length)) μ) : AC K (rLenU K) [.d (.str x)] μ R := fun A M H vs mo rs Q h => by
  cases rs with
  | cons rw rn =>
    cases rn
    rw [vr_str rw]
    exact ⟨_, x.length, rfl, ⟨hl, rfl⟩, h M H _ _ μ mo Eff.refl (.d (.int _)) q⟩
theorem c_int {i : Int} (q : R (.d (.int i)) μ) : AC K rIntU [.d (.int i)] μ R := ac_int q
theorem c_intB {i : Bool} (q : R (.d (.int (if i then 1 else 0))) μ) : AC K rIntU [.d (.bool i)] μ R := ac_intB q
theorem c_abs {i : Int} (q : R (.d (.int (if i < 0 then -i else i))) μ) : AC K rAbsU [.d (.int i)] μ R := ac_1 (g := fun i => if i < 0 then -i else i) q
theorem c_max2 {i j : Int} (q : R (.d (.int (max i j))) μ) : AC K (rMaxU K) [.d (.int i), .d (.int j)] μ R := ac_l (ac_2 (g := fun i j => if j > i then j else i) (by
  have e : (if j > i then j else i) = max i j := by omega
  show R (.d (.int (if j > i then j else i))) μ
  rw [e]
  exact q))
theorem c_min2 {i j : Int} (q : R (.d (.int (min i j))) μ) : AC K (rMinU K) [.d (.int i), .d (.int j)] μ R := ac_l (ac_2 (g := fun i j => if j < i then j else i) (by
  have e : (if j < i then j else i) = min i j := by omega
  show R (.d (.int (if j < i then j else i))) μ
  rw [e]
  exact q))
theorem c_maxL {x : W} {ns : List Int} (hx : LW μ x (ns.map fun n => W.d (.int n))) (h0 : 0 < ns.length) (q : ∀ m, m ∈ ns → (∀ y, y ∈ ns → y ≤ m) → R (.d (.int m)) μ) : AC K (rMaxU K) [x] μ R := ac_r (ac_max hx h0 q)
theorem c_minL {x : W} {ns : List Int} (hx : LW μ x (ns.map fun n => W.d (.int n))) (h0 : 0 < ns.length) (q : ∀ m, m ∈ ns → (∀ y, y ∈ ns → m ≤ y) → R (.d (.int m)) μ) : AC K (rMinU K) [x] μ R := ac_r (ac_min hx h0 q)
theorem c_listL {x : W} {ws : List W} (hx : LW μ x ws) (q : NL ws μ R) : AC K (rListU K) [x] μ R := ac_list hx q
theorem c_listT {x : W} {ws : List W} (hx : TW x ws) (q : NL ws μ R) : AC K (rListU K) [x] μ R := ac_listT hx q
theorem c_tupL {x : W} {ws : List W} (hx : LW μ x ws) (q : NT ws μ R) : AC K (rTupU K) [x] μ R := ac_tupleL hx q
/-- isinstance of data against a built-in class -/
def tyD : PyData → String
  | .none => "NoneType"
  | .bool _ => "bool"
  | .int _ => "int"
  | .str _ => "str"
  | .list _ => "list"
  | .tuple _ => "tuple"
  | .dict _ => "dict"
inductive TyW (μ : Mu) : W → String → Prop
  | d (x : PyData) : TyW μ (.d x) (tyD x)
  | m {k : Nat} {ws : List W} (h : μ[k]? = some (some (.lst ws))) : TyW μ (.m k) "list"
  | t (ws : List W) : TyW μ (.t ws) "tuple"
  | f (ws : List W) : TyW μ (.f ws) "list"
theorem tyx_t {H : Hp} {a : Addr} {xs : List V} (h : SqT K H a xs) : TyX K H (.ref a) (.type "tuple") := by
  rcases h with (h | ⟨o, h⟩) | ⟨o, its, n, h, hc, _⟩
  · exact .base (.tup h)
  · exact .fTuple h
  · exact .kTuple h hc
theorem tyx_l {H : Hp} {a : Addr} {xs : List V} (h : SqL K H a xs) : TyX K H (.ref a) (.type "list") := by
  rcases h with (h | ⟨o, h⟩) | ⟨o, its, n, h, hc, _⟩
  · exact .base (.lst h)
  · exact .base (.frz h)
  · exact .kList h hc
theorem TyW.ok {A : Addr → Prop} {M : List Addr} {H : Hp} {w : W} {v : V} {T : String} (mo : MOk K A M H μ) (r : VR K (vw A M μ H) M v w) (h : TyW μ w T) : TyX K H v (.type T) := by
  cases h with
  | d x =>
    cases r with
    | d r =>
      cases r with
      | non => exact .base .non
      | bl b => exact .base (.bl b)
      | int i => exact .base (.int i)
      | str x => exact .base (.str x)
      | lst h1 h2 => exact .base (.lst (vw_le _ _ h1))
      | tup h1 h2 => exact tyx_t (Evl.ex_t vw_le h1)
  | m hk =>
    obtain ⟨a, vs, rfl, hm, e, ru⟩ := cell_get mo r hk
    exact .base (.lst e)
  | t ws =>
    cases r with
    | t h1 h2 => exact tyx_t (Evl.ex_t vw_le h1)
  | f ws =>
    cases r with
    | f h1 h2 => exact tyx_l (Evl.ex_l vw_le h1)
theorem vr_k {v u : V} {Hv : Hp} {M : List Addr} (h : VR K Hv M v (.k u)) : v = u := by cases h; rfl
theorem c_isi {w : W} {S T : String} {b : Bool} (hw : TyW μ w S) (hk : kitB S T = some b) (q : R (.d (.bool b)) μ) : AC K (rIsi K) [w, .k (.ty T)] μ R := fun A M H vs mo rs Q h => by
  cases rs with
  | cons ra rn =>
    cases rn with
    | cons rb rn =>
      cases rn
      rw [vr_k rb]
      exact ⟨_, _, _, _, b, rfl, .ty T, hw.ok mo ra, kit_ty hk, h M H _ _ μ mo Eff.refl (.d (.bl _)) q⟩
end
/-! ### defs by their promises -/
/-- the module's x is a def that keeps F -/
def Has (P : Program) (w : World) (K : PySem.W.Frag) (mg : Str → Option Value) (base : Heap) (x : Str) (ps : List Str) (k : Nat) (F : FS) : Prop :=
  ∃ f fd, FnOk P w K mg base CX0 k f fd ps (spD K F) ∧ mg x = some (.ref f) ∧ PySem.W.keepIn K (.ref f) = true ∧ Binds K fd ps []
/-- .. and may be called with n values and the keywords ks -/
def HasK (P : Program) (w : World) (K : PySem.W.Frag) (mg : Str → Option Value) (base : Heap) (x : Str) (ps : List Str) (k : Nat) (F : FS) (n : Nat) (ks : List Str) (ix : List Nat) : Prop :=
  ∃ f fd, FnOk P w K mg base CX0 k f fd ps (spD K F) ∧ mg x = some (.ref f) ∧ PySem.W.keepIn K (.ref f) = true ∧ KBn K fd ps n ks (fun us ws => perm ix (us ++ ws)) (fun vs zs => perm ix (vs ++ zs))
section
variable {X : Cx} {x : Str} {ps ks : List Str} {k n m : Nat} {F : FS} {e : Expr} {es : List Expr} {ta tk : TA} {p pos : Pos} {kws : List Keyword} {ix : List Nat}
theorem pe_has (h : Has X.prog X.w X.K X.mg X.base x ps k F) (hr : Room k X.A) (ha : PA X (e :: es) ta) (hg : Gl X x := by rfl) (hd : (x == ("__debug__" : Str)) = false := by decide)
    (he : starEach (e :: es) X.env = (false, eval e X.env) :: starEach es X.env := by rfl) (hpl : (backTo pos (starEach es X.env)).any (·.1) = false := by rfl) : PE X (.Call (.Name x p) (e :: es) [] pos) (tCall (spD X.K F) [] E0 ta) := by
  obtain ⟨f, fd, G, hmg, kp, b⟩ := h
  exact pe_call G hr hg hmg kp b .nil pass0 ha hd he hpl
theorem pe_hasN (h : HasK X.prog X.w X.K X.mg X.base x ps k F n ks ix) (hr : Room k X.A) (ha : PA X (e :: es) ta) (hk : PK X kws tk) (hm : ks.length = m := by rfl) (hg : Gl X x := by rfl)
    (hall : (backToKw pos (keywordEach kws X.env)).all (·.1.isSome) = true := by rfl) (hks : (backToKw pos (keywordEach kws X.env)).filterMap (·.1) = ks := by rfl) (hdb : (x == ("__debug__" : Str)) = false := by decide)
    (he : starEach (e :: es) X.env = (false, eval e X.env) :: starEach es X.env := by rfl) (hpl : ((backTo pos (starEach (e :: es) X.env)).any (·.1) || (backToKw pos (keywordEach kws X.env)).any (·.1.isNone)) = false := by rfl) :
    PE X (.Call (.Name x p) (e :: es) kws pos) (tCallN n m (spD X.K F) (fun vs zs => perm ix (vs ++ zs)) E0 ta tk) := by
  subst hm
  obtain ⟨f, fd, G, hmg, kp, b⟩ := h
  exact pe_callN G hr hg hmg kp b pass0 ha hk hall hks hdb he hpl
theorem pe_hasN0 (h : HasK X.prog X.w X.K X.mg X.base x ps k F 0 ks ix) (hr : Room k X.A) (hk : PK X kws tk) (hm : ks.length = m := by rfl) (hg : Gl X x := by rfl)
    (hall : (backToKw pos (keywordEach kws X.env)).all (·.1.isSome) = true := by rfl) (hks : (backToKw pos (keywordEach kws X.env)).filterMap (·.1) = ks := by rfl) (hdb : (x == ("__debug__" : Str)) = false := by decide)
    (hpl : ((backTo pos (starEach [] X.env)).any (·.1) || (backToKw pos (keywordEach kws X.env)).any (·.1.isNone)) = false := by rfl) :
    PE X (.Call (.Name x p) [] kws pos) (tCallN 0 m (spD X.K F) (fun vs zs => perm ix (vs ++ zs)) E0 tNil tk) := by
  subst hm
  obtain ⟨f, fd, G, hmg, kp, b⟩ := h
  exact pe_callN0 G hr hg hmg kp b pass0 hk hall hks hdb hpl
end
theorem has_of {P : Program} {w : World} {K : PySem.W.Frag} {mg : Str → Option Value} {base : Heap} {x qual : Str} {st : Stmt} {f : Addr} {fd : FuncData} {ps : List Str} {k : Nat} {F : FS} (Fu : Fun K x qual st f fd) (m : mg x = some (.ref f)) (G : FnOk P w K mg base CX0 k f fd ps (spD K F))
    (h : ∀ (kV doc pm : Value) (an : Option Addr) (cdv ct : Value) (us : List Value), us.length = ps.length → bindArgs (PySem.W.fnOf x qual (defArgs st) (defBody st) (defScope st) .none kV doc pm an cdv ct) ⟨us, []⟩ = pure (ps.zip us)) : Has P w K mg base x ps k F := ⟨f, fd, G, m, Fu.kp, Fu.binds h⟩
theorem hask_of {P : Program} {w : World} {K : PySem.W.Frag} {mg : Str → Option Value} {base : Heap} {x qual : Str} {st : Stmt} {f : Addr} {fd : FuncData} {ps : List Str} {k : Nat} {F : FS} (Fu : Fun K x qual st f fd) (m : mg x = some (.ref f)) (G : FnOk P w K mg base CX0 k f fd ps (spD K F)) (n : Nat) (ks : List Str) (ix : List Nat)
    (h : ∀ (kV doc pm : Value) (an : Option Addr) (cdv ct : Value) (us ws : List Value), us.length = n → ws.length = ks.length → bindArgs (PySem.W.fnOf x qual (defArgs st) (defBody st) (defScope st) .none kV doc pm an cdv ct) ⟨us, ks.zip ws⟩ = pure (ps.zip (perm ix (us ++ ws)))) : HasK P w K mg base x ps k F n ks ix := by
  obtain ⟨oc, od, kV, doc, pm, an, cdv, ct, osl, rfl, lk, hcd⟩ := Fu.ex
  exact ⟨f, _, G, m, Fu.kp, fun s us ws _ h1 h2 => .of_eq (h kV doc pm an cdv ct us ws h1 h2), fun h1 h2 => vals_perm (h1.append h2) ix⟩
end Pd

/-! cells of one's own are left behind: what is handed out is plain data -/
namespace Pd
open PySem L2
open Evl (Ex)
mutual
inductive Rn (n : Nat) (μ : Mu) : W → PyData → Prop
  | d (x : PyData) : Rn n μ (.d x) x
  | m {k : Nat} {ws : List W} {xs : List PyData} : n ≤ k → μ[k]? = some (some (.lst ws)) → Rns n μ ws xs → Rn n μ (.m k) (.list xs)
  | t {ws : List W} {xs : List PyData} : Rns n μ ws xs → Rn n μ (.t ws) (.tuple xs)
inductive Rns (n : Nat) (μ : Mu) : List W → List PyData → Prop
  | nil : Rns n μ [] []
  | cons {w : W} {x : PyData} {ws : List W} {xs : List PyData} : Rn n μ w x → Rns n μ ws xs → Rns n μ (w :: ws) (x :: xs)
end
theorem Rns.ds {n : Nat} {μ : Mu} : ∀ xs : List PyData, Rns n μ (xs.map W.d) xs
  | [] => .nil
  | x :: xs => .cons (.d x) (Rns.ds xs)
theorem Rns.mp {n : Nat} {μ : Mu} {α : Type} (f : α → PyData) : ∀ xs : List α, Rns n μ (xs.map fun x => W.d (f x)) (xs.map f)
  | [] => .nil
  | x :: xs => .cons (.d (f x)) (Rns.mp f xs)
def DataC : C → Prop
  | .lst ws => ∃ xs : List PyData, ws = xs.map W.d
section
variable {K : PySem.W.Frag} {A : Addr → Prop} {M M1 : List Addr} {H H1 : Hp} {μ μ1 μ' : Mu} {cs : Mu}
mutual
theorem vr_cut {Hv H0 : Hp} {n : Nat} (hn : M.length = n) : ∀ {w : W} {v v0 : V}, VR K Hv M1 v w → VR K H0 M v0 w → VR K Hv (M1.take n) v w
  | .d x, _, _, h, _ => by cases h with | d h => exact .d h
  | .m k, _, _, h, g => by
    cases h with
    | m h =>
      cases g with
      | m g =>
        refine .m ?_
        rw [List.getElem?_take, if_pos (by rw [← hn]; exact (List.getElem?_eq_some_iff.mp g).1)]
        exact h
  | .t ws, _, _, h, g => by
    cases h with
    | t h1 h2 =>
      cases g with
      | t g1 g2 => exact .t h1 (vrs_cutM hn h2 g2)
  | .f ws, _, _, h, g => by
    cases h with
    | f h1 h2 =>
      cases g with
      | f g1 g2 => exact .f h1 (vrs_cutM hn h2 g2)
  | .k v, _, _, h, _ => by cases h with | k => exact .k _
theorem vrs_cutM {Hv H0 : Hp} {n : Nat} (hn : M.length = n) : ∀ {ws : List W} {vs vs0 : List V}, VRs K Hv M1 vs ws → VRs K H0 M vs0 ws → VRs K Hv (M1.take n) vs ws
  | [], _, _, h, _ => by cases h with | nil => exact .nil
  | w :: ws, _, _, h, g => by
    cases h with
    | cons h1 h2 =>
      cases g with
      | cons g1 g2 => exact .cons (vr_cut hn h1 g1) (vrs_cutM hn h2 g2)
end
theorem vrs_dataM {Hv : Hp} {M M' : List Addr} {vs : List V} {xs : List PyData} (h : VRs K Hv M vs (xs.map W.d)) : VRs K Hv M' vs (xs.map W.d) := VRs.of_dp h.dp
theorem hid_cut {n : Nat} (hl : μ'.length = n) (h1 : μ1 = μ' ++ cs) {a : Addr} (h : hid A (M1.take n) μ' a) : hid A M1 μ1 a := by
  rcases h with z | ⟨k, c, e1, e2⟩
  · exact .inl z
  · have hk : k < n := by
      have := (List.getElem?_eq_some_iff.mp e2).1
      omega
    rw [List.getElem?_take, if_pos hk] at e1
    exact .inr ⟨k, c, e1, by rw [h1, List.getElem?_append_left (by omega)]; exact e2⟩
mutual
theorem rn_dq {n : Nat} (mo1 : MOk K A M1 H1 μ1) (hl : μ'.length = n) (h1 : μ1 = μ' ++ cs) : ∀ {w : W} {d : PyData} {v : V}, Rn n μ1 w d → VR K (vw A M1 μ1 H1) M1 v w → DQ K (vw A (M1.take n) μ' H1) v d
  | _, _, _, .d x, h => by
    cases h with
    | d h => exact dp_mono (fun a o q => vw_of (fun z => (vw_some q).1 (hid_cut hl h1 z)) (vw_some q).2) h
  | _, _, _, .m hk hc hs, h => by
    obtain ⟨a, vs, rfl, hm, e, ru⟩ := cell_get mo1 h hc
    refine .lst (vw_of (fun z => ?_) e) (rns_dq mo1 hl h1 hs ru)
    rcases z with z | ⟨j, c, e1, e2⟩
    · exact mo1.nA a (List.mem_of_getElem? hm) z
    · have hj : j < n := by
        have := (List.getElem?_eq_some_iff.mp e2).1
        omega
      rw [List.getElem?_take, if_pos hj] at e1
      have l1 := List.getElem?_eq_some_iff.mp hm
      have l2 := List.getElem?_eq_some_iff.mp e1
      have := (List.getElem_inj mo1.nd).mp (l1.2.trans l2.2.symm)
      omega
  | _, _, _, .t hs, h => by
    cases h with
    | t g1 g2 => exact .tup (Evl.ex_t (fun a o q => vw_of (fun z => (vw_some q).1 (hid_cut hl h1 z)) (vw_some q).2) g1) (rns_dq mo1 hl h1 hs g2)
theorem rns_dq {n : Nat} (mo1 : MOk K A M1 H1 μ1) (hl : μ'.length = n) (h1 : μ1 = μ' ++ cs) : ∀ {ws : List W} {ds : List PyData} {vs : List V}, Rns n μ1 ws ds → VRs K (vw A M1 μ1 H1) M1 vs ws → DQs K (vw A (M1.take n) μ' H1) vs ds
  | _, _, _, .nil, h => by cases h; exact .nil
  | _, _, _, .cons g1 g2, h => by
    cases h with
    | cons h1' h2' => exact .cons (rn_dq mo1 hl h1 g1 h1') (rns_dq mo1 hl h1 g2 h2')
end
/-- what is changed of the cells that were there is plain data -/
def Keeps (μ μ' : Mu) : Prop := ∀ (j : Nat) c, μ'[j]? = some (some c) → μ[j]? = some (some c) ∨ DataC c
theorem Keeps.refl (μ : Mu) : Keeps μ μ := fun _ _ h => .inl h
theorem Keeps.set {μ : Mu} {k : Nat} {xs : List PyData} {ws : List W} (e : ws = xs.map W.d := by first | rfl | simp) : Keeps μ (μ.set k (some (.lst ws))) := fun j c h => by
  by_cases hj : k = j
  · subst hj
    rw [List.getElem?_set, if_pos rfl] at h
    split at h
    · have : C.lst ws = c := by simpa using h
      subst this
      exact .inr ⟨xs, e⟩
    · cases h
  · rw [List.getElem?_set, if_neg hj] at h
    exact .inl h
theorem fz_core {v : V} {w : W} {d : PyData} (mo0 : MOk K A M H μ) (mo1 : MOk K A M1 H1 μ1) (e : Eff A M μ H M1 μ1 H1) (h1 : μ1 = μ' ++ cs) (hl : μ'.length = μ.length) (hc : Keeps μ μ') (r : VR K (vw A M1 μ1 H1) M1 v w) (hr : Rn μ.length μ1 w d) :
    ∃ M2, MOk K A M2 H1 μ' ∧ Eff A M μ H M2 μ' H1 ∧ VR K (vw A M2 μ' H1) M2 v (.d d) := by
  have vx : Ex (vw A M1 μ1 H1) (vw A (M1.take μ.length) μ' H1) := fun a o q => vw_of (fun z => (vw_some q).1 (hid_cut hl h1 z)) (vw_some q).2
  have hM1 : M1.length = μ'.length + cs.length := by rw [mo1.len, h1, List.length_append]
  refine ⟨M1.take μ.length, ⟨by rw [List.length_take]; omega, mo1.nd.sublist (List.take_sublist _ _), fun a m => mo1.nA a (List.mem_of_mem_take m), fun a m => mo1.al a (List.mem_of_mem_take m), mo1.aA, fun k a c e1 e2 => ?_⟩, ⟨fun k a e1 => ?_, e.own, e.ex.trans vx⟩, .d (rn_dq mo1 hl h1 hr r)⟩
  · have hk : k < μ.length := by
      have := (List.getElem?_eq_some_iff.mp e2).1
      omega
    rw [List.getElem?_take, if_pos hk] at e1
    obtain ⟨o, q1, q2⟩ := mo1.ct k a c e1 (by rw [h1, List.getElem?_append_left (by omega)]; exact e2)
    refine ⟨o, q1, ?_⟩
    cases c with
    | lst ws =>
      obtain ⟨vs, rfl, rv⟩ := q2
      refine ⟨vs, rfl, ?_⟩
      rcases hc k _ e2 with z | ⟨xs, rfl⟩
      · have ha : M[k]? = some (M[k]'(by rw [mo0.len]; exact hk)) := List.getElem?_eq_getElem _
        obtain ⟨o0, p1, vs0, rfl, rv0⟩ := mo0.ct k _ _ ha z
        exact (vrs_cutM (n := μ.length) mo0.len rv rv0).mono vx (Pre.refl _)
      · exact vrs_dataM (rv.mono vx (Pre.refl _))
  · have hk : k < μ.length := by
      rw [← mo0.len]
      exact (List.getElem?_eq_some_iff.mp e1).1
    rw [List.getElem?_take, if_pos hk]
    exact e.pre k a e1
end
/-- w, with the cells μ1, is data; the cells that were there ahead (μ) come to μ' -/
def Fz (μ : Mu) (w : W) (μ1 : Mu) (R : W → Mu → Prop) : Prop := ∃ μ' cs d, μ1 = μ' ++ cs ∧ μ'.length = μ.length ∧ Keeps μ μ' ∧ Rn μ.length μ1 w d ∧ R (.d d) μ'
theorem Fz.same {μ : Mu} {cs : Mu} {w : W} {d : PyData} {R : W → Mu → Prop} (hr : Rn μ.length (μ ++ cs) w d) (q : R (.d d) μ) : Fz μ w (μ ++ cs) R := ⟨μ, cs, d, rfl, rfl, Keeps.refl μ, hr, q⟩
theorem Fz.id {μ : Mu} {d : PyData} {R : W → Mu → Prop} (q : R (.d d) μ) : Fz μ (.d d) μ R := ⟨μ, [], d, by simp, rfl, Keeps.refl μ, .d d, q⟩
theorem ax_fz {K : PySem.W.Frag} {Γ : G} {μ : Mu} {te : TE} {R : W → Mu → Prop} (h : AX K te Γ μ fun w μ1 => Fz μ w μ1 R) : AX K te Γ μ R := fun A M σ H c Q q =>
  h A M σ H c Q fun M1 H1 v w μ1 mo1 e1 r1 ⟨μ', cs, d, a1, a2, a3, a4, hR⟩ => by
    obtain ⟨M2, mo2, e2, r2⟩ := fz_core c.mo mo1 e1 a1 a2 a3 r1 a4
    exact q M2 H1 v _ μ' mo2 e2 r2 hR
theorem as_fz {K : PySem.W.Frag} {Γ : G} {μ : Mu} {t : TS} {R : W → Mu → Prop} (h : AS K t { nx := fun _ μ1 => Fz μ (.d .none) μ1 R, rt := fun w μ1 => Fz μ w μ1 R } Γ μ) : AS K t { nx := fun _ μ1 => R (.d .none) μ1, rt := R } Γ μ := fun A M σ H c E hE => by
  have hn : ∀ M1 σ1 H1 Γ1 μ1, Cn K A M1 σ1 H1 Γ1 μ1 → Eff A M μ H M1 μ1 H1 → Fz μ (.d .none) μ1 R → E.nx σ1 H1 := fun M1 σ1 H1 Γ1 μ1 c1 e1 ⟨μ', cs, d, a1, a2, a3, a4, hR⟩ => by
    have a4' : Rn μ.length μ1 (.d .none) d := a4
    cases a4'
    obtain ⟨M2, mo2, e2, r2⟩ := fz_core c.mo c1.mo e1 a1 a2 a3 (.d .non : VR K (vw A M1 μ1 H1) M1 .non (.d .none)) (.d .none)
    refine hE.nx M2 σ1 H1 (List.replicate σ1.length none) μ' ⟨mo2, by simp, fun i w hw => ?_⟩ e2 hR
    rw [List.getElem?_replicate] at hw
    split at hw <;> cases hw
  exact h A M σ H c E ⟨hn, fun M1 H1 v w μ1 mo1 e1 r1 ⟨μ', cs, d, a1, a2, a3, a4, hR⟩ => by
    obtain ⟨M2, mo2, e2, r2⟩ := fz_core c.mo mo1 e1 a1 a2 a3 r1 a4
    exact hE.rt M2 H1 v _ μ' mo2 e2 r2 hR, fun M1 σ1 H1 Γ1 μ1 c1 e1 z => z.elim, fun M1 σ1 H1 Γ1 μ1 c1 e1 z => z.elim⟩
/-! cells by number -/
theorem mu_set {μ : Mu} {k : Nat} {c c' : Option C} (h : μ[k]? = some c) : (μ.set k c')[k]? = some c' := by
  rw [List.getElem?_set, if_pos rfl, if_pos (List.getElem?_eq_some_iff.mp h).1]
theorem mu_ne {μ : Mu} {k j : Nat} {c' : Option C} (h : k ≠ j) : (μ.set k c')[j]? = μ[j]? := by rw [List.getElem?_set, if_neg h]
theorem mu_end {μ : Mu} {c : Option C} : (μ ++ [c])[μ.length]? = some c := by rw [List.getElem?_append_right (Nat.le_refl _)]; simp
theorem mu_setEnd {μ : Mu} {c c' : Option C} : (μ ++ [c]).set μ.length c' = μ ++ [c'] := by rw [List.set_append_right _ _ (Nat.le_refl _)]; simp
theorem mu_app {μ ν : Mu} {k : Nat} {c : Option C} (h : μ[k]? = some c) : (μ ++ ν)[k]? = some c := by rw [List.getElem?_append_left (List.getElem?_eq_some_iff.mp h).1]; exact h
theorem mu_setApp {μ ν : Mu} {k : Nat} {c c' : Option C} (h : μ[k]? = some c) : (μ ++ ν).set k c' = μ.set k c' ++ ν := List.set_append_left _ _ (List.getElem?_eq_some_iff.mp h).1
abbrev wInts (ns : List Int) : List W := ns.map fun n => W.d (.int n)
abbrev dInts (ns : List Int) : PyData := .list (ns.map PyData.int)
theorem ints_d (ns : List Int) : wInts ns = (ns.map PyData.int).map W.d := by simp [wInts]
theorem lw_ints (μ : Mu) (ns : List Int) : LW μ (.d (dInts ns)) (wInts ns) := by
  rw [ints_d]
  exact .d _
theorem ln_ints (μ : Mu) (ns : List Int) : LN μ (.d (dInts ns)) (wInts ns) := by
  rw [ints_d]
  exact .d _
theorem rss_ints {μ : Mu} (ns : List Int) : Rss μ (wInts ns) (ns.map PyData.int) := by
  rw [ints_d]
  exact Rss.ds _
theorem rns_ints {n : Nat} {μ : Mu} (ns : List Int) : Rns n μ (wInts ns) (ns.map PyData.int) := by
  rw [ints_d]
  exact Rns.ds _
theorem eqvAll_ints : ∀ xs ys : List Int, PyData.eqvAll (xs.map PyData.int) (ys.map PyData.int) = decide (xs = ys)
  | [], [] => rfl
  | [], _ :: _ => rfl
  | _ :: _, [] => rfl
  | x :: xs, y :: ys => by
    rw [List.map_cons, List.map_cons, PyData.eqvAll, eqvAll_ints xs ys, PyData.eqv]
    by_cases h : x = y
    · subst h
      by_cases h2 : xs = ys
      · subst h2; simp
      · simp [h2]
    · simp [h]
theorem eqv_ints (xs ys : List Int) : PyData.eqv (dInts xs) (dInts ys) = decide (xs = ys) := eqvAll_ints xs ys
theorem canLayAll_ints : ∀ xs : List Int, PyData.canLayAll0 (xs.map PyData.int) = true
  | [] => rfl
  | x :: xs => by rw [List.map_cons, PyData.canLayAll0, canLayAll_ints xs]; rfl
theorem depthAll_ints : ∀ xs : List Int, PyData.depthAll (xs.map PyData.int) ≤ 1
  | [] => by simp [PyData.depthAll]
  | x :: xs => by
    rw [List.map_cons, PyData.depthAll]
    have := depthAll_ints xs
    simp only [PyData.depth]
    omega
theorem shaped_ints (xs : List Int) : SeqAt.shaped (dInts xs) = true := by
  unfold SeqAt.shaped
  have h1 : PyData.canLay0 (dInts xs) = true := canLayAll_ints xs
  have h2 : PyData.depth (dInts xs) ≤ 64 := by
    have := depthAll_ints xs
    simp only [dInts, PyData.depth]
    omega
  rw [h1, decide_eq_true h2]
  rfl
end Pd

namespace Pd
open PySem L2
theorem pow_ok {i j : Int} {a : Nat} (hj : 0 ≤ j) (ha : i.natAbs < 2 ^ a) (h : (a : Int) * j ≤ 2 ^ 27) : COp i j :=
  ⟨hj, Int.le_trans (Int.mul_le_mul_of_nonneg_right (Int.ofNat_le.mpr (PyProof.Rows.intBits_le ha)) hj) h⟩
theorem sz_ok {n : Nat} (h : n ≤ 100000) : n ≤ sizeLine := Nat.le_trans h (by decide)
theorem sz_lt {n : Nat} (h : n < 100000) : n < sizeLine := Nat.lt_of_lt_of_le h (by decide)
theorem atI_get {α : Type} {xs : List α} {i : Nat} {x : α} (h : xs[i]? = some x) : atI xs (i : Int) = some x := by
  unfold atI ixN
  have hi := (List.getElem?_eq_some_iff.mp h).1
  rw [if_pos (by omega), if_pos (by omega)]
  simpa using h
theorem atI_end {α : Type} {xs : List α} {x : α} : atI (xs ++ [x]) (-1) = some x := by
  unfold atI ixN
  rw [if_neg (by omega), if_pos (by simp; omega)]
  have e : ((-1 : Int) + ((xs ++ [x]).length : Int)).toNat = xs.length := by simp; omega
  rw [e]
  simp
theorem atI_int {ns : List Int} {i : Int} {x : Int} (h : atI ns i = some x) : atI (wInts ns) i = some (.d (.int x)) := by
  unfold atI at h ⊢
  rw [show (wInts ns).length = ns.length by simp]
  cases e : ixN ns.length i with
  | none => rw [e] at h; cases h
  | some j =>
    rw [e] at h
    have h' : ns[j]? = some x := h
    show (wInts ns)[j]? = _
    rw [List.getElem?_map, h']
    rfl
theorem ite_t {c : Bool} {A B : Prop} (hc : c = true) (h : A) : if c = true then A else B := by rw [if_pos hc]; exact h
theorem ite_f {c : Bool} {A B : Prop} (hc : c = false) (h : B) : if c = true then A else B := by rw [hc]; rw [if_neg (by decide)]; exact h
theorem ite_b {c : Bool} {A B : Prop} (h1 : c = true → A) (h2 : c = false → B) : if c = true then A else B := by
  cases c with
  | true => rw [if_pos rfl]; exact h1 rfl
  | false => rw [if_neg (by decide)]; exact h2 rfl
/-- a cell that was found: the cells as they are are it -/
theorem cut_int {ns : List Int} {lo hi : Option Int} : cutW (wInts ns) lo hi = wInts ((ns.drop (HT.sIx ns.length 0 lo)).take (HT.sIx ns.length ns.length hi - HT.sIx ns.length 0 lo)) := by
  unfold cutW wInts
  rw [List.length_map, List.map_take, List.map_drop]
end Pd
namespace Pd
open PySem L2
section
variable {μ : Mu} {R : W → Mu → Prop}
theorem NL.d0 (h : R (.d (.list [])) μ) : NL [] μ R := NL.d (xs := []) h rfl
theorem NL.d1 {a : PyData} (h : R (.d (.list [a])) μ) : NL [W.d a] μ R := NL.d (xs := [a]) h rfl
theorem NL.d2 {a b : PyData} (h : R (.d (.list [a, b])) μ) : NL [W.d a, W.d b] μ R := NL.d (xs := [a, b]) h rfl
theorem NL.d3 {a b c : PyData} (h : R (.d (.list [a, b, c])) μ) : NL [W.d a, W.d b, W.d c] μ R := NL.d (xs := [a, b, c]) h rfl
theorem NL.di {ns : List Int} (h : R (.d (dInts ns)) μ) : NL (wInts ns) μ R := NL.d (xs := ns.map PyData.int) h (ints_d ns)
theorem NT.d1 {a : PyData} (h : R (.d (.tuple [a])) μ) : NT [W.d a] μ R := NT.d (xs := [a]) h rfl
theorem NT.d2 {a b : PyData} (h : R (.d (.tuple [a, b])) μ) : NT [W.d a, W.d b] μ R := NT.d (xs := [a, b]) h rfl
theorem NT.d3 {a b c : PyData} (h : R (.d (.tuple [a, b, c])) μ) : NT [W.d a, W.d b, W.d c] μ R := NT.d (xs := [a, b, c]) h rfl
end
theorem eqv_nil (ns : List Int) : PyData.eqv (dInts ns) (.list []) = decide (ns = []) := eqv_ints ns []
theorem mu_set2 {μ : Mu} {k : Nat} {a b : Option C} : (μ.set k a).set k b = μ.set k b := List.set_set ..
end Pd
namespace Pd
open PySem L2
theorem TW.d1 {a : PyData} : TW (.d (.tuple [a])) [.d a] := .d [a]
theorem TW.d2 {a b : PyData} : TW (.d (.tuple [a, b])) [.d a, .d b] := .d [a, b]
theorem TW.d3 {a b c : PyData} : TW (.d (.tuple [a, b, c])) [.d a, .d b, .d c] := .d [a, b, c]
theorem TW.d4 {a b c e : PyData} : TW (.d (.tuple [a, b, c, e])) [.d a, .d b, .d c, .d e] := .d [a, b, c, e]
theorem TW.d5 {a b c e f : PyData} : TW (.d (.tuple [a, b, c, e, f])) [.d a, .d b, .d c, .d e, .d f] := .d [a, b, c, e, f]
end Pd
namespace Pd
open PySem L2
theorem tyw_l {μ : Mu} {xs : List PyData} : TyW μ (.d (.list xs)) "list" := .d (.list xs)
theorem tyw_t {μ : Mu} {xs : List PyData} : TyW μ (.d (.tuple xs)) "tuple" := .d (.tuple xs)
theorem tyw_b {μ : Mu} {x : Bool} : TyW μ (.d (.bool x)) "bool" := .d (.bool x)
theorem tyw_i {μ : Mu} {x : Int} : TyW μ (.d (.int x)) "int" := .d (.int x)
theorem tyw_s {μ : Mu} {x : Str} : TyW μ (.d (.str x)) "str" := .d (.str x)
theorem tyw_n {μ : Mu} : TyW μ (.d .none) "NoneType" := .d .none
end Pd
namespace Pd
open PySem L2
theorem kb_NoneType_list : kitB "NoneType" "list" = some false := by decide +kernel
theorem kb_NoneType_tuple : kitB "NoneType" "tuple" = some false := by decide +kernel
theorem kb_NoneType_bool : kitB "NoneType" "bool" = some false := by decide +kernel
theorem kb_NoneType_int : kitB "NoneType" "int" = some false := by decide +kernel
theorem kb_NoneType_str : kitB "NoneType" "str" = some false := by decide +kernel
theorem kb_bool_list : kitB "bool" "list" = some false := by decide +kernel
theorem kb_bool_tuple : kitB "bool" "tuple" = some false := by decide +kernel
theorem kb_bool_bool : kitB "bool" "bool" = some true := by decide +kernel
theorem kb_bool_int : kitB "bool" "int" = some true := by decide +kernel
theorem kb_bool_str : kitB "bool" "str" = some false := by decide +kernel
theorem kb_int_list : kitB "int" "list" = some false := by decide +kernel
theorem kb_int_tuple : kitB "int" "tuple" = some false := by decide +kernel
theorem kb_int_bool : kitB "int" "bool" = some false := by decide +kernel
theorem kb_int_int : kitB "int" "int" = some true := by decide +kernel
theorem kb_int_str : kitB "int" "str" = some false := by decide +kernel
theorem kb_str_list : kitB "str" "list" = some false := by decide +kernel
theorem kb_str_tuple : kitB "str" "tuple" = some false := by decide +kernel
theorem kb_str_bool : kitB "str" "bool" = some false := by decide +kernel
theorem kb_str_int : kitB "str" "int" = some false := by decide +kernel
theorem kb_str_str : kitB "str" "str" = some true := by decide +kernel
theorem kb_list_list : kitB "list" "list" = some true := by decide +kernel
theorem kb_list_tuple : kitB "list" "tuple" = some false := by decide +kernel
theorem kb_list_bool : kitB "list" "bool" = some false := by decide +kernel
theorem kb_list_int : kitB "list" "int" = some false := by decide +kernel
theorem kb_list_str : kitB "list" "str" = some false := by decide +kernel
theorem kb_tuple_list : kitB "tuple" "list" = some false := by decide +kernel
theorem kb_tuple_tuple : kitB "tuple" "tuple" = some true := by decide +kernel
theorem kb_tuple_bool : kitB "tuple" "bool" = some false := by decide +kernel
theorem kb_tuple_int : kitB "tuple" "int" = some false := by decide +kernel
theorem kb_tuple_str : kitB "tuple" "str" = some false := by decide +kernel
end Pd

namespace M10
def ab (i : Int) : Int := if i < 0 then -i else i
theorem ab_pos {i : Int} (h : 0 ≤ i) : ab i = i := by unfold ab; rw [if_neg (by omega)]
theorem ab_neg {i : Int} (h : i < 0) : ab i = -i := by unfold ab; rw [if_pos h]
theorem ab_nn (i : Int) : 0 ≤ ab i := by unfold ab; split <;> omega
/-- one turn more; the list is turned about: the last turn first -/
def addT (w : Int) (s : List Int) : List Int :=
  if w = 0 then s else
  match s with
  | [] => [w]
  | x :: r => if decide (0 < x) = decide (0 < w) then addT (w + x) r
    else match r with
      | [] => [w, x]
      | y :: r' => if ab x ≤ ab w then (if ab x ≤ ab y then addT (w + x + y) r' else addT w ((y + x) :: r')) else w :: x :: y :: r'
termination_by s.length
def formR (ts : List Int) : List Int := ts.foldl (fun s t => addT t s) []
def form (ts : List Int) : List Int := (formR ts).reverse
theorem addT_zero (s : List Int) : addT 0 s = s := by rw [addT.eq_def]; simp
theorem addT_nil {w : Int} (h : w ≠ 0) : addT w [] = [w] := by rw [addT.eq_def]; simp [h]
theorem addT_same {w x : Int} {r : List Int} (h : w ≠ 0) (hs : decide (0 < x) = decide (0 < w)) : addT w (x :: r) = addT (w + x) r := by
  rw [addT.eq_def]; simp only [h, if_false, hs, if_true]
theorem addT_two {w x : Int} (h : w ≠ 0) (hs : ¬ decide (0 < x) = decide (0 < w)) : addT w [x] = [w, x] := by
  rw [addT.eq_def]; simp only [h, if_false, hs]
theorem addT_a {w x y : Int} {r : List Int} (h : w ≠ 0) (hs : ¬ decide (0 < x) = decide (0 < w)) (h1 : ab x ≤ ab w) (h2 : ab x ≤ ab y) : addT w (x :: y :: r) = addT (w + x + y) r := by
  rw [addT.eq_def]; simp only [h, if_false, hs, h1, h2, if_true]
theorem addT_b {w x y : Int} {r : List Int} (h : w ≠ 0) (hs : ¬ decide (0 < x) = decide (0 < w)) (h1 : ab x ≤ ab w) (h2 : ¬ ab x ≤ ab y) : addT w (x :: y :: r) = addT w ((y + x) :: r) := by
  rw [addT.eq_def]; simp only [h, if_false, hs, h1, h2, if_true]
theorem addT_c {w x y : Int} {r : List Int} (h : w ≠ 0) (hs : ¬ decide (0 < x) = decide (0 < w)) (h1 : ¬ ab x ≤ ab w) : addT w (x :: y :: r) = w :: x :: y :: r := by
  rw [addT.eq_def]; simp only [h, if_false, hs, h1]
theorem sgn_ne {w x : Int} (hs : ¬ decide (0 < x) = decide (0 < w)) : (0 < x ∧ w ≤ 0) ∨ (x ≤ 0 ∧ 0 < w) := by
  by_cases h1 : 0 < x
  · by_cases h2 : 0 < w
    · exact absurd (by rw [decide_eq_true h1, decide_eq_true h2]) hs
    · exact .inl ⟨h1, by omega⟩
  · by_cases h2 : 0 < w
    · exact .inr ⟨by omega, h2⟩
    · exact absurd (by rw [decide_eq_false h1, decide_eq_false h2]) hs
theorem sgn_eq {w x : Int} (hs : decide (0 < x) = decide (0 < w)) : (0 < x ∧ 0 < w) ∨ (x ≤ 0 ∧ w ≤ 0) := by
  by_cases h1 : 0 < x
  · by_cases h2 : 0 < w
    · exact .inl ⟨h1, h2⟩
    · rw [decide_eq_true h1, decide_eq_false h2] at hs; cases hs
  · by_cases h2 : 0 < w
    · rw [decide_eq_false h1, decide_eq_true h2] at hs; cases hs
    · exact .inr ⟨by omega, by omega⟩
theorem sgn_opp {w x : Int} (h : (0 < x ∧ w < 0) ∨ (x < 0 ∧ 0 < w)) : ¬ decide (0 < x) = decide (0 < w) := by
  rcases h with ⟨a, b⟩ | ⟨a, b⟩
  · rw [decide_eq_true a, decide_eq_false (by omega)]; decide
  · rw [decide_eq_false (by omega), decide_eq_true b]; decide
/-- signs that are opposite -/
def Op (t p : Int) : Prop := (0 < t ∧ p < 0) ∨ (t < 0 ∧ 0 < p)
/-- a short form, turned about -/
def nf : List Int → Prop
  | [] => True
  | [t] => t ≠ 0
  | [t, p] => Op t p
  | t :: p :: q :: r => Op t p ∧ ab t < ab p ∧ nf (p :: q :: r)
theorem nf_tail : ∀ {t : Int} {r : List Int}, nf (t :: r) → nf r
  | _, [], _ => trivial
  | _, [p], h => by
    have h' : Op _ p := h
    show p ≠ 0
    rcases h' with h | h <;> omega
  | _, p :: q :: r, h => h.2.2
theorem nf_ne : ∀ {t : Int} {r : List Int}, nf (t :: r) → t ≠ 0
  | _, [], h => h
  | _, [p], h => by
    have h' : Op _ p := h
    rcases h' with h | h <;> omega
  | _, p :: q :: r, h => by
    have h' : Op _ p := h.1
    rcases h' with h | h <;> omega
theorem nf_op : ∀ {t p : Int} {r : List Int}, nf (t :: p :: r) → Op t p
  | _, _, [], h => h
  | _, _, _ :: _, h => h.1
theorem nf_lt {t p q : Int} {r : List Int} (h : nf (t :: p :: q :: r)) : ab t < ab p := h.2.1
theorem op_ab {t p : Int} (h : Op t p) (w : Int) (hs : ¬ decide (0 < t) = decide (0 < w)) (hw : w ≠ 0) : Op w t := by
  rcases sgn_ne hs with z | z <;> rcases h with h | h <;> unfold Op <;> omega
theorem nf_add : ∀ (n : Nat) (w : Int) (s : List Int), s.length ≤ n → nf s → nf (addT w s) := by
  intro n
  induction n with
  | zero =>
    intro w s hl h
    have : s = [] := List.length_eq_zero_iff.mp (by omega)
    subst this
    by_cases hw : w = 0
    · subst hw; rw [addT_zero]; exact h
    · rw [addT_nil hw]; exact hw
  | succ n ih =>
    intro w s hl h
    by_cases hw : w = 0
    · subst hw; rw [addT_zero]; exact h
    · match s, hl, h with
      | [], _, _ => rw [addT_nil hw]; exact hw
      | x :: r, hl, h =>
        have hr := nf_tail h
        have hx := nf_ne h
        by_cases hs : decide (0 < x) = decide (0 < w)
        · rw [addT_same hw hs]
          exact ih _ _ (by simp at hl; omega) hr
        · have ho : Op w x := by rcases sgn_ne hs with z | z <;> unfold Op <;> omega
          match r, hl, h, hr with
          | [], _, _, _ => rw [addT_two hw hs]; exact ho
          | y :: r', hl, h, hr =>
            by_cases h1 : ab x ≤ ab w
            · by_cases h2 : ab x ≤ ab y
              · rw [addT_a hw hs h1 h2]
                exact ih _ _ (by simp at hl; omega) (nf_tail hr)
              · rw [addT_b hw hs h1 h2]
                match r', h, hl with
                | [], h, hl =>
                  refine ih _ _ (by simp at hl; simp; omega) ?_
                  show y + x ≠ 0
                  have hop : Op x y := h
                  intro z
                  have : x = -y := by omega
                  subst this
                  apply h2
                  rcases hop with q | q
                  · rw [ab_pos (by omega), ab_neg (by omega)]; omega
                  · rw [ab_neg (by omega), ab_pos (by omega)]; omega
                | q :: r'', h, _ => exact absurd (Int.le_of_lt (nf_lt h)) h2
            · rw [addT_c hw hs h1]
              exact ⟨ho, by omega, h⟩
theorem nf_add' (w : Int) {s : List Int} (h : nf s) : nf (addT w s) := nf_add s.length w s (Nat.le_refl _) h
theorem nf_fold : ∀ (ts : List Int) (s : List Int), nf s → nf (ts.foldl (fun s t => addT t s) s)
  | [], _, h => h
  | t :: ts, s, h => nf_fold ts _ (nf_add' t h)
theorem nf_form (ts : List Int) : nf (formR ts) := nf_fold ts [] trivial
theorem add_nf {t : Int} {r : List Int} (h : nf (t :: r)) : addT t r = t :: r := by
  have ht := nf_ne h
  match r, h with
  | [], _ => exact addT_nil ht
  | [p], h =>
    have ho : Op t p := h
    exact addT_two ht (sgn_opp (by unfold Op at ho; omega))
  | p :: q :: r, h =>
    have ho : Op t p := h.1
    exact addT_c ht (sgn_opp (by unfold Op at ho; omega)) (by have := nf_lt h; omega)
theorem form_idem : ∀ {r : List Int}, nf r → formR r.reverse = r
  | [], _ => rfl
  | t :: r, h => by
    have ih := form_idem (nf_tail h)
    unfold formR at ih ⊢
    rw [List.reverse_cons, List.foldl_append, ih]
    exact add_nf h
theorem add_len : ∀ (n : Nat) (w : Int) (s : List Int), s.length ≤ n → (addT w s).length ≤ s.length + 1 := by
  intro n
  induction n with
  | zero =>
    intro w s hl
    have : s = [] := List.length_eq_zero_iff.mp (by omega)
    subst this
    by_cases hw : w = 0
    · subst hw; rw [addT_zero]; omega
    · rw [addT_nil hw]; simp
  | succ n ih =>
    intro w s hl
    by_cases hw : w = 0
    · subst hw; rw [addT_zero]; omega
    · match s, hl with
      | [], _ => rw [addT_nil hw]; simp
      | x :: r, hl =>
        by_cases hs : decide (0 < x) = decide (0 < w)
        · rw [addT_same hw hs]
          have := ih (w + x) r (by simp at hl; omega)
          simp; omega
        · match r, hl with
          | [], _ => rw [addT_two hw hs]; simp
          | y :: r', hl =>
            by_cases h1 : ab x ≤ ab w
            · by_cases h2 : ab x ≤ ab y
              · rw [addT_a hw hs h1 h2]
                have := ih (w + x + y) r' (by simp at hl; omega)
                simp; omega
              · rw [addT_b hw hs h1 h2]
                have := ih w ((y + x) :: r') (by simp at hl; simp; omega)
                simp at this ⊢; omega
            · rw [addT_c hw hs h1]; simp
theorem fold_len : ∀ (ts : List Int) (s : List Int), (ts.foldl (fun s t => addT t s) s).length ≤ s.length + ts.length
  | [], _ => by simp
  | t :: ts, s => by
    have h1 := fold_len ts (addT t s)
    have h2 := add_len s.length t s (Nat.le_refl _)
    simp at h1 ⊢; omega
theorem form_len (ts : List Int) : (formR ts).length ≤ ts.length := by
  have := fold_len ts []
  unfold formR
  simpa using this
/-! scaling -/
theorem ab_mul {c : Int} (hc : 0 < c) (x : Int) : ab (c * x) = c * ab x := by
  unfold ab
  by_cases h : x < 0
  · rw [if_pos h, if_pos (Int.mul_neg_of_pos_of_neg hc h), Int.mul_neg]
  · rw [if_neg h, if_neg (by have := Int.mul_nonneg (Int.le_of_lt hc) (show 0 ≤ x by omega); omega)]
theorem dec_mul {c : Int} (hc : 0 < c) (x : Int) : decide (0 < c * x) = decide (0 < x) := by
  by_cases h : 0 < x
  · rw [decide_eq_true h, decide_eq_true (Int.mul_pos hc h)]
  · rw [decide_eq_false h, decide_eq_false (by have := Int.mul_nonneg (Int.le_of_lt hc) (show 0 ≤ -x by omega); rw [Int.mul_neg] at this; omega)]
theorem le_mul {c : Int} (hc : 0 < c) (x y : Int) : c * x ≤ c * y ↔ x ≤ y := Int.mul_le_mul_left hc
theorem add_mul {c : Int} (hc : 0 < c) : ∀ (n : Nat) (w : Int) (s : List Int), s.length ≤ n → addT (c * w) (s.map (c * ·)) = (addT w s).map (c * ·) := by
  intro n
  induction n with
  | zero =>
    intro w s hl
    have : s = [] := List.length_eq_zero_iff.mp (by omega)
    subst this
    by_cases hw : w = 0
    · subst hw; rw [Int.mul_zero, addT_zero, addT_zero]
    · rw [addT_nil hw, List.map_nil, addT_nil (Int.mul_ne_zero (by omega) hw)]; rfl
  | succ n ih =>
    intro w s hl
    by_cases hw : w = 0
    · subst hw; rw [Int.mul_zero, addT_zero, addT_zero]
    · have hcw : c * w ≠ 0 := Int.mul_ne_zero (by omega) hw
      match s, hl with
      | [], _ => rw [addT_nil hw, List.map_nil, addT_nil hcw]; rfl
      | x :: r, hl =>
        rw [List.map_cons]
        by_cases hs : decide (0 < x) = decide (0 < w)
        · rw [addT_same hw hs, addT_same hcw (by rw [dec_mul hc, dec_mul hc]; exact hs), ← Int.mul_add]
          exact ih _ _ (by simp at hl; omega)
        · have hs' : ¬ decide (0 < c * x) = decide (0 < c * w) := by rw [dec_mul hc, dec_mul hc]; exact hs
          match r, hl with
          | [], _ => rw [addT_two hw hs, List.map_nil, addT_two hcw hs']; rfl
          | y :: r', hl =>
            rw [List.map_cons]
            by_cases h1 : ab x ≤ ab w
            · have h1' : ab (c * x) ≤ ab (c * w) := by rw [ab_mul hc, ab_mul hc]; exact (le_mul hc _ _).mpr h1
              by_cases h2 : ab x ≤ ab y
              · rw [addT_a hw hs h1 h2, addT_a hcw hs' h1' (by rw [ab_mul hc, ab_mul hc]; exact (le_mul hc _ _).mpr h2), ← Int.mul_add, ← Int.mul_add]
                exact ih _ _ (by simp at hl; omega)
              · rw [addT_b hw hs h1 h2, addT_b hcw hs' h1' (by rw [ab_mul hc, ab_mul hc, le_mul hc]; exact h2), ← Int.mul_add]
                exact ih w ((y + x) :: r') (by simp at hl; simp; omega)
            · rw [addT_c hw hs h1, addT_c hcw hs' (by rw [ab_mul hc, ab_mul hc, le_mul hc]; exact h1)]
              rfl
theorem fold_mul {c : Int} (hc : 0 < c) : ∀ (ts s : List Int), (ts.map (c * ·)).foldl (fun s t => addT t s) (s.map (c * ·)) = (ts.foldl (fun s t => addT t s) s).map (c * ·)
  | [], _ => rfl
  | t :: ts, s => by
    rw [List.map_cons, List.foldl_cons, add_mul hc s.length t s (Nat.le_refl _)]
    exact fold_mul hc ts _
theorem form_mul {c : Int} (hc : 0 < c) (ts : List Int) : form (ts.map (c * ·)) = (form ts).map (c * ·) := by
  unfold form formR
  have := fold_mul hc ts []
  rw [List.map_nil] at this
  rw [this, List.map_reverse]
/-! where turns lead -/
def cl (n v : Int) : Int := max 0 (min n v)
def led (n : Int) (ts : List Int) (s : Int) : Int := ts.foldl (fun s t => cl n (s + t)) s
def Lr (n : Int) (f : List Int) (s : Int) : Int := f.foldr (fun t s => cl n (s + t)) s
theorem led_rev (n : Int) (f : List Int) (s : Int) : led n f.reverse s = Lr n f s := by
  unfold led Lr
  rw [List.foldl_reverse]
theorem cl_in {n v : Int} (hn : 0 ≤ n) : 0 ≤ cl n v ∧ cl n v ≤ n := by unfold cl; omega
theorem Lr_in {n s : Int} (h0 : 0 ≤ s) (h1 : s ≤ n) : ∀ f : List Int, 0 ≤ Lr n f s ∧ Lr n f s ≤ n
  | [] => ⟨h0, h1⟩
  | t :: f => cl_in (by omega)
theorem sem_same {n u x w : Int} (h0 : 0 ≤ u) (h1 : u ≤ n) (h : (0 < x ∧ 0 < w) ∨ (x ≤ 0 ∧ w ≤ 0)) : cl n (cl n (u + x) + w) = cl n (u + (w + x)) := by unfold cl; omega
theorem sem_a {n u x w y : Int} (h0 : 0 ≤ u) (h1 : u ≤ n) (hw : Op w x) (hy : Op x y) (a1 : ab x ≤ ab w) (a2 : ab x ≤ ab y) : cl n (cl n (cl n (u + y) + x) + w) = cl n (u + (w + x + y)) := by
  unfold ab at a1 a2
  rcases hw with hw | hw <;> rcases hy with hy | hy <;> (repeat' split at a1) <;> (repeat' split at a2) <;> unfold cl <;> omega
theorem sem_b {n u x w y : Int} (h0 : 0 ≤ u) (h1 : u ≤ n) (hw : Op w x) (hy : Op x y) (a1 : ab x ≤ ab w) (a2 : ¬ ab x ≤ ab y) : cl n (cl n (cl n (u + y) + x) + w) = cl n (cl n (u + (y + x)) + w) := by
  unfold ab at a1 a2
  rcases hw with hw | hw <;> rcases hy with hy | hy <;> (repeat' split at a1) <;> (repeat' split at a2) <;> unfold cl <;> omega
theorem cl_id {n u : Int} (h0 : 0 ≤ u) (h1 : u ≤ n) : cl n (u + 0) = u := by unfold cl; omega
theorem sem_add {n s : Int} (h0 : 0 ≤ s) (h1 : s ≤ n) : ∀ (m : Nat) (w : Int) (f : List Int), f.length ≤ m → nf f → Lr n (addT w f) s = cl n (Lr n f s + w) := by
  intro m
  induction m with
  | zero =>
    intro w f hl h
    have : f = [] := List.length_eq_zero_iff.mp (by omega)
    subst this
    by_cases hw : w = 0
    · subst hw; rw [addT_zero]; exact (cl_id h0 h1).symm
    · rw [addT_nil hw]; rfl
  | succ m ih =>
    intro w f hl h
    have hin := Lr_in h0 h1 f
    by_cases hw : w = 0
    · subst hw; rw [addT_zero]; exact (cl_id hin.1 hin.2).symm
    · match f, hl, h with
      | [], _, _ => rw [addT_nil hw]; rfl
      | x :: r, hl, h =>
        have hr := nf_tail h
        have hx := nf_ne h
        have hir := Lr_in h0 h1 r
        by_cases hs : decide (0 < x) = decide (0 < w)
        · rw [addT_same hw hs, ih _ _ (by simp at hl; omega) hr]
          exact (sem_same hir.1 hir.2 (sgn_eq hs)).symm
        · have ho : Op w x := by rcases sgn_ne hs with z | z <;> unfold Op <;> omega
          match r, hl, h, hr with
          | [], _, _, _ => rw [addT_two hw hs]; rfl
          | y :: r', hl, h, hr =>
            have hir' := Lr_in h0 h1 r'
            by_cases h1' : ab x ≤ ab w
            · by_cases h2 : ab x ≤ ab y
              · rw [addT_a hw hs h1' h2, ih _ _ (by simp at hl; omega) (nf_tail hr)]
                exact (sem_a hir'.1 hir'.2 ho (nf_op h) h1' h2).symm
              · rw [addT_b hw hs h1' h2]
                have hn2 : nf ((y + x) :: r') := by
                  match r', h with
                  | [], h =>
                    show y + x ≠ 0
                    have hop : Op x y := h
                    intro z
                    have : x = -y := by omega
                    subst this
                    apply h2
                    rcases hop with q | q
                    · rw [ab_pos (by omega), ab_neg (by omega)]; omega
                    · rw [ab_neg (by omega), ab_pos (by omega)]; omega
                  | q :: r'', h => exact absurd (Int.le_of_lt (nf_lt h)) h2
                rw [ih w ((y + x) :: r') (by simp at hl; simp; omega) hn2]
                exact (sem_b hir'.1 hir'.2 ho (nf_op h) h1' h2).symm
            · rw [addT_c hw hs h1']; rfl
theorem sem_fold {n s : Int} (h0 : 0 ≤ s) (h1 : s ≤ n) : ∀ (ts f : List Int), nf f → Lr n (ts.foldl (fun s t => addT t s) f) s = led n ts (Lr n f s)
  | [], _, _ => rfl
  | t :: ts, f, h => by
    show Lr n (ts.foldl _ (addT t f)) s = led n ts (cl n (Lr n f s + t))
    rw [sem_fold h0 h1 ts _ (nf_add' t h), sem_add h0 h1 f.length t f (Nat.le_refl _) h]
theorem led_form {n s : Int} (h0 : 0 ≤ s) (h1 : s ≤ n) (ts : List Int) : led n (form ts) s = led n ts s := by
  unfold form
  rw [led_rev]
  exact sem_fold h0 h1 ts [] trivial
/-! forms that differ are told apart by a small room -/
def N : List Int → Int
  | [] => 0
  | [t] => ab t
  | [t, p] => max (ab t) (ab p)
  | _ :: p :: q :: r => N (p :: q :: r)
theorem N_head : ∀ {t : Int} {r : List Int}, nf (t :: r) → ab t ≤ N (t :: r)
  | _, [], _ => Int.le_refl _
  | _, [p], _ => by show _ ≤ max _ _; omega
  | t, p :: q :: r, h => by
    have h1 := N_head (nf_tail h)
    have h2 := nf_lt h
    show ab t ≤ N (p :: q :: r)
    omega
theorem N_nn : ∀ {f : List Int}, nf f → 0 ≤ N f
  | [], _ => Int.le_refl _
  | t :: r, h => by
    have h1 := N_head h
    have h2 := ab_nn t
    omega
theorem ab1 {t : Int} (h : t ≠ 0) : 1 ≤ ab t := by unfold ab; split <;> omega
theorem small {n s t : Int} {r : List Int} (h0 : 0 ≤ s) (h1 : s ≤ n) (hn : n ≤ ab t) (ht : t ≠ 0) : Lr n (t :: r) s = if 0 < t then n else 0 := by
  have hi := Lr_in h0 h1 r
  show cl n (Lr n r s + t) = _
  generalize Lr n r s = u at hi
  unfold ab at hn
  unfold cl
  split at hn <;> split <;> omega
theorem noclamp {n s t p : Int} {r : List Int} (h0 : 0 ≤ s) (h1 : s ≤ n) (ho : Op t p) (ha : ab t ≤ ab p) (hn : ab t ≤ n) : Lr n (t :: p :: r) s = Lr n (p :: r) s + t := by
  have hi := Lr_in h0 h1 r
  show cl n (cl n (Lr n r s + p) + t) = cl n (Lr n r s + p) + t
  generalize Lr n r s = u at hi
  unfold ab at hn ha
  unfold cl
  rcases ho with ho | ho <;> (repeat' split at hn) <;> (repeat' split at ha) <;> omega
theorem const {n : Int} : ∀ {f : List Int}, nf f → n ≤ N f → ∀ s s', 0 ≤ s → s ≤ n → 0 ≤ s' → s' ≤ n → Lr n f s = Lr n f s'
  | [], _, hn, s, s', a, b, c, d => by
    have : N [] = 0 := rfl
    show s = s'
    omega
  | [t], h, hn, s, s', a, b, c, d => by rw [small a b hn h, small c d hn h]
  | [t, p], h, hn, s, s', a, b, c, d => by
    have hne := nf_ne h
    have hnp := nf_ne (nf_tail h)
    have hn' : n ≤ max (ab t) (ab p) := hn
    by_cases h1 : n ≤ ab t
    · rw [small a b h1 hne, small c d h1 hne]
    · show cl n (Lr n [p] s + t) = cl n (Lr n [p] s' + t)
      rw [small a b (by omega) hnp, small c d (by omega) hnp]
  | t :: p :: q :: r, h, hn, s, s', a, b, c, d => by
    show cl n (Lr n (p :: q :: r) s + t) = cl n (Lr n (p :: q :: r) s' + t)
    rw [const (nf_tail h) hn s s' a b c d]
theorem moves {n : Int} : ∀ {f : List Int}, nf f → n = N f + 1 → Lr n f n = Lr n f 0 + 1
  | [], _, hn => by
    have : N [] = 0 := rfl
    show n = 0 + 1
    omega
  | [t], h, hn => by
    have ht : t ≠ 0 := h
    have hn' : n = ab t + 1 := hn
    show cl n (n + t) = cl n (0 + t) + 1
    unfold ab at hn'
    unfold cl
    split at hn' <;> omega
  | [t, p], h, hn => by
    have ho : Op t p := h
    have hn' : n = max (ab t) (ab p) + 1 := hn
    show cl n (cl n (n + p) + t) = cl n (cl n (0 + p) + t) + 1
    unfold ab at hn'
    unfold cl
    rcases ho with ho | ho <;> (repeat' split at hn') <;> omega
  | t :: p :: q :: r, h, hn => by
    have ho := nf_op h
    have hl := nf_lt h
    have h1 := N_head (nf_tail h)
    have hn' : n = N (p :: q :: r) + 1 := hn
    have h2 := ab_nn t
    rw [noclamp (by omega) (by omega) ho (by omega) (by omega), noclamp (by omega) (by omega) ho (by omega) (by omega), moves (nf_tail h) hn']
    omega
def Agree (f g : List Int) : Prop := ∀ n s, 0 ≤ s → s ≤ n → n ≤ min (N f) (N g) + 1 → Lr n f s = Lr n g s
theorem Agree.symm {f g : List Int} (h : Agree f g) : Agree g f := fun n s a b c => (h n s a b (by omega)).symm
theorem agree_le {f g : List Int} (hf : nf f) (hg : nf g) (h : Agree f g) : N g ≤ N f := by
  apply Int.not_lt.mp
  intro hlt
  have h0 := N_nn hf
  have e1 := moves hf rfl
  have e2 := const hg (n := N f + 1) (by omega) (N f + 1) 0 (by omega) (by omega) (by omega) (by omega)
  have a1 := h (N f + 1) (N f + 1) (by omega) (by omega) (by omega)
  have a2 := h (N f + 1) 0 (by omega) (by omega) (by omega)
  omega
theorem agree_N {f g : List Int} (hf : nf f) (hg : nf g) (h : Agree f g) : N f = N g := by
  have := agree_le hf hg h
  have := agree_le hg hf h.symm
  omega
/-- a turn a ahead of t (0: none), told by the room beyond t -/
theorem base {t a b : Int} (ht : t ≠ 0) (ha : (0 < t ∧ a ≤ 0 ∧ -t ≤ a) ∨ (t < 0 ∧ 0 ≤ a ∧ a ≤ -t)) (hb : (0 < t ∧ b ≤ 0 ∧ -t ≤ b) ∨ (t < 0 ∧ 0 ≤ b ∧ b ≤ -t))
    (h : ∀ s, 0 ≤ s → s ≤ ab t + 1 → cl (ab t + 1) (cl (ab t + 1) (s + a) + t) = cl (ab t + 1) (cl (ab t + 1) (s + b) + t)) : a = b := by
  rcases Int.lt_or_gt_of_ne ht with ht' | ht'
  · rw [ab_neg ht'] at h
    have h1 := h (-t + 1 - a) (by omega) (by omega)
    have h2 := h (-t + 1 - b) (by omega) (by omega)
    unfold cl at h1 h2
    omega
  · rw [ab_pos (by omega)] at h
    have h1 := h (1 - a) (by omega) (by omega)
    have h2 := h (1 - b) (by omega) (by omega)
    unfold cl at h1 h2
    omega
/-- the turn ahead of the last one, where it is no greater than that -/
def second : List Int → Int
  | [_, p] => p
  | _ => 0
theorem tail_kind {t : Int} {r : List Int} (h : nf (t :: r)) : (∃ p r2, r = p :: r2 ∧ ab t < ab p ∧ N (t :: r) = N r) ∨ (N (t :: r) = ab t ∧ (r = [] ∨ ∃ p, r = [p] ∧ ab p ≤ ab t)) := by
  match r, h with
  | [], h => exact .inr ⟨rfl, .inl rfl⟩
  | [p], h =>
    by_cases hp : ab t < ab p
    · refine .inl ⟨p, [], rfl, hp, ?_⟩
      show max (ab t) (ab p) = ab p
      omega
    · refine .inr ⟨?_, .inr ⟨p, rfl, by omega⟩⟩
      show max (ab t) (ab p) = ab t
      omega
  | p :: q :: r, h => exact .inl ⟨p, q :: r, rfl, nf_lt h, rfl⟩
theorem base_val {t : Int} {r : List Int} (h : nf (t :: r)) (hr : r = [] ∨ ∃ p, r = [p] ∧ ab p ≤ ab t) : ∃ a, ((0 < t ∧ a ≤ 0 ∧ -t ≤ a) ∨ (t < 0 ∧ 0 ≤ a ∧ a ≤ -t)) ∧ (∀ n s, 0 ≤ s → s ≤ n → Lr n (t :: r) s = cl n (cl n (s + a) + t)) ∧ r = (if a = 0 then [] else [a]) := by
  have ht := nf_ne h
  rcases hr with rfl | ⟨p, rfl, hp⟩
  · refine ⟨0, by omega, fun n s h0 h1 => ?_, rfl⟩
    show cl n (s + t) = _
    rw [cl_id h0 h1]
  · have ho : Op t p := h
    refine ⟨p, ?_, fun n s h0 h1 => rfl, ?_⟩
    · unfold ab at hp
      rcases ho with ho | ho <;> (repeat' split at hp) <;> omega
    · rw [if_neg (by rcases ho with ho | ho <;> omega)]
theorem inj : ∀ (m : Nat) (f g : List Int), f.length ≤ m → nf f → nf g → Agree f g → f = g := by
  intro m
  induction m with
  | zero =>
    intro f g hl hf hg h
    have : f = [] := List.length_eq_zero_iff.mp (by omega)
    subst this
    match g, hg, h with
    | [], _, _ => rfl
    | t :: r, hg, h =>
      have e := agree_N hf hg h
      have h1 := N_head hg
      have h2 := ab1 (nf_ne hg)
      have : N [] = 0 := rfl
      omega
  | succ m ih =>
    intro f g hl hf hg h
    have e := agree_N hf hg h
    match f, g, hl, hf, hg, h, e with
    | [], [], _, _, _, _, _ => rfl
    | [], t :: r, _, _, hg, _, e =>
      have h1 := N_head hg
      have h2 := ab1 (nf_ne hg)
      have : N [] = 0 := rfl
      omega
    | t :: r, [], _, hf, _, _, e =>
      have h1 := N_head hf
      have h2 := ab1 (nf_ne hf)
      have : N [] = 0 := rfl
      omega
    | t :: r, t' :: r', hl, hf, hg, h, e =>
      have ht := nf_ne hf
      have ht' := nf_ne hg
      have a1 := ab1 ht
      have a2 := ab1 ht'
      have b1 := N_head hf
      have b2 := N_head hg
      have hsg : (0 < t ↔ 0 < t') := by
        have q := h 1 0 (by omega) (by omega) (by omega)
        rw [small (by omega) (by omega) a1 ht, small (by omega) (by omega) a2 ht'] at q
        by_cases z1 : 0 < t <;> by_cases z2 : 0 < t' <;> simp [z1, z2] at q ⊢
      have key : ∀ {t t' : Int} {r r' : List Int}, nf (t :: r) → nf (t' :: r') → (0 < t ↔ 0 < t') → Agree (t :: r) (t' :: r') → N (t :: r) = N (t' :: r') → ¬ ab t < ab t' := by
        intro t t' r r' hf hg hsg h e hlt
        have ht := nf_ne hf
        have ht' := nf_ne hg
        have a0 := ab_nn t
        have b2 := N_head hg
        rcases tail_kind hf with ⟨p, r2, rfl, hp, _⟩ | ⟨hN, _⟩
        · have ho := nf_op hf
          have q := h (ab t + 1) 0 (by omega) (by omega) (by omega)
          have hpn : p ≠ 0 := nf_ne (nf_tail hf)
          rw [noclamp (by omega) (by omega) ho (by omega) (by omega), small (by omega) (by omega) (by omega) hpn, small (by omega) (by omega) (by omega) ht'] at q
          rcases ho with ho | ho
          · rw [if_neg (by omega), if_pos (by omega), ab_pos (by omega)] at q
            omega
          · rw [if_pos (by omega), if_neg (by omega), ab_neg (by omega)] at q
            omega
        · omega
      have n1 := key hf hg hsg h e
      have n2 := key hg hf hsg.symm h.symm e.symm
      have hab : ab t = ab t' := by omega
      have htt : t = t' := by
        unfold ab at hab
        (repeat' split at hab) <;> omega
      subst htt
      rcases tail_kind hf with ⟨p, r2, rfl, hp, eN⟩ | ⟨hN, hk⟩
      · rcases tail_kind hg with ⟨p', r2', rfl, hp', eN'⟩ | ⟨hN', hk'⟩
        · have ho := nf_op hf
          have ho' := nf_op hg
          have hpn : p ≠ 0 := nf_ne (nf_tail hf)
          have hpn' : p' ≠ 0 := nf_ne (nf_tail hg)
          have : p :: r2 = p' :: r2' := ih _ _ (by simp at hl ⊢; omega) (nf_tail hf) (nf_tail hg) fun n s h0 h1 hn => by
            by_cases hnt : ab t ≤ n
            · have q := h n s h0 h1 (by omega)
              rw [noclamp h0 h1 ho (by omega) hnt, noclamp h0 h1 ho' (by omega) hnt] at q
              omega
            · rw [small h0 h1 (by omega) hpn, small h0 h1 (by omega) hpn']
              rcases ho with ho | ho <;> rcases ho' with ho' | ho' <;> first | omega | (rw [if_neg (by omega), if_neg (by omega)]) | (rw [if_pos (by omega), if_pos (by omega)])
          rw [this]
        · have h3 := N_head (nf_tail hf)
          omega
      · rcases tail_kind hg with ⟨p', r2', rfl, hp', eN'⟩ | ⟨hN', hk'⟩
        · have h3 := N_head (nf_tail hg)
          omega
        · obtain ⟨a, ha, va, ra⟩ := base_val hf hk
          obtain ⟨b, hb, vb, rb⟩ := base_val hg hk'
          have : a = b := base ht ha hb fun s h0 h1 => by
            rw [← va _ _ h0 h1, ← vb _ _ h0 h1]
            exact h _ _ h0 h1 (by omega)
          subst this
          rw [ra, rb]
/-! greatest of the first two -/
def gr (ts : List Int) : Int := (ts.map ab).foldr max 0
theorem gr_two {t p : Int} : gr [t, p] = max (ab t) (ab p) := by
  show max (ab t) (max (ab p) 0) = _
  have := ab_nn t
  have := ab_nn p
  omega
theorem N_first : ∀ {f : List Int}, nf f → gr (f.reverse.take 2) = N f
  | [], _ => rfl
  | [t], _ => by
    show max (ab t) 0 = ab t
    have := ab_nn t
    omega
  | [t, p], _ => by
    show gr [p, t] = max (ab t) (ab p)
    rw [gr_two]
    omega
  | t :: p :: q :: r, h => by
    have ih := N_first (nf_tail h)
    show _ = N (p :: q :: r)
    rw [← ih, List.reverse_cons, List.take_append_of_le_length (by simp)]
def same (most : Int) (one other : List Int) : Bool := (List.range (most + 1).toNat).all fun n => (List.range (n + 1)).all fun s => decide (led (n : Int) one (s : Int) = led (n : Int) other (s : Int))
theorem same_iff {most : Int} {one other : List Int} : same most one other = true ↔ ∀ (n s : Int), 0 ≤ s → s ≤ n → n ≤ most → led n one s = led n other s := by
  unfold same
  simp only [List.all_eq_true, List.mem_range, decide_eq_true_eq]
  constructor
  · intro h n s h0 h1 h2
    have q := h n.toNat (by omega) s.toNat (by omega)
    rw [show ((n.toNat : Nat) : Int) = n by omega, show ((s.toNat : Nat) : Int) = s by omega] at q
    exact q
  · intro h n hn s hs
    exact h n s (by omega) (by omega) (by omega)
theorem same_form (most : Int) (ts : List Int) : same most ts (form ts) = true := same_iff.mpr fun n s h0 h1 _ => (led_form h0 h1 ts).symm
theorem same_alike (one other : List Int) : same (min (gr ((form one).take 2)) (gr ((form other).take 2)) + 1) one other = decide (form one = form other) := by
  have hf := nf_form one
  have hg := nf_form other
  have e1 : gr ((form one).take 2) = N (formR one) := N_first hf
  have e2 : gr ((form other).take 2) = N (formR other) := N_first hg
  rw [e1, e2]
  by_cases h : form one = form other
  · rw [decide_eq_true h]
    exact same_iff.mpr fun n s h0 h1 _ => by rw [← led_form h0 h1 one, ← led_form h0 h1 other, h]
  · rw [decide_eq_false h]
    cases q : same (min (N (formR one)) (N (formR other)) + 1) one other with
    | false => rfl
    | true =>
      exfalso
      apply h
      have ag : Agree (formR one) (formR other) := fun n s h0 h1 hn => by
        have := same_iff.mp q n s h0 h1 hn
        rw [← led_form h0 h1 one, ← led_form h0 h1 other] at this
        unfold form at this
        rw [led_rev, led_rev] at this
        exact this
      have := inj _ _ _ (Nat.le_refl _) hf hg ag
      unfold form
      rw [this]
end M10

namespace Lw
open PySem PySem.Spec PyProof.Rows L2 Pd
open M10 (ab gr led form nf same)
/-! printed by gen.py: the text's defs -/
def topS (i : Nat) : Stmt := PySem.Challenge.pw_listworks_k10_short_forms_in_all_rooms.main.body.getD i (.Pass ⟨0, 0, 0, 0⟩)
abbrev s_add_turn : Stmt := topS 1
abbrev n_add_turn : List Str := ["form", "turn", "waiting", "middle"]
abbrev p_add_turn : List Str := ["form", "turn"]
theorem sc_add_turn : FnScope n_add_turn p_add_turn (defScope s_add_turn) := ⟨rfl, rfl, rfl, by decide +kernel, rfl, by decide +kernel, by decide +kernel⟩
abbrev s_form_in : Stmt := topS 2
abbrev n_form_in : List Str := ["turns", "found", "turn"]
abbrev p_form_in : List Str := ["turns"]
theorem sc_form_in : FnScope n_form_in p_form_in (defScope s_form_in) := ⟨rfl, rfl, rfl, by decide +kernel, rfl, by decide +kernel, by decide +kernel⟩
abbrev s_short_form : Stmt := topS 3
abbrev n_short_form : List Str := ["turns"]
abbrev p_short_form : List Str := ["turns"]
theorem sc_short_form : FnScope n_short_form p_short_form (defScope s_short_form) := ⟨rfl, rfl, rfl, by decide +kernel, rfl, by decide +kernel, by decide +kernel⟩
abbrev s_is_short : Stmt := topS 4
abbrev n_is_short : List Str := ["turns"]
abbrev p_is_short : List Str := ["turns"]
theorem sc_is_short : FnScope n_is_short p_is_short (defScope s_is_short) := ⟨rfl, rfl, rfl, by decide +kernel, rfl, by decide +kernel, by decide +kernel⟩
abbrev s_turns_alike : Stmt := topS 5
abbrev n_turns_alike : List Str := ["one", "other"]
abbrev p_turns_alike : List Str := ["one", "other"]
theorem sc_turns_alike : FnScope n_turns_alike p_turns_alike (defScope s_turns_alike) := ⟨rfl, rfl, rfl, by decide +kernel, rfl, by decide +kernel, by decide +kernel⟩
abbrev s__law_jug : Stmt := topS 7
abbrev n__law_jug : List Str := ["script", "k", "cell"]
abbrev p__law_jug : List Str := ["script", "k"]
theorem sc__law_jug : FnScope n__law_jug p__law_jug (defScope s__law_jug) := ⟨rfl, rfl, rfl, by decide +kernel, rfl, by decide +kernel, by decide +kernel⟩
abbrev s__law_pour : Stmt := topS 8
abbrev n__law_pour : List Str := ["jug", "many", "found", "mixed"]
abbrev p__law_pour : List Str := ["jug", "many"]
theorem sc__law_pour : FnScope n__law_pour p__law_pour (defScope s__law_pour) := ⟨rfl, rfl, rfl, by decide +kernel, rfl, by decide +kernel, by decide +kernel⟩
abbrev s__law_turns : Stmt := topS 9
abbrev n__law_turns : List Str := ["jug", "most", "size", "many", "turn"]
abbrev p__law_turns : List Str := ["jug", "most", "size"]
theorem sc__law_turns : FnScope n__law_turns p__law_turns (defScope s__law_turns) := ⟨rfl, rfl, rfl, by decide +kernel, rfl, by decide +kernel, by decide +kernel⟩
abbrev s__law_led : Stmt := topS 10
abbrev n__law_led : List Str := ["size", "turns", "scroll", "turn"]
abbrev p__law_led : List Str := ["size", "turns", "scroll"]
theorem sc__law_led : FnScope n__law_led p__law_led (defScope s__law_led) := ⟨rfl, rfl, rfl, by decide +kernel, rfl, by decide +kernel, by decide +kernel⟩
abbrev s__law_greatest : Stmt := topS 11
abbrev n__law_greatest : List Str := ["turns", "turn"]
abbrev p__law_greatest : List Str := ["turns"]
theorem sc__law_greatest : FnScope n__law_greatest p__law_greatest (defScope s__law_greatest) := ⟨rfl, rfl, rfl, by decide +kernel, rfl, by decide +kernel, by decide +kernel⟩
abbrev s__law_same : Stmt := topS 12
abbrev n__law_same : List Str := ["one", "other", "most", "size", "scroll"]
abbrev p__law_same : List Str := ["one", "other", "most"]
theorem sc__law_same : FnScope n__law_same p__law_same (defScope s__law_same) := ⟨rfl, rfl, rfl, by decide +kernel, rfl, by decide +kernel, by decide +kernel⟩
abbrev s__law_is_form : Stmt := topS 13
abbrev n__law_is_form : List Str := ["form", "spot", "turn"]
abbrev p__law_is_form : List Str := ["form"]
theorem sc__law_is_form : FnScope n__law_is_form p__law_is_form (defScope s__law_is_form) := ⟨rfl, rfl, rfl, by decide +kernel, rfl, by decide +kernel, by decide +kernel⟩
abbrev s__law_changed : Stmt := topS 14
abbrev n__law_changed : List Str := ["jug", "turns", "found", "turn", "way", "part"]
abbrev p__law_changed : List Str := ["jug", "turns"]
theorem sc__law_changed : FnScope n__law_changed p__law_changed (defScope s__law_changed) := ⟨rfl, rfl, rfl, by decide +kernel, rfl, by decide +kernel, by decide +kernel⟩
abbrev s__law_form_right : Stmt := topS 15
abbrev n__law_form_right : List Str := ["turns", "width", "kept", "form", "turn"]
abbrev p__law_form_right : List Str := ["turns", "width"]
theorem sc__law_form_right : FnScope n__law_form_right p__law_form_right (defScope s__law_form_right) := ⟨rfl, rfl, rfl, by decide +kernel, rfl, by decide +kernel, by decide +kernel⟩
abbrev s_law : Stmt := topS 16
abbrev n_law : List Str := ["script", "k", "jug", "width", "one", "other", "first", "second", "alike", "most"]
abbrev p_law : List Str := ["script"]
theorem sc_law : FnScope n_law p_law (defScope s_law) := ⟨rfl, rfl, rfl, by decide +kernel, rfl, by decide +kernel, by decide +kernel⟩

/-! what each def is worth -/
def F_add_turn : FS := fun ws μ R => ∃ k t xs, ws = [.m k, .d (.int t)] ∧ μ[k]? = some (some (.lst (wInts xs))) ∧ xs.length < 1000 ∧ R (.d .none) (μ.set k (some (.lst (wInts (M10.addT t xs.reverse).reverse))))
def F_form_in : FS := fun ws μ R => ∃ ts, ws = [.d (dInts ts)] ∧ ts.length ≤ 500 ∧ R (.m μ.length) (μ ++ [some (.lst (wInts (form ts)))])
def F_short_form : FS := F_form_in
def F_is_short : FS := fun ws μ R => ∃ ts, ws = [.d (dInts ts)] ∧ ts.length ≤ 500 ∧ R (.d (.bool (decide (form ts = ts)))) μ
def F_turns_alike : FS := fun ws μ R => ∃ ts us, ws = [.d (dInts ts), .d (dInts us)] ∧ ts.length ≤ 500 ∧ us.length ≤ 500 ∧ R (.d (.bool (decide (form ts = form us)))) μ
def jug (a b c : Int) : Option C := some (.lst (wInts [a, b, c]))
def F__law_jug : FS := fun ws μ R => ∃ ns k, ws = [.f (wInts ns), .d (.int k)] ∧ 0 ≤ k ∧ k ≤ 100 ∧ ∀ a b, 0 ≤ a → 0 ≤ b → b < 2 ^ 200 → R (.m μ.length) (μ ++ [jug a b 0])
def F__law_pour : FS := fun ws μ R => ∃ k many a b c, ws = [.m k, .d (.int many)] ∧ μ[k]? = some (jug a b c) ∧ 0 ≤ a ∧ 0 ≤ b ∧ b < 2 ^ 200 ∧ 0 ≤ c ∧ c ≤ 1000000 ∧ 0 < many ∧ many < 2 ^ 200 ∧
  ∀ r a' c', 0 ≤ r → r < many → 0 ≤ a' → c ≤ c' → c' ≤ c + 1 → R (.d (.int r)) (μ.set k (jug a' b c'))
def F__law_turns : FS := fun ws μ R => ∃ k most size a b c, ws = [.m k, .d (.int most), .d (.int size)] ∧ μ[k]? = some (jug a b c) ∧ 0 ≤ a ∧ 0 ≤ b ∧ b < 2 ^ 200 ∧ 0 ≤ c ∧ c ≤ 900000 ∧ 0 ≤ most ∧ most ≤ 60 ∧ 0 ≤ size ∧ size ≤ 100 ∧
  ∀ ts a' c', ts.length ≤ 60 → (∀ t ∈ ts, -100 ≤ t ∧ t ≤ 100) → 0 ≤ a' → c ≤ c' → c' ≤ c + 100 → R (.d (dInts ts)) (μ.set k (jug a' b c'))
def F__law_led : FS := fun ws μ R => ∃ n ts s, ws = [.d (.int n), .d (dInts ts), .d (.int s)] ∧ R (.d (.int (led n ts s))) μ
def F__law_greatest : FS := fun ws μ R => ∃ ts, ws = [.d (dInts ts)] ∧ ts.length ≤ 1000 ∧ R (.d (.int (gr ts))) μ
def F__law_same : FS := fun ws μ R => ∃ one other most, ws = [.d (dInts one), .d (dInts other), .d (.int most)] ∧ 0 ≤ most ∧ most ≤ 100 ∧ R (.d (.bool (same most one other))) μ
def F__law_is_form : FS := fun ws μ R => ∃ f, ws = [.d (dInts f)] ∧ nf f.reverse ∧ R (.d (.bool true)) μ
def F__law_changed : FS := fun ws μ R => ∃ k ts a b c, ws = [.m k, .d (dInts ts)] ∧ μ[k]? = some (jug a b c) ∧ 0 ≤ a ∧ 0 ≤ b ∧ b < 2 ^ 200 ∧ 0 ≤ c ∧ c ≤ 900000 ∧ ts.length ≤ 60 ∧ (∀ t ∈ ts, -100 ≤ t ∧ t ≤ 100) ∧
  ∀ us a' c', us.length ≤ 100 → (∀ t ∈ us, -100 ≤ t ∧ t ≤ 100) → 0 ≤ a' → c ≤ c' → c' ≤ c + 100 → R (.d (dInts us)) (μ.set k (jug a' b c'))
def F__law_form_right : FS := fun ws μ R => ∃ ts w, ws = [.d (dInts ts), .d (.int w)] ∧ ts.length ≤ 100 ∧ (∀ t ∈ ts, -100 ≤ t ∧ t ≤ 100) ∧ 0 < w ∧ R (.d (.bool true)) μ
def F_law : FS := fun ws μ R => ∃ ns, ws = [.f (wInts ns)] ∧ ns.length ≤ 63 ∧ R (.d (.bool true)) μ
def t_add_turn (K : PySem.W.Frag) : TS := (tSeq (tAsg (tVar 1) (gName 2))
    (tWhile (tTest (tOp (rNeU K) (tVar 2) (tC (.int 0)))) (tIfS (tAnd (tTest (tOp (rNeU K) (tVar 0) (tLst tNil))) (tTest (tOp (rEqU K) (tOp rGtI (tOp (rIx K) (tVar 0) (tUn (rU fun i => .int (-i)) (tC (.int 1)))) (tC (.int 0))) (tOp rGtI (tVar 2) (tC (.int 0)))))) (tAsg (tOp (rAddU K) (tVar 2) (tBM0 K "list" (rPopU) (tVar 0))) (gName 2)) (tIfS (tAnd (tTest (tOp rGtI (tCB (rLenU K) (tCons (tVar 0) tNil)) (tC (.int 1)))) (tTest (tOp rGeI (tCB (rAbsU) (tCons (tVar 2) tNil)) (tCB (rAbsU) (tCons (tOp (rIx K) (tVar 0) (tUn (rU fun i => .int (-i)) (tC (.int 1)))) tNil))))) (tSeq (tAsg (tBM0 K "list" (rPopU) (tVar 0)) (gName 3))
    (tIfS (tTest (tOp rLeI (tCB (rAbsU) (tCons (tVar 3) tNil)) (tCB (rAbsU) (tCons (tOp (rIx K) (tVar 0) (tUn (rU fun i => .int (-i)) (tC (.int 1)))) tNil)))) (tAsg (tOp (rAddU K) (tOp (rAddU K) (tVar 2) (tVar 3)) (tBM0 K "list" (rPopU) (tVar 0))) (gName 2)) (tAsg (tOp (rAddU K) (tOp (rIx K) (tVar 0) (tUn (rU fun i => .int (-i)) (tC (.int 1)))) (tVar 3)) (gSub (tVar 0) (tUn (rU fun i => .int (-i)) (tC (.int 1))) rSetL)))) (tSeq (tDrop (tBM K "list" (rAppend) (tVar 0) (tCons (tVar 2) tNil)))
    (tAsg (tC (.int 0)) (gName 2)))))))
theorem dv_add_turn {P : Program} {w : World} {K : PySem.W.Frag} {mg : Str → Option Value} {base : Heap} {f : Addr} {cdv : Value} {A : Around} {outer : List Env} {s : Shared} {H : Hp} {E : XK}
    (hr : Room 0 (A.deeper (envOfC "add_turn" (defScope s_add_turn) s.heap.objs.size f cdv)))
    (n_abs : mg "abs" = none)
    (n_len : mg "len" = none) :
    PSs (cxOf CX0 P w K mg base n_add_turn "add_turn" (defScope s_add_turn) f cdv A outer s H E).nox (defBody s_add_turn) (t_add_turn K) := by
  have S := sc_add_turn
  have hu : (A.deeper (envOfC "add_turn" (defScope s_add_turn) s.heap.objs.size f cdv)).units + 64 < cLine := by have := hr.un; omega
  exact (pss_cons (ps_asg (pv 1) (pg_name (i := 2) S.nd rfl (.inl rfl)))
      (pss_one (ps_while PassesOwn.never (pt_cmpR (op_neU hu) (pv 2) pe_int (nomark _)) (pss_one (ps_if (PW.pt (pw_and (pt_cmpR (op_neU hu) (pv 0) (pe_lst pa_nil) (nomark _)) (pw_and1 (pt_cmpR (op_eqU hu) (pe_cmpR op_gtU (pe_ix ix_seq (pv 0) (pe_un un_neg pe_int) (fun _ _ => rfl)) pe_int (nomark _)) (pe_cmpR op_gtU (pv 2) pe_int (nomark _)) (nomark _))))) (pss_one (ps_asg (pe_op op_addU (pv 2) (pe_bm0 PySem.F.plainAttrs_list PySem.F.slot_list_pop PySem.F.type_list_pop mt_popU (pv 0))) (pg_name (i := 2) S.nd rfl (.inl rfl)))) (pss_one (ps_if (PW.pt (pw_and (pt_cmpR op_gtU (pe_callB call_lenU (by rfl) n_len (by decide +kernel) (pa_cons (pv 0) pa_nil)) pe_int (nomark _)) (pw_and1 (pt_cmpR op_geU (pe_callB call_absU (by rfl) n_abs (by decide +kernel) (pa_cons (pv 2) pa_nil)) (pe_callB call_absU (by rfl) n_abs (by decide +kernel) (pa_cons (pe_ix ix_seq (pv 0) (pe_un un_neg pe_int) (fun _ _ => rfl)) pa_nil)) (nomark _))))) (pss_cons (ps_asg (pe_bm0 PySem.F.plainAttrs_list PySem.F.slot_list_pop PySem.F.type_list_pop mt_popU (pv 0)) (pg_name (i := 3) S.nd rfl (.inl rfl)))
      (pss_one (ps_if (pt_cmpR op_leU (pe_callB call_absU (by rfl) n_abs (by decide +kernel) (pa_cons (pv 3) pa_nil)) (pe_callB call_absU (by rfl) n_abs (by decide +kernel) (pa_cons (pe_ix ix_seq (pv 0) (pe_un un_neg pe_int) (fun _ _ => rfl)) pa_nil)) (nomark _)) (pss_one (ps_asg (pe_op op_addU (pe_op op_addU (pv 2) (pv 3)) (pe_bm0 PySem.F.plainAttrs_list PySem.F.slot_list_pop PySem.F.type_list_pop mt_popU (pv 0))) (pg_name (i := 2) S.nd rfl (.inl rfl)))) (pss_one (ps_asg (pe_op op_addU (pe_ix ix_seq (pv 0) (pe_un un_neg pe_int) (fun _ _ => rfl)) (pv 3)) (pg_sub (pv 0) (pe_un un_neg pe_int) set_list)))))) (pss_cons (ps_expr (pe_bm PySem.F.plainAttrs_list PySem.F.slot_list_append PySem.F.type_list_append mt_append (pv 0) (pa_cons (pv 2) pa_nil)))
      (pss_one (ps_asg pe_int (pg_name (i := 2) S.nd rfl (.inl rfl))))))))))))
def t_form_in (K : PySem.W.Frag) : TS := (tSeq (tAsg (tLst tNil) (gName 1))
    (tSeq (tFor (iSeq K (tVar 0)) (gName 2) (tDrop (tCall (spD K F_add_turn) [] E0 (tCons (tVar 1) (tCons (tVar 2) tNil)))))
    (tRet (tVar 1))))
theorem dv_form_in {P : Program} {w : World} {K : PySem.W.Frag} {mg : Str → Option Value} {base : Heap} {f : Addr} {cdv : Value} {A : Around} {outer : List Env} {s : Shared} {H : Hp} {E : XK}
    (hr : Room 1 (A.deeper (envOfC "form_in" (defScope s_form_in) s.heap.objs.size f cdv)))
    (h_add_turn : Has P w K mg base "add_turn" p_add_turn 1 F_add_turn) :
    PSs (cxOf CX0 P w K mg base n_form_in "form_in" (defScope s_form_in) f cdv A outer s H E).nox (defBody s_form_in) (t_form_in K) := by
  have S := sc_form_in
  have hu : (A.deeper (envOfC "form_in" (defScope s_form_in) s.heap.objs.size f cdv)).units + 64 < cLine := by have := hr.un; omega
  exact (pss_cons (ps_asg (pe_lst pa_nil) (pg_name (i := 1) S.nd rfl (.inl rfl)))
      (pss_cons (ps_for PassesOwn.never rfl (pi_seq (pv 0)) (pg_name (i := 2) S.nd rfl (.inl rfl)) (pss_one (ps_expr (pe_has h_add_turn (hr.mono (by decide)) (pa_cons (pv 1) (pa_cons (pv 2) pa_nil))))))
      (pss_one (ps_ret (pv 1)))))
def t_short_form (K : PySem.W.Frag) : TS := (tRet (tCall (spD K F_form_in) [] E0 (tCons (tVar 0) tNil)))
theorem dv_short_form {P : Program} {w : World} {K : PySem.W.Frag} {mg : Str → Option Value} {base : Heap} {f : Addr} {cdv : Value} {A : Around} {outer : List Env} {s : Shared} {H : Hp} {E : XK}
    (hr : Room 2 (A.deeper (envOfC "short_form" (defScope s_short_form) s.heap.objs.size f cdv)))
    (h_form_in : Has P w K mg base "form_in" p_form_in 2 F_form_in) :
    PSs (cxOf CX0 P w K mg base n_short_form "short_form" (defScope s_short_form) f cdv A outer s H E).nox (defBody s_short_form) (t_short_form K) := by
  have S := sc_short_form
  have hu : (A.deeper (envOfC "short_form" (defScope s_short_form) s.heap.objs.size f cdv)).units + 64 < cLine := by have := hr.un; omega
  exact (pss_one (ps_ret (pe_has h_form_in (hr.mono (by decide)) (pa_cons (pv 0) pa_nil))))
def t_is_short (K : PySem.W.Frag) : TS := (tRet (tOp (rEqU K) (tCall (spD K F_form_in) [] E0 (tCons (tVar 0) tNil)) (tVar 0)))
theorem dv_is_short {P : Program} {w : World} {K : PySem.W.Frag} {mg : Str → Option Value} {base : Heap} {f : Addr} {cdv : Value} {A : Around} {outer : List Env} {s : Shared} {H : Hp} {E : XK}
    (hr : Room 2 (A.deeper (envOfC "is_short" (defScope s_is_short) s.heap.objs.size f cdv)))
    (h_form_in : Has P w K mg base "form_in" p_form_in 2 F_form_in) :
    PSs (cxOf CX0 P w K mg base n_is_short "is_short" (defScope s_is_short) f cdv A outer s H E).nox (defBody s_is_short) (t_is_short K) := by
  have S := sc_is_short
  have hu : (A.deeper (envOfC "is_short" (defScope s_is_short) s.heap.objs.size f cdv)).units + 64 < cLine := by have := hr.un; omega
  exact (pss_one (ps_ret (pe_cmpR (op_eqU hu) (pe_has h_form_in (hr.mono (by decide)) (pa_cons (pv 0) pa_nil)) (pv 0) (nomark _))))
def t_turns_alike (K : PySem.W.Frag) : TS := (tRet (tOp (rEqU K) (tCall (spD K F_form_in) [] E0 (tCons (tVar 0) tNil)) (tCall (spD K F_form_in) [] E0 (tCons (tVar 1) tNil))))
theorem dv_turns_alike {P : Program} {w : World} {K : PySem.W.Frag} {mg : Str → Option Value} {base : Heap} {f : Addr} {cdv : Value} {A : Around} {outer : List Env} {s : Shared} {H : Hp} {E : XK}
    (hr : Room 2 (A.deeper (envOfC "turns_alike" (defScope s_turns_alike) s.heap.objs.size f cdv)))
    (h_form_in : Has P w K mg base "form_in" p_form_in 2 F_form_in) :
    PSs (cxOf CX0 P w K mg base n_turns_alike "turns_alike" (defScope s_turns_alike) f cdv A outer s H E).nox (defBody s_turns_alike) (t_turns_alike K) := by
  have S := sc_turns_alike
  have hu : (A.deeper (envOfC "turns_alike" (defScope s_turns_alike) s.heap.objs.size f cdv)).units + 64 < cLine := by have := hr.un; omega
  exact (pss_one (ps_ret (pe_cmpR (op_eqU hu) (pe_has h_form_in (hr.mono (by decide)) (pa_cons (pv 0) pa_nil)) (pe_has h_form_in (hr.mono (by decide)) (pa_cons (pv 1) pa_nil)) (nomark _))))
def t__law_jug (K : PySem.W.Frag) : TS := (tSeq (tAsg (tIf (tTest (tOp rLtU (tVar 1) (tCB (rLenU K) (tCons (tVar 0) tNil)))) (tOp (rIx K) (tVar 0) (tVar 1)) (tC (.int 0))) (gName 2))
    (tRet (tLst (tCons (tCB (rMaxU K) (tCons (tC (.int 0)) (tCons (tOp rSubI (tVar 2) (tOp rPowI (tC (.int 10)) (tC (.int 18)))) tNil))) (tCons (tOp (rAddU K) (tOp (rAddU K) (tOp rMulU (tOp rModI (tVar 2) (tOp (rAddU K) (tOp rPowI (tC (.int 10)) (tC (.int 39))) (tC (.int 3)))) (tC (.int 211))) (tOp rMulU (tC (.int 50021)) (tVar 1))) (tC (.int 29))) (tCons (tC (.int 0)) tNil))))))
theorem dv__law_jug {P : Program} {w : World} {K : PySem.W.Frag} {mg : Str → Option Value} {base : Heap} {f : Addr} {cdv : Value} {A : Around} {outer : List Env} {s : Shared} {H : Hp} {E : XK}
    (hr : Room 0 (A.deeper (envOfC "_law_jug" (defScope s__law_jug) s.heap.objs.size f cdv)))
    (n_len : mg "len" = none)
    (n_max : mg "max" = none) :
    PSs (cxOf CX0 P w K mg base n__law_jug "_law_jug" (defScope s__law_jug) f cdv A outer s H E).nox (defBody s__law_jug) (t__law_jug K) := by
  have S := sc__law_jug
  have hu : (A.deeper (envOfC "_law_jug" (defScope s__law_jug) s.heap.objs.size f cdv)).units + 64 < cLine := by have := hr.un; omega
  exact (pss_cons (ps_asg (pe_ifExp (pt_cmpR op_ltU (pv 1) (pe_callB call_lenU (by rfl) n_len (by decide +kernel) (pa_cons (pv 0) pa_nil)) (nomark _)) (pe_ix ix_seq (pv 0) (pv 1) (fun _ _ => rfl)) pe_int) (pg_name (i := 2) S.nd rfl (.inl rfl)))
      (pss_one (ps_ret (pe_lst (pa_cons (pe_callB (call_maxU rfl) (by rfl) n_max (by decide +kernel) (pa_cons pe_int (pa_cons (pe_op op_subU (pv 2) (pe_op op_powU pe_int pe_int)) pa_nil))) (pa_cons (pe_op op_addU (pe_op op_addU (pe_op op_mulU (pe_op op_modU (pv 2) (pe_op op_addU (pe_op op_powU pe_int pe_int) pe_int)) pe_int) (pe_op op_mulU pe_int (pv 1))) pe_int) (pa_cons pe_int pa_nil)))))))
def t__law_pour (K : PySem.W.Frag) : TS := (tSeq (tIfS (tTest (tOp rGtI (tOp (rIx K) (tVar 0) (tC (.int 0))) (tC (.int 0)))) (tSeq (tAsg (tOp rModI (tCB (rIntU) (tCons (tOp (rIx K) (tVar 0) (tC (.int 0))) tNil)) (tVar 1)) (gName 2))
    (tSeq (tAsg (tOp rDivI (tOp (rIx K) (tVar 0) (tC (.int 0))) (tVar 1)) (gSub (tVar 0) (tC (.int 0)) rSetL))
    (tRet (tVar 2)))) tNext)
    (tSeq (tAsg (tOp (rAddU K) (tOp (rIx K) (tVar 0) (tC (.int 2))) (tC (.int 1))) (gSub (tVar 0) (tC (.int 2)) rSetL))
    (tSeq (tAsg (tOp rModI (tCB (rIntU) (tCons (tOp rPowI (tOp (rAddU K) (tOp (rIx K) (tVar 0) (tC (.int 1))) (tOp rMulU (tC (.int 24036583)) (tOp (rIx K) (tVar 0) (tC (.int 2))))) (tC (.int 3))) tNil)) (tOp (rAddU K) (tOp rPowI (tC (.int 10)) (tC (.int 42))) (tC (.int 63)))) (gName 3))
    (tSeq (tAsg (tOp rModI (tCB (rIntU) (tCons (tOp rPowI (tOp (rAddU K) (tVar 3) (tOp rMulU (tC (.int 13466917)) (tOp (rIx K) (tVar 0) (tC (.int 2))))) (tC (.int 3))) tNil)) (tOp (rAddU K) (tOp rPowI (tC (.int 10)) (tC (.int 44))) (tC (.int 57)))) (gName 3))
    (tRet (tOp rModI (tOp rDivI (tVar 3) (tC (.int 1299709))) (tVar 1)))))))
theorem dv__law_pour {P : Program} {w : World} {K : PySem.W.Frag} {mg : Str → Option Value} {base : Heap} {f : Addr} {cdv : Value} {A : Around} {outer : List Env} {s : Shared} {H : Hp} {E : XK}
    (hr : Room 0 (A.deeper (envOfC "_law_pour" (defScope s__law_pour) s.heap.objs.size f cdv)))
    (n_int : mg "int" = none) :
    PSs (cxOf CX0 P w K mg base n__law_pour "_law_pour" (defScope s__law_pour) f cdv A outer s H E).nox (defBody s__law_pour) (t__law_pour K) := by
  have S := sc__law_pour
  have hu : (A.deeper (envOfC "_law_pour" (defScope s__law_pour) s.heap.objs.size f cdv)).units + 64 < cLine := by have := hr.un; omega
  exact (pss_cons (ps_if (pt_cmpR op_gtU (pe_ix ix_seq (pv 0) pe_int (fun _ _ => rfl)) pe_int (nomark _)) (pss_cons (ps_asg (pe_op op_modU (pe_callTy call_intU (by rfl) n_int (by decide +kernel) (pa_cons (pe_ix ix_seq (pv 0) pe_int (fun _ _ => rfl)) pa_nil)) (pv 1)) (pg_name (i := 2) S.nd rfl (.inl rfl)))
      (pss_cons (ps_asg (pe_op op_divU (pe_ix ix_seq (pv 0) pe_int (fun _ _ => rfl)) (pv 1)) (pg_sub (pv 0) pe_int set_list))
      (pss_one (ps_ret (pv 2))))) pss_nil)
      (pss_cons (ps_asg (pe_op op_addU (pe_ix ix_seq (pv 0) pe_int (fun _ _ => rfl)) pe_int) (pg_sub (pv 0) pe_int set_list))
      (pss_cons (ps_asg (pe_op op_modU (pe_callTy call_intU (by rfl) n_int (by decide +kernel) (pa_cons (pe_op op_powU (pe_op op_addU (pe_ix ix_seq (pv 0) pe_int (fun _ _ => rfl)) (pe_op op_mulU pe_int (pe_ix ix_seq (pv 0) pe_int (fun _ _ => rfl)))) pe_int) pa_nil)) (pe_op op_addU (pe_op op_powU pe_int pe_int) pe_int)) (pg_name (i := 3) S.nd rfl (.inl rfl)))
      (pss_cons (ps_asg (pe_op op_modU (pe_callTy call_intU (by rfl) n_int (by decide +kernel) (pa_cons (pe_op op_powU (pe_op op_addU (pv 3) (pe_op op_mulU pe_int (pe_ix ix_seq (pv 0) pe_int (fun _ _ => rfl)))) pe_int) pa_nil)) (pe_op op_addU (pe_op op_powU pe_int pe_int) pe_int)) (pg_name (i := 3) S.nd rfl (.inl rfl)))
      (pss_one (ps_ret (pe_op op_modU (pe_op op_divU (pv 3) pe_int) (pv 1))))))))
def t__law_turns (K : PySem.W.Frag) : TS := (tSeq (tAsg (tIf (tTest (tOp (rEqU K) (tCall (spD K F__law_pour) [] E0 (tCons (tVar 0) (tCons (tC (.int 40)) tNil))) (tC (.int 0)))) (tC (.int 60)) (tCall (spD K F__law_pour) [] E0 (tCons (tVar 0) (tCons (tOp (rAddU K) (tVar 1) (tC (.int 1))) tNil)))) (gName 3))
    (tRet (tLc (iRng1 (tCons (tVar 3) tNil)) (gName 4) tYes (tOp rSubI (tCall (spD K F__law_pour) [] E0 (tCons (tVar 0) (tCons (tOp (rAddU K) (tOp rMulU (tC (.int 2)) (tVar 2)) (tC (.int 1))) tNil))) (tVar 2)) [4])))
theorem dv__law_turns {P : Program} {w : World} {K : PySem.W.Frag} {mg : Str → Option Value} {base : Heap} {f : Addr} {cdv : Value} {A : Around} {outer : List Env} {s : Shared} {H : Hp} {E : XK}
    (hr : Room 1 (A.deeper (envOfC "_law_turns" (defScope s__law_turns) s.heap.objs.size f cdv)))
    (h__law_pour : Has P w K mg base "_law_pour" p__law_pour 1 F__law_pour)
    (n_range : mg "range" = none) :
    PSs (cxOf CX0 P w K mg base n__law_turns "_law_turns" (defScope s__law_turns) f cdv A outer s H E).nox (defBody s__law_turns) (t__law_turns K) := by
  have S := sc__law_turns
  have hu : (A.deeper (envOfC "_law_turns" (defScope s__law_turns) s.heap.objs.size f cdv)).units + 64 < cLine := by have := hr.un; omega
  exact (pss_cons (ps_asg (pe_ifExp (pt_cmpR (op_eqU hu) (pe_has h__law_pour (hr.mono (by decide)) (pa_cons (pv 0) (pa_cons pe_int pa_nil))) pe_int (nomark _)) pe_int (pe_has h__law_pour (hr.mono (by decide)) (pa_cons (pv 0) (pa_cons (pe_op op_addU (pv 1) pe_int) pa_nil)))) (pg_name (i := 3) S.nd rfl (.inl rfl)))
      (pss_one (ps_ret (pe_lc (own := [("turn", 4)]) (g := (gName 4)) (tt := tYes) rfl S.nd (pi_range1 (by rfl) n_range (pa_cons (pv 3) pa_nil)) (blkOk_by (N := n__law_turns) (sc := defScope s__law_turns) (by decide +kernel)) (fun _ _ _ _ _ => (pg_name (i := 4) S.nd rfl (.inl rfl))) (fun _ _ _ _ _ => pts_nil) (fun _ _ _ _ _ => (pe_op op_subU (pe_has h__law_pour (hr.mono (by decide)) (pa_cons (pv 0) (pa_cons (pe_op op_addU (pe_op op_mulU pe_int (pv 2)) pe_int) pa_nil))) (pv 2)))))))
def t__law_led (K : PySem.W.Frag) : TS := (tSeq (tFor (iSeq K (tVar 1)) (gName 3) (tAsg (tCB (rMaxU K) (tCons (tC (.int 0)) (tCons (tCB (rMinU K) (tCons (tVar 0) (tCons (tOp (rAddU K) (tVar 2) (tVar 3)) tNil))) tNil))) (gName 2)))
    (tRet (tVar 2)))
theorem dv__law_led {P : Program} {w : World} {K : PySem.W.Frag} {mg : Str → Option Value} {base : Heap} {f : Addr} {cdv : Value} {A : Around} {outer : List Env} {s : Shared} {H : Hp} {E : XK}
    (hr : Room 0 (A.deeper (envOfC "_law_led" (defScope s__law_led) s.heap.objs.size f cdv)))
    (n_max : mg "max" = none)
    (n_min : mg "min" = none) :
    PSs (cxOf CX0 P w K mg base n__law_led "_law_led" (defScope s__law_led) f cdv A outer s H E).nox (defBody s__law_led) (t__law_led K) := by
  have S := sc__law_led
  have hu : (A.deeper (envOfC "_law_led" (defScope s__law_led) s.heap.objs.size f cdv)).units + 64 < cLine := by have := hr.un; omega
  exact (pss_cons (ps_for PassesOwn.never rfl (pi_seq (pv 1)) (pg_name (i := 3) S.nd rfl (.inl rfl)) (pss_one (ps_asg (pe_callB (call_maxU rfl) (by rfl) n_max (by decide +kernel) (pa_cons pe_int (pa_cons (pe_callB (call_minU rfl) (by rfl) n_min (by decide +kernel) (pa_cons (pv 0) (pa_cons (pe_op op_addU (pv 2) (pv 3)) pa_nil))) pa_nil))) (pg_name (i := 2) S.nd rfl (.inl rfl)))))
      (pss_one (ps_ret (pv 2))))
def t__law_greatest (K : PySem.W.Frag) : TS := (tRet (tCB (rMaxU K) (tCons (tOp (rAddU K) (tLst (tCons (tC (.int 0)) tNil)) (tLc (iSeq K (tVar 0)) (gName 1) tYes (tCB (rAbsU) (tCons (tVar 1) tNil)) [1])) tNil)))
theorem dv__law_greatest {P : Program} {w : World} {K : PySem.W.Frag} {mg : Str → Option Value} {base : Heap} {f : Addr} {cdv : Value} {A : Around} {outer : List Env} {s : Shared} {H : Hp} {E : XK}
    (hr : Room 0 (A.deeper (envOfC "_law_greatest" (defScope s__law_greatest) s.heap.objs.size f cdv)))
    (n_abs : mg "abs" = none)
    (n_max : mg "max" = none) :
    PSs (cxOf CX0 P w K mg base n__law_greatest "_law_greatest" (defScope s__law_greatest) f cdv A outer s H E).nox (defBody s__law_greatest) (t__law_greatest K) := by
  have S := sc__law_greatest
  have hu : (A.deeper (envOfC "_law_greatest" (defScope s__law_greatest) s.heap.objs.size f cdv)).units + 64 < cLine := by have := hr.un; omega
  exact (pss_one (ps_ret (pe_callB (call_maxU rfl) (by rfl) n_max (by decide +kernel) (pa_cons (pe_op op_addU (pe_lst (pa_cons pe_int pa_nil)) (pe_lc (own := [("turn", 1)]) (g := (gName 1)) (tt := tYes) rfl S.nd (pi_seq (pv 0)) (blkOk_by (N := n__law_greatest) (sc := defScope s__law_greatest) (by decide +kernel)) (fun _ _ _ _ _ => (pg_name (i := 1) S.nd rfl (.inl rfl))) (fun _ _ _ _ _ => pts_nil) (fun _ _ _ _ _ => (pe_callB call_absU (by rfl) n_abs (by decide +kernel) (pa_cons (pv 1) pa_nil))))) pa_nil))))
def t__law_same (K : PySem.W.Frag) : TS := (tSeq (tFor (iRng1 (tCons (tOp (rAddU K) (tVar 2) (tC (.int 1))) tNil)) (gName 3) (tFor (iRng1 (tCons (tOp (rAddU K) (tVar 3) (tC (.int 1))) tNil)) (gName 4) (tIfS (tTest (tOp (rNeU K) (tCall (spD K F__law_led) [] E0 (tCons (tVar 3) (tCons (tVar 0) (tCons (tVar 4) tNil)))) (tCall (spD K F__law_led) [] E0 (tCons (tVar 3) (tCons (tVar 1) (tCons (tVar 4) tNil)))))) (tRet (tC (.bl false))) tNext)))
    (tRet (tC (.bl true))))
theorem dv__law_same {P : Program} {w : World} {K : PySem.W.Frag} {mg : Str → Option Value} {base : Heap} {f : Addr} {cdv : Value} {A : Around} {outer : List Env} {s : Shared} {H : Hp} {E : XK}
    (hr : Room 1 (A.deeper (envOfC "_law_same" (defScope s__law_same) s.heap.objs.size f cdv)))
    (h__law_led : Has P w K mg base "_law_led" p__law_led 1 F__law_led)
    (n_range : mg "range" = none) :
    PSs (cxOf CX0 P w K mg base n__law_same "_law_same" (defScope s__law_same) f cdv A outer s H E).nox (defBody s__law_same) (t__law_same K) := by
  have S := sc__law_same
  have hu : (A.deeper (envOfC "_law_same" (defScope s__law_same) s.heap.objs.size f cdv)).units + 64 < cLine := by have := hr.un; omega
  exact (pss_cons (ps_for PassesOwn.never rfl (pi_range1 (by rfl) n_range (pa_cons (pe_op op_addU (pv 2) pe_int) pa_nil)) (pg_name (i := 3) S.nd rfl (.inl rfl)) (pss_one (ps_for PassesOwn.never rfl (pi_range1 (by rfl) n_range (pa_cons (pe_op op_addU (pv 3) pe_int) pa_nil)) (pg_name (i := 4) S.nd rfl (.inl rfl)) (pss_one (ps_if (pt_cmpR (op_neU hu) (pe_has h__law_led (hr.mono (by decide)) (pa_cons (pv 3) (pa_cons (pv 0) (pa_cons (pv 4) pa_nil)))) (pe_has h__law_led (hr.mono (by decide)) (pa_cons (pv 3) (pa_cons (pv 1) (pa_cons (pv 4) pa_nil)))) (nomark _)) (pss_one (ps_ret pe_bl)) pss_nil)))))
      (pss_one (ps_ret pe_bl)))
def t__law_is_form (K : PySem.W.Frag) : TS := (tSeq (tFor (iEnum K (tCons (tVar 0) tNil)) (gTup K 2 (gCons (gName 1) (gCons (gName 2) gNil))) (tSeq (tIfS (tOr (tTest (tOp (rEqU K) (tVar 2) (tC (.int 0)))) (tAnd (tTest (tOp rGtI (tVar 1) (tC (.int 0)))) (tTest (tOp (rEqU K) (tOp rGtI (tVar 2) (tC (.int 0))) (tOp rGtI (tOp (rIx K) (tVar 0) (tOp rSubI (tVar 1) (tC (.int 1)))) (tC (.int 0))))))) (tRet (tC (.bl false))) tNext)
    (tIfS (tAnd (tTest (tOp rGtI (tVar 1) (tC (.int 1)))) (tTest (tOp rGeI (tCB (rAbsU) (tCons (tVar 2) tNil)) (tCB (rAbsU) (tCons (tOp (rIx K) (tVar 0) (tOp rSubI (tVar 1) (tC (.int 1)))) tNil))))) (tRet (tC (.bl false))) tNext)))
    (tRet (tC (.bl true))))
theorem dv__law_is_form {P : Program} {w : World} {K : PySem.W.Frag} {mg : Str → Option Value} {base : Heap} {f : Addr} {cdv : Value} {A : Around} {outer : List Env} {s : Shared} {H : Hp} {E : XK}
    (hr : Room 0 (A.deeper (envOfC "_law_is_form" (defScope s__law_is_form) s.heap.objs.size f cdv)))
    (n_abs : mg "abs" = none)
    (n_enumerate : mg "enumerate" = none) :
    PSs (cxOf CX0 P w K mg base n__law_is_form "_law_is_form" (defScope s__law_is_form) f cdv A outer s H E).nox (defBody s__law_is_form) (t__law_is_form K) := by
  have S := sc__law_is_form
  have hu : (A.deeper (envOfC "_law_is_form" (defScope s__law_is_form) s.heap.objs.size f cdv)).units + 64 < cLine := by have := hr.un; omega
  exact (pss_cons (ps_for PassesOwn.never rfl (pi_enum (by rfl) n_enumerate (pa_cons (pv 0) pa_nil)) (pg_tup rfl (pgs_cons (pg_name (i := 1) S.nd rfl (.inl rfl)) (pgs_cons (pg_name (i := 2) S.nd rfl (.inl rfl)) pgs_nil))) (pss_cons (ps_if (PW.pt (pw_or (pt_cmpR (op_eqU hu) (pv 2) pe_int (nomark _)) (pw_or1 (PW.pt (pw_and (pt_cmpR op_gtU (pv 1) pe_int (nomark _)) (pw_and1 (pt_cmpR (op_eqU hu) (pe_cmpR op_gtU (pv 2) pe_int (nomark _)) (pe_cmpR op_gtU (pe_ix ix_seq (pv 0) (pe_op op_subU (pv 1) pe_int) (fun _ _ => rfl)) pe_int (nomark _)) (nomark _)))))))) (pss_one (ps_ret pe_bl)) pss_nil)
      (pss_one (ps_if (PW.pt (pw_and (pt_cmpR op_gtU (pv 1) pe_int (nomark _)) (pw_and1 (pt_cmpR op_geU (pe_callB call_absU (by rfl) n_abs (by decide +kernel) (pa_cons (pv 2) pa_nil)) (pe_callB call_absU (by rfl) n_abs (by decide +kernel) (pa_cons (pe_ix ix_seq (pv 0) (pe_op op_subU (pv 1) pe_int) (fun _ _ => rfl)) pa_nil)) (nomark _))))) (pss_one (ps_ret pe_bl)) pss_nil))))
      (pss_one (ps_ret pe_bl)))
def t__law_changed (K : PySem.W.Frag) : TS := (tSeq (tAsg (tLst tNil) (gName 2))
    (tSeq (tFor (iSeq K (tSl (rSlU K) (tVar 1) tNoPart (tPart (tC (.int 20))))) (gName 3) (tSeq (tAsg (tCall (spD K F__law_pour) [] E0 (tCons (tVar 0) (tCons (tC (.int 4)) tNil))) (gName 4))
    (tSeq (tAsg (tCall (spD K F__law_pour) [] E0 (tCons (tVar 0) (tCons (tOp (rAddU K) (tCB (rAbsU) (tCons (tVar 3) tNil)) (tC (.int 1))) tNil))) (gName 5))
    (tIfS (tTest (tOp (rEqU K) (tVar 4) (tC (.int 0)))) (tAsg (tIf (tTest (tOp rGtI (tVar 3) (tC (.int 0)))) (tOp (rAddU K) (tVar 2) (tLst (tCons (tVar 5) (tCons (tOp rSubI (tVar 3) (tVar 5)) tNil)))) (tOp (rAddU K) (tVar 2) (tLst (tCons (tOp rSubI (tC (.int 0)) (tVar 5)) (tCons (tOp (rAddU K) (tVar 3) (tVar 5)) tNil))))) (gName 2)) (tIfS (tTest (tOp (rEqU K) (tVar 4) (tC (.int 1)))) (tAsg (tOp (rAddU K) (tVar 2) (tLst (tCons (tVar 3) (tCons (tC (.int 0)) tNil)))) (gName 2)) (tIfS (tTest (tOp (rEqU K) (tVar 4) (tC (.int 2)))) (tAsg (tOp (rAddU K) (tVar 2) (tIf (tTest (tOp rGtI (tVar 3) (tC (.int 0)))) (tLst (tCons (tVar 3) (tCons (tOp rSubI (tC (.int 0)) (tVar 5)) (tCons (tVar 5) tNil)))) (tLst (tCons (tVar 3) (tCons (tVar 5) (tCons (tOp rSubI (tC (.int 0)) (tVar 5)) tNil)))))) (gName 2)) (tDrop (tBM K "list" (rAppend) (tVar 2) (tCons (tVar 3) tNil)))))))))
    (tSeq (tIfS (tAnd (tTest (tOp (rEqU K) (tCall (spD K F__law_pour) [] E0 (tCons (tVar 0) (tCons (tC (.int 3)) tNil))) (tC (.int 0)))) (tTest (tOp (rNeU K) (tVar 2) (tLst tNil)))) (tAsg (tOp rSubI (tCall (spD K F__law_pour) [] E0 (tCons (tVar 0) (tCons (tC (.int 7)) tNil))) (tC (.int 3))) (gSub (tVar 2) (tCall (spD K F__law_pour) [] E0 (tCons (tVar 0) (tCons (tCB (rLenU K) (tCons (tVar 2) tNil)) tNil))) rSetL)) tNext)
    (tRet (tVar 2)))))
theorem dv__law_changed {P : Program} {w : World} {K : PySem.W.Frag} {mg : Str → Option Value} {base : Heap} {f : Addr} {cdv : Value} {A : Around} {outer : List Env} {s : Shared} {H : Hp} {E : XK}
    (hr : Room 1 (A.deeper (envOfC "_law_changed" (defScope s__law_changed) s.heap.objs.size f cdv)))
    (h__law_pour : Has P w K mg base "_law_pour" p__law_pour 1 F__law_pour)
    (n_abs : mg "abs" = none)
    (n_len : mg "len" = none) :
    PSs (cxOf CX0 P w K mg base n__law_changed "_law_changed" (defScope s__law_changed) f cdv A outer s H E).nox (defBody s__law_changed) (t__law_changed K) := by
  have S := sc__law_changed
  have hu : (A.deeper (envOfC "_law_changed" (defScope s__law_changed) s.heap.objs.size f cdv)).units + 64 < cLine := by have := hr.un; omega
  exact (pss_cons (ps_asg (pe_lst pa_nil) (pg_name (i := 2) S.nd rfl (.inl rfl)))
      (pss_cons (ps_for PassesOwn.never rfl (pi_seq (pe_slice sl_U (pv 1) po_none (po_some pe_int))) (pg_name (i := 3) S.nd rfl (.inl rfl)) (pss_cons (ps_asg (pe_has h__law_pour (hr.mono (by decide)) (pa_cons (pv 0) (pa_cons pe_int pa_nil))) (pg_name (i := 4) S.nd rfl (.inl rfl)))
      (pss_cons (ps_asg (pe_has h__law_pour (hr.mono (by decide)) (pa_cons (pv 0) (pa_cons (pe_op op_addU (pe_callB call_absU (by rfl) n_abs (by decide +kernel) (pa_cons (pv 3) pa_nil)) pe_int) pa_nil))) (pg_name (i := 5) S.nd rfl (.inl rfl)))
      (pss_one (ps_if (pt_cmpR (op_eqU hu) (pv 4) pe_int (nomark _)) (pss_one (ps_asg (pe_ifExp (pt_cmpR op_gtU (pv 3) pe_int (nomark _)) (pe_op op_addU (pv 2) (pe_lst (pa_cons (pv 5) (pa_cons (pe_op op_subU (pv 3) (pv 5)) pa_nil)))) (pe_op op_addU (pv 2) (pe_lst (pa_cons (pe_op op_subU pe_int (pv 5)) (pa_cons (pe_op op_addU (pv 3) (pv 5)) pa_nil))))) (pg_name (i := 2) S.nd rfl (.inl rfl)))) (pss_one (ps_if (pt_cmpR (op_eqU hu) (pv 4) pe_int (nomark _)) (pss_one (ps_asg (pe_op op_addU (pv 2) (pe_lst (pa_cons (pv 3) (pa_cons pe_int pa_nil)))) (pg_name (i := 2) S.nd rfl (.inl rfl)))) (pss_one (ps_if (pt_cmpR (op_eqU hu) (pv 4) pe_int (nomark _)) (pss_one (ps_asg (pe_op op_addU (pv 2) (pe_ifExp (pt_cmpR op_gtU (pv 3) pe_int (nomark _)) (pe_lst (pa_cons (pv 3) (pa_cons (pe_op op_subU pe_int (pv 5)) (pa_cons (pv 5) pa_nil)))) (pe_lst (pa_cons (pv 3) (pa_cons (pv 5) (pa_cons (pe_op op_subU pe_int (pv 5)) pa_nil)))))) (pg_name (i := 2) S.nd rfl (.inl rfl)))) (pss_one (ps_expr (pe_bm PySem.F.plainAttrs_list PySem.F.slot_list_append PySem.F.type_list_append mt_append (pv 2) (pa_cons (pv 3) pa_nil)))))))))))))
      (pss_cons (ps_if (PW.pt (pw_and (pt_cmpR (op_eqU hu) (pe_has h__law_pour (hr.mono (by decide)) (pa_cons (pv 0) (pa_cons pe_int pa_nil))) pe_int (nomark _)) (pw_and1 (pt_cmpR (op_neU hu) (pv 2) (pe_lst pa_nil) (nomark _))))) (pss_one (ps_asg (pe_op op_subU (pe_has h__law_pour (hr.mono (by decide)) (pa_cons (pv 0) (pa_cons pe_int pa_nil))) pe_int) (pg_sub (pv 2) (pe_has h__law_pour (hr.mono (by decide)) (pa_cons (pv 0) (pa_cons (pe_callB call_lenU (by rfl) n_len (by decide +kernel) (pa_cons (pv 2) pa_nil)) pa_nil))) set_list))) pss_nil)
      (pss_one (ps_ret (pv 2))))))
def t__law_form_right (K : PySem.W.Frag) : TS := (tSeq (tAsg (tCB (rListU K) (tCons (tVar 0) tNil)) (gName 2))
    (tSeq (tAsg (tCall (spD K F_short_form) [] E0 (tCons (tVar 0) tNil)) (gName 3))
    (tSeq (tIfS (tOr (tNot (tTru K (tCB (rIsi K) (tCons (tVar 3) (tCons (tC (.ty "list")) tNil))))) (tOr (tNot (tTru K (tCall (spD K F__law_is_form) [] E0 (tCons (tVar 3) tNil)))) (tTest (tOp (rNeU K) (tVar 0) (tVar 2))))) (tRet (tC (.bl false))) tNext)
    (tSeq (tIfS (tOr (tTest (tOp rGtI (tCB (rLenU K) (tCons (tVar 3) tNil)) (tCB (rLenU K) (tCons (tVar 0) tNil)))) (tOr (tTest (tOp (rIsU true) (tCall (spD K F_is_short) [] E0 (tCons (tVar 3) tNil)) (tC (.bl true)))) (tTest (tOp (rNeU K) (tCallN 0 1 (spD K F_short_form) (fun vs zs => perm [0] (vs ++ zs)) E0 tNil (tCons (tVar 3) tNil)) (tVar 3))))) (tRet (tC (.bl false))) tNext)
    (tSeq (tIfS (tOr (tTest (tOp (rNeU K) (tCallN 0 1 (spD K F_is_short) (fun vs zs => perm [0] (vs ++ zs)) E0 tNil (tCons (tVar 0) tNil)) (tOp (rEqU K) (tVar 0) (tVar 3)))) (tNot (tTru K (tCall (spD K F__law_same) [] E0 (tCons (tVar 0) (tCons (tVar 3) (tCons (tCB (rMinU K) (tCons (tC (.int 14)) (tCons (tOp (rAddU K) (tCall (spD K F__law_greatest) [] E0 (tCons (tVar 3) tNil)) (tC (.int 2))) tNil))) tNil))))))) (tRet (tC (.bl false))) tNext)
    (tRet (tOp (rEqU K) (tCall (spD K F_short_form) [] E0 (tCons (tLc (iSeq K (tVar 0)) (gName 4) tYes (tOp rMulU (tVar 1) (tVar 4)) [4]) tNil)) (tLc (iSeq K (tVar 3)) (gName 4) tYes (tOp rMulU (tVar 1) (tVar 4)) [4]))))))))
theorem dv__law_form_right {P : Program} {w : World} {K : PySem.W.Frag} {mg : Str → Option Value} {base : Heap} {f : Addr} {cdv : Value} {A : Around} {outer : List Env} {s : Shared} {H : Hp} {E : XK}
    (hr : Room 3 (A.deeper (envOfC "_law_form_right" (defScope s__law_form_right) s.heap.objs.size f cdv)))
    (h__law_greatest : Has P w K mg base "_law_greatest" p__law_greatest 1 F__law_greatest)
    (h__law_is_form : Has P w K mg base "_law_is_form" p__law_is_form 1 F__law_is_form)
    (h__law_same : Has P w K mg base "_law_same" p__law_same 2 F__law_same)
    (h_is_short : Has P w K mg base "is_short" p_is_short 3 F_is_short)
    (hk_is_short_0 : HasK P w K mg base "is_short" p_is_short 3 F_is_short 0 ["turns"] [0])
    (h_short_form : Has P w K mg base "short_form" p_short_form 3 F_short_form)
    (hk_short_form_0 : HasK P w K mg base "short_form" p_short_form 3 F_short_form 0 ["turns"] [0])
    (n_isinstance : mg "isinstance" = none)
    (n_len : mg "len" = none)
    (n_list : mg "list" = none)
    (n_min : mg "min" = none) :
    PSs (cxOf CX0 P w K mg base n__law_form_right "_law_form_right" (defScope s__law_form_right) f cdv A outer s H E).nox (defBody s__law_form_right) (t__law_form_right K) := by
  have S := sc__law_form_right
  have hu : (A.deeper (envOfC "_law_form_right" (defScope s__law_form_right) s.heap.objs.size f cdv)).units + 64 < cLine := by have := hr.un; omega
  exact (pss_cons (ps_asg (pe_callTy call_listU (by rfl) n_list (by decide +kernel) (pa_cons (pv 0) pa_nil)) (pg_name (i := 2) S.nd rfl (.inl rfl)))
      (pss_cons (ps_asg (pe_has h_short_form (hr.mono (by decide)) (pa_cons (pv 0) pa_nil)) (pg_name (i := 3) S.nd rfl (.inl rfl)))
      (pss_cons (ps_if (PW.pt (pw_or (pt_not (pt_tru (pe_callB call_isi (by rfl) n_isinstance (by decide +kernel) (pa_cons (pv 3) (pa_cons (pe_bltn (v := .ty "list") (by rfl) n_list (by decide +kernel) rfl) pa_nil))))) (pw_or (pt_not (pt_tru (pe_has h__law_is_form (hr.mono (by decide)) (pa_cons (pv 3) pa_nil)))) (pw_or1 (pt_cmpR (op_neU hu) (pv 0) (pv 2) (nomark _)))))) (pss_one (ps_ret pe_bl)) pss_nil)
      (pss_cons (ps_if (PW.pt (pw_or (pt_cmpR op_gtU (pe_callB call_lenU (by rfl) n_len (by decide +kernel) (pa_cons (pv 3) pa_nil)) (pe_callB call_lenU (by rfl) n_len (by decide +kernel) (pa_cons (pv 0) pa_nil)) (nomark _)) (pw_or (pt_cmpR op_isnU (pe_has h_is_short (hr.mono (by decide)) (pa_cons (pv 3) pa_nil)) pe_bl (nomark _)) (pw_or1 (pt_cmpR (op_neU hu) (pe_hasN0 hk_short_form_0 (hr.mono (by decide)) (pk_cons (pv 3) pk_nil)) (pv 3) (nomark _)))))) (pss_one (ps_ret pe_bl)) pss_nil)
      (pss_cons (ps_if (PW.pt (pw_or (pt_cmpR (op_neU hu) (pe_hasN0 hk_is_short_0 (hr.mono (by decide)) (pk_cons (pv 0) pk_nil)) (pe_cmpR (op_eqU hu) (pv 0) (pv 3) (nomark _)) (nomark _)) (pw_or1 (pt_not (pt_tru (pe_has h__law_same (hr.mono (by decide)) (pa_cons (pv 0) (pa_cons (pv 3) (pa_cons (pe_callB (call_minU rfl) (by rfl) n_min (by decide +kernel) (pa_cons pe_int (pa_cons (pe_op op_addU (pe_has h__law_greatest (hr.mono (by decide)) (pa_cons (pv 3) pa_nil)) pe_int) pa_nil))) pa_nil))))))))) (pss_one (ps_ret pe_bl)) pss_nil)
      (pss_one (ps_ret (pe_cmpR (op_eqU hu) (pe_has h_short_form (hr.mono (by decide)) (pa_cons (pe_lc (own := [("turn", 4)]) (g := (gName 4)) (tt := tYes) rfl S.nd (pi_seq (pv 0)) (blkOk_by (N := n__law_form_right) (sc := defScope s__law_form_right) (by decide +kernel)) (fun _ _ _ _ _ => (pg_name (i := 4) S.nd rfl (.inl rfl))) (fun _ _ _ _ _ => pts_nil) (fun _ _ _ _ _ => (pe_op op_mulU (pv 1) (pv 4)))) pa_nil)) (pe_lc (own := [("turn", 4)]) (g := (gName 4)) (tt := tYes) rfl S.nd (pi_seq (pv 3)) (blkOk_by (N := n__law_form_right) (sc := defScope s__law_form_right) (by decide +kernel)) (fun _ _ _ _ _ => (pg_name (i := 4) S.nd rfl (.inl rfl))) (fun _ _ _ _ _ => pts_nil) (fun _ _ _ _ _ => (pe_op op_mulU (pv 1) (pv 4)))) (nomark _)))))))))
def t_law (K : PySem.W.Frag) : TS := (tSeq (tFor (iRng1 (tCons (tCB (rMaxU K) (tCons (tC (.int 1)) (tCons (tCB (rMinU K) (tCons (tC (.int 3)) (tCons (tCB (rLenU K) (tCons (tVar 0) tNil)) tNil))) tNil))) tNil)) (gName 1) (tSeq (tAsg (tCall (spD K F__law_jug) [] E0 (tCons (tVar 0) (tCons (tVar 1) tNil))) (gName 2))
    (tSeq (tAsg (tOp (rIx K) (tLst (tCons (tC (.int 1)) (tCons (tOp (rAddU K) (tC (.int 2)) (tCall (spD K F__law_pour) [] E0 (tCons (tVar 2) (tCons (tC (.int 9)) tNil)))) (tCons (tOp (rAddU K) (tC (.int 1)) (tCall (spD K F__law_pour) [] E0 (tCons (tVar 2) (tCons (tOp rPowI (tC (.int 10)) (tC (.int 28))) tNil)))) tNil)))) (tCall (spD K F__law_pour) [] E0 (tCons (tVar 2) (tCons (tC (.int 3)) tNil)))) (gName 3))
    (tSeq (tAsg (tCall (spD K F__law_turns) [] E0 (tCons (tVar 2) (tCons (tC (.int 7)) (tCons (tOp (rIx K) (tLst (tCons (tC (.int 2)) (tCons (tC (.int 5)) (tCons (tC (.int 5)) tNil)))) (tCall (spD K F__law_pour) [] E0 (tCons (tVar 2) (tCons (tC (.int 3)) tNil)))) tNil)))) (gName 4))
    (tSeq (tAsg (tIf (tTest (tOp (rEqU K) (tCall (spD K F__law_pour) [] E0 (tCons (tVar 2) (tCons (tC (.int 2)) tNil))) (tC (.int 0)))) (tCall (spD K F__law_changed) [] E0 (tCons (tVar 2) (tCons (tVar 4) tNil))) (tCall (spD K F__law_turns) [] E0 (tCons (tVar 2) (tCons (tC (.int 7)) (tCons (tOp (rIx K) (tLst (tCons (tC (.int 2)) (tCons (tC (.int 5)) tNil))) (tCall (spD K F__law_pour) [] E0 (tCons (tVar 2) (tCons (tC (.int 2)) tNil)))) tNil))))) (gName 5))
    (tSeq (tIfS (tOr (tNot (tTru K (tCall (spD K F__law_form_right) [] E0 (tCons (tVar 4) (tCons (tVar 3) tNil))))) (tNot (tTru K (tCall (spD K F__law_form_right) [] E0 (tCons (tVar 5) (tCons (tVar 3) tNil)))))) (tRet (tC (.bl false))) tNext)
    (tSeq (tPar 6 7 (tCons (tCall (spD K F_short_form) [] E0 (tCons (tVar 4) tNil)) (tCons (tCall (spD K F_short_form) [] E0 (tCons (tVar 5) tNil)) tNil)))
    (tSeq (tAsg (tCall (spD K F_turns_alike) [] E0 (tCons (tVar 4) (tCons (tVar 5) tNil))) (gName 8))
    (tSeq (tIfS (tOr (tNot (tTru K (tCB (rIsi K) (tCons (tVar 8) (tCons (tC (.ty "bool")) tNil))))) (tOr (tTest (tOp (rNeU K) (tVar 8) (tOp (rEqU K) (tVar 6) (tVar 7)))) (tTest (tOp (rNeU K) (tCallN 0 2 (spD K F_turns_alike) (fun vs zs => perm [0, 1] (vs ++ zs)) E0 tNil (tCons (tVar 5) (tCons (tVar 4) tNil))) (tVar 8))))) (tRet (tC (.bl false))) tNext)
    (tSeq (tAsg (tOp (rAddU K) (tCB (rMinU K) (tCons (tCall (spD K F__law_greatest) [] E0 (tCons (tSl (rSlU K) (tVar 6) tNoPart (tPart (tC (.int 2)))) tNil)) (tCons (tCall (spD K F__law_greatest) [] E0 (tCons (tSl (rSlU K) (tVar 7) tNoPart (tPart (tC (.int 2)))) tNil)) tNil))) (tC (.int 1))) (gName 9))
    (tSeq (tIfS (tAnd (tTest (tOp rLtU (tVar 9) (tC (.int 16)))) (tTest (tOp (rNeU K) (tCall (spD K F__law_same) [] E0 (tCons (tVar 4) (tCons (tVar 5) (tCons (tVar 9) tNil)))) (tVar 8)))) (tRet (tC (.bl false))) tNext)
    (tSeq (tDrop (tBM K "list" (rAppend) (tVar 6) (tCons (tC (.int 9)) tNil)))
    (tIfS (tOr (tTest (tOp (rEqU K) (tCall (spD K F_short_form) [] E0 (tCons (tVar 4) tNil)) (tVar 6))) (tNot (tTru K (tCall (spD K F_turns_alike) [] E0 (tCons (tSl (rSlU K) (tVar 4) tNoPart (tPart (tC (.int 59)))) (tCons (tOp (rAddU K) (tLst (tCons (tC (.int 0)) tNil)) (tSl (rSlU K) (tVar 4) tNoPart (tPart (tC (.int 59))))) tNil)))))) (tRet (tC (.bl false))) tNext)))))))))))))
    (tRet (tC (.bl true))))
theorem dv_law {P : Program} {w : World} {K : PySem.W.Frag} {mg : Str → Option Value} {base : Heap} {f : Addr} {cdv : Value} {A : Around} {outer : List Env} {s : Shared} {H : Hp} {E : XK}
    (hr : Room 4 (A.deeper (envOfC "law" (defScope s_law) s.heap.objs.size f cdv)))
    (h__law_changed : Has P w K mg base "_law_changed" p__law_changed 2 F__law_changed)
    (h__law_form_right : Has P w K mg base "_law_form_right" p__law_form_right 4 F__law_form_right)
    (h__law_greatest : Has P w K mg base "_law_greatest" p__law_greatest 1 F__law_greatest)
    (h__law_jug : Has P w K mg base "_law_jug" p__law_jug 1 F__law_jug)
    (h__law_pour : Has P w K mg base "_law_pour" p__law_pour 1 F__law_pour)
    (h__law_same : Has P w K mg base "_law_same" p__law_same 2 F__law_same)
    (h__law_turns : Has P w K mg base "_law_turns" p__law_turns 2 F__law_turns)
    (h_short_form : Has P w K mg base "short_form" p_short_form 3 F_short_form)
    (h_turns_alike : Has P w K mg base "turns_alike" p_turns_alike 3 F_turns_alike)
    (hk_turns_alike_0 : HasK P w K mg base "turns_alike" p_turns_alike 3 F_turns_alike 0 ["one", "other"] [0, 1])
    (n_bool : mg "bool" = none)
    (n_isinstance : mg "isinstance" = none)
    (n_len : mg "len" = none)
    (n_max : mg "max" = none)
    (n_min : mg "min" = none)
    (n_range : mg "range" = none) :
    PSs (cxOf CX0 P w K mg base n_law "law" (defScope s_law) f cdv A outer s H E).nox (defBody s_law) (t_law K) := by
  have S := sc_law
  have hu : (A.deeper (envOfC "law" (defScope s_law) s.heap.objs.size f cdv)).units + 64 < cLine := by have := hr.un; omega
  exact (pss_cons (ps_for PassesOwn.never rfl (pi_range1 (by rfl) n_range (pa_cons (pe_callB (call_maxU rfl) (by rfl) n_max (by decide +kernel) (pa_cons pe_int (pa_cons (pe_callB (call_minU rfl) (by rfl) n_min (by decide +kernel) (pa_cons pe_int (pa_cons (pe_callB call_lenU (by rfl) n_len (by decide +kernel) (pa_cons (pv 0) pa_nil)) pa_nil))) pa_nil))) pa_nil)) (pg_name (i := 1) S.nd rfl (.inl rfl)) (pss_cons (ps_asg (pe_has h__law_jug (hr.mono (by decide)) (pa_cons (pv 0) (pa_cons (pv 1) pa_nil))) (pg_name (i := 2) S.nd rfl (.inl rfl)))
      (pss_cons (ps_asg (pe_ix ix_seq (pe_lst (pa_cons pe_int (pa_cons (pe_op op_addU pe_int (pe_has h__law_pour (hr.mono (by decide)) (pa_cons (pv 2) (pa_cons pe_int pa_nil)))) (pa_cons (pe_op op_addU pe_int (pe_has h__law_pour (hr.mono (by decide)) (pa_cons (pv 2) (pa_cons (pe_op op_powU pe_int pe_int) pa_nil)))) pa_nil)))) (pe_has h__law_pour (hr.mono (by decide)) (pa_cons (pv 2) (pa_cons pe_int pa_nil))) (fun _ _ => rfl)) (pg_name (i := 3) S.nd rfl (.inl rfl)))
      (pss_cons (ps_asg (pe_has h__law_turns (hr.mono (by decide)) (pa_cons (pv 2) (pa_cons pe_int (pa_cons (pe_ix ix_seq (pe_lst (pa_cons pe_int (pa_cons pe_int (pa_cons pe_int pa_nil)))) (pe_has h__law_pour (hr.mono (by decide)) (pa_cons (pv 2) (pa_cons pe_int pa_nil))) (fun _ _ => rfl)) pa_nil)))) (pg_name (i := 4) S.nd rfl (.inl rfl)))
      (pss_cons (ps_asg (pe_ifExp (pt_cmpR (op_eqU hu) (pe_has h__law_pour (hr.mono (by decide)) (pa_cons (pv 2) (pa_cons pe_int pa_nil))) pe_int (nomark _)) (pe_has h__law_changed (hr.mono (by decide)) (pa_cons (pv 2) (pa_cons (pv 4) pa_nil))) (pe_has h__law_turns (hr.mono (by decide)) (pa_cons (pv 2) (pa_cons pe_int (pa_cons (pe_ix ix_seq (pe_lst (pa_cons pe_int (pa_cons pe_int pa_nil))) (pe_has h__law_pour (hr.mono (by decide)) (pa_cons (pv 2) (pa_cons pe_int pa_nil))) (fun _ _ => rfl)) pa_nil))))) (pg_name (i := 5) S.nd rfl (.inl rfl)))
      (pss_cons (ps_if (PW.pt (pw_or (pt_not (pt_tru (pe_has h__law_form_right (hr.mono (by decide)) (pa_cons (pv 4) (pa_cons (pv 3) pa_nil))))) (pw_or1 (pt_not (pt_tru (pe_has h__law_form_right (hr.mono (by decide)) (pa_cons (pv 5) (pa_cons (pv 3) pa_nil)))))))) (pss_one (ps_ret pe_bl)) pss_nil)
      (pss_cons (ps_par (i := 6) (j := 7) (by rfl) S.nd rfl rfl (by decide) rfl rfl (pa_cons (pe_has h_short_form (hr.mono (by decide)) (pa_cons (pv 4) pa_nil)) (pa_cons (pe_has h_short_form (hr.mono (by decide)) (pa_cons (pv 5) pa_nil)) pa_nil)) (by rfl))
      (pss_cons (ps_asg (pe_has h_turns_alike (hr.mono (by decide)) (pa_cons (pv 4) (pa_cons (pv 5) pa_nil))) (pg_name (i := 8) S.nd rfl (.inl rfl)))
      (pss_cons (ps_if (PW.pt (pw_or (pt_not (pt_tru (pe_callB call_isi (by rfl) n_isinstance (by decide +kernel) (pa_cons (pv 8) (pa_cons (pe_bltn (v := .ty "bool") (by rfl) n_bool (by decide +kernel) rfl) pa_nil))))) (pw_or (pt_cmpR (op_neU hu) (pv 8) (pe_cmpR (op_eqU hu) (pv 6) (pv 7) (nomark _)) (nomark _)) (pw_or1 (pt_cmpR (op_neU hu) (pe_hasN0 hk_turns_alike_0 (hr.mono (by decide)) (pk_cons (pv 5) (pk_cons (pv 4) pk_nil))) (pv 8) (nomark _)))))) (pss_one (ps_ret pe_bl)) pss_nil)
      (pss_cons (ps_asg (pe_op op_addU (pe_callB (call_minU rfl) (by rfl) n_min (by decide +kernel) (pa_cons (pe_has h__law_greatest (hr.mono (by decide)) (pa_cons (pe_slice sl_U (pv 6) po_none (po_some pe_int)) pa_nil)) (pa_cons (pe_has h__law_greatest (hr.mono (by decide)) (pa_cons (pe_slice sl_U (pv 7) po_none (po_some pe_int)) pa_nil)) pa_nil))) pe_int) (pg_name (i := 9) S.nd rfl (.inl rfl)))
      (pss_cons (ps_if (PW.pt (pw_and (pt_cmpR op_ltU (pv 9) pe_int (nomark _)) (pw_and1 (pt_cmpR (op_neU hu) (pe_has h__law_same (hr.mono (by decide)) (pa_cons (pv 4) (pa_cons (pv 5) (pa_cons (pv 9) pa_nil)))) (pv 8) (nomark _))))) (pss_one (ps_ret pe_bl)) pss_nil)
      (pss_cons (ps_expr (pe_bm PySem.F.plainAttrs_list PySem.F.slot_list_append PySem.F.type_list_append mt_append (pv 6) (pa_cons pe_int pa_nil)))
      (pss_one (ps_if (PW.pt (pw_or (pt_cmpR (op_eqU hu) (pe_has h_short_form (hr.mono (by decide)) (pa_cons (pv 4) pa_nil)) (pv 6) (nomark _)) (pw_or1 (pt_not (pt_tru (pe_has h_turns_alike (hr.mono (by decide)) (pa_cons (pe_slice sl_U (pv 4) po_none (po_some pe_int)) (pa_cons (pe_op op_addU (pe_lst (pa_cons pe_int pa_nil)) (pe_slice sl_U (pv 4) po_none (po_some pe_int))) pa_nil)))))))) (pss_one (ps_ret pe_bl)) pss_nil))))))))))))))
      (pss_one (ps_ret pe_bl)))
end Lw

namespace Lw
open PySem PySem.Spec PyProof.Rows L2 Pd
open M10 (ab gr led form nf same)
/-! one step of a reading -/
local macro_rules | `(tactic| walk_at "mu") => `(tactic| first | with_reducible assumption | with_reducible exact mu_end | ((with_reducible refine' mu_set ?hm2); (case hm2 => walk_at "mu")) | ((with_reducible refine' mu_app ?hm2); (case hm2 => walk_at "mu")))
local macro_rules | `(tactic| walk_at "lw") => `(tactic| first | with_reducible assumption | with_reducible exact lw_ints _ _ | with_reducible exact ln_ints _ _ | with_reducible exact LW.d _ | with_reducible exact LN.d _ | with_reducible exact TW.d2 | with_reducible exact TW.d3 | with_reducible exact TW.d4 | with_reducible exact TW.d5 | with_reducible exact TW.d1 | with_reducible exact TW.d _ | with_reducible exact TW.t _ | with_reducible exact LW.f _ | (refine' LW.m ?hmu; (case hmu => walk_at "mu")) | (refine' LN.m ?hmu; (case hmu => walk_at "mu")))
local macro_rules | `(tactic| walk_at "sz") => `(tactic| first | exact rfl | with_reducible assumption | (refine sz_ok ?_; (try simp only [List.length_map, List.length_append, List.length_cons, List.length_nil]); omega) | (refine sz_lt ?_; (try simp only [List.length_map, List.length_append, List.length_cons, List.length_nil]); omega))
local macro_rules | `(tactic| walk_at "rs") => `(tactic| first | with_reducible assumption | with_reducible exact Rs.d _ | (refine' Rs.m ?hmu (rss_ints _); (case hmu => walk_at "mu")) | (refine' Rs.f (rss_ints _)))
local macro_rules | `(tactic| walk_at "sh") => `(tactic| first | with_reducible assumption | with_reducible exact shaped_ints _ | rfl | decide)
local macro_rules | `(tactic| walk_at "x") => `(tactic| (first
  | ((with_reducible refine' ax_var ?hv ?_); (case hv => exact rfl))
  | (with_reducible refine' ax_int ?_)
  | (with_reducible refine' ax_bl ?_)
  | (with_reducible refine' ax_str ?_)
  | (with_reducible refine' ax_non ?_)
  | (with_reducible refine' ax_cV ?_)
  | (with_reducible refine' ax_op ?_)
  | (with_reducible refine' ax_un ?_)
  | (with_reducible refine' au_neg ?_)
  | (with_reducible refine' o_addI ?_)
  | (with_reducible refine' o_subI ?_)
  | (with_reducible refine' o_gtI ?_)
  | (with_reducible refine' o_ltI ?_)
  | (with_reducible refine' o_leI ?_)
  | (with_reducible refine' o_geI ?_)
  | (with_reducible refine' o_eqI ?_)
  | (with_reducible refine' o_neI ?_)
  | (with_reducible refine' o_eqB ?_)
  | (with_reducible refine' o_neB ?_)
  | ((with_reducible refine' o_eqD ?a1 ?a2 ?a3 ?a4 ?_); (case a1 => walk_at "rs"); (case a2 => walk_at "rs"); (case a3 => walk_at "sh"); (case a4 => walk_at "sh"))
  | ((with_reducible refine' o_neD ?a1 ?a2 ?a3 ?a4 ?_); (case a1 => walk_at "rs"); (case a2 => walk_at "rs"); (case a3 => walk_at "sh"); (case a4 => walk_at "sh"))
  | (with_reducible refine' o_is ?_)
  | (with_reducible refine' o_isB ?_)
  | ((with_reducible refine' o_addL ?a1 ?a2 ?a3 ?_); (case a1 => walk_at "lw"); (case a2 => walk_at "lw"); (case a3 => walk_at "sz"))
  | (with_reducible refine' aa_cons ?_)
  | (with_reducible refine' aa_nil ?_)
  | (with_reducible refine' ax_cb ?_)
  | (with_reducible refine' c_abs ?_)
  | (with_reducible refine' c_int ?_)
  | (with_reducible refine' c_max2 ?_)
  | (with_reducible refine' c_min2 ?_)
  | ((with_reducible refine' c_lenL ?a1 ?_); (case a1 => walk_at "lw"))
  | ((with_reducible refine' c_lenT ?a1 ?_); (case a1 => walk_at "lw"))
  | (with_reducible refine' ax_lst ?_)
  | (with_reducible refine' ax_tup ?_)
  | ((with_reducible refine' And.intro ?a1 ?_); (case a1 => walk_at "sz"))
  | (with_reducible refine' at_test ?_)
  | (with_reducible refine' at_truB ?_)
  | (with_reducible refine' at_and ?_)
  | (with_reducible refine' at_or ?_)
  | (with_reducible refine' at_not ?_)
  | (with_reducible refine' at_yes ?_)
  | (with_reducible refine' ax_if ?_)
  | (with_reducible refine' as_seq ?_)
  | (with_reducible refine' as_asg ?_)
  | ((with_reducible refine' ag_name ?_); dsimp only [List.set_cons_zero, List.set_cons_succ])
  | (with_reducible refine' as_ret ?_)
  | (with_reducible refine' as_if ?_)
  | (with_reducible refine' as_drop ?_)
  | (with_reducible refine' as_next ?_)
  | (with_reducible refine' as_break ?_)
  | (with_reducible refine' as_cont ?_)
  | (with_reducible refine' as_retN ?_)
  | (with_reducible refine' ax_call ?_)
  | (with_reducible refine' ax_callN ?_)
  | ((with_reducible refine' c_isi ?a1 ?a2 ?_); (case a1 => with_reducible first | exact tyw_l | exact tyw_b | exact tyw_i | exact tyw_t | exact tyw_s | exact tyw_n); (case a2 => walk_at "kb"))
  | ((with_reducible refine' c_listL ?a1 ?_); (case a1 => walk_at "lw"))
  | (with_reducible refine' ax_sl ?_)
  | (with_reducible refine' xo_no ?_)
  | (with_reducible refine' xo_some ?_)
  | (with_reducible refine' ags_nil ?_)
  | (with_reducible refine' ags_cons ?_)
  | ((with_reducible refine' ag_tup ?a1 ?a2 ?_); (case a1 => walk_at "lw"); (case a2 => rfl))
  | (with_reducible refine' ag_sub ?_)
  | ((with_reducible refine' ax_bm ?_); (with_reducible refine' ax_var ?hv ?_); (case hv => exact rfl); refine ⟨?ty, ?_⟩; (case ty => walk_at "ty"))
  | ((with_reducible refine' ax_bm0 ?_); (with_reducible refine' ax_var ?hv ?_); (case hv => exact rfl); refine ⟨?ty, ?_⟩; (case ty => walk_at "ty"))
  | (with_reducible refine' Exists.intro _ (And.intro rfl ?_))))
local macro_rules | `(tactic| walk_at "ty") => `(tactic| first | exact ⟨rfl, _, by walk_at "mu"⟩ | exact rfl)
local macro_rules | `(tactic| walk_at "xs") => `(tactic| repeat walk_at "x")
local macro_rules | `(tactic| walk_at "kb") => `(tactic| with_reducible first | exact kb_NoneType_list | exact kb_NoneType_tuple | exact kb_NoneType_bool | exact kb_NoneType_int | exact kb_NoneType_str | exact kb_bool_list | exact kb_bool_tuple | exact kb_bool_bool | exact kb_bool_int | exact kb_bool_str | exact kb_int_list | exact kb_int_tuple | exact kb_int_bool | exact kb_int_int | exact kb_int_str | exact kb_str_list | exact kb_str_tuple | exact kb_str_bool | exact kb_str_int | exact kb_str_str | exact kb_list_list | exact kb_list_tuple | exact kb_list_bool | exact kb_list_int | exact kb_list_str | exact kb_tuple_list | exact kb_tuple_tuple | exact kb_tuple_bool | exact kb_tuple_int | exact kb_tuple_str)
theorem ab_eq (i : Int) : (if i < 0 then -i else i) = ab i := rfl
theorem wi_app (xs ys : List Int) : wInts (xs ++ ys) = wInts xs ++ wInts ys := by simp
theorem last_w {xs : List Int} {x : Int} : atI (wInts (xs ++ [x])) (-1) = some (.d (.int x)) := atI_int atI_end
theorem ixN_last {α : Type} {xs : List α} {x : α} : ixN (xs ++ [x]).length (-1) = some xs.length := by
  unfold ixN
  rw [if_neg (by omega), if_pos (by simp; omega)]
  simp
  omega
theorem pop_w {xs : List Int} {x : Int} : (wInts (xs ++ [x]))[(wInts (xs ++ [x])).length - 1]? = some (W.d (.int x)) := by simp
theorem dropLast_w {xs : List Int} {x : Int} : (wInts (xs ++ [x])).dropLast = wInts xs := by rw [wi_app]; simp
theorem set_self {μ : Mu} {k : Nat} {c : Option C} (h : μ[k]? = some c) : μ.set k c = μ := by
  apply List.ext_getElem?
  intro j
  rw [List.getElem?_set]
  by_cases e : k = j
  · subst e
    rw [if_pos rfl, if_pos (List.getElem?_eq_some_iff.mp h).1, h]
  · rw [if_neg e]
theorem rd_add_turn {K : PySem.W.Frag} : ∀ ws μ R, F_add_turn ws μ R → AS K (t_add_turn K) { nx := fun _ μ' => R (.d .none) μ', rt := R } (stG n_add_turn ws) μ := by
  rintro ws μ R ⟨k, t, xs, rfl, hk, hl, q⟩
  show AS K (t_add_turn K) _ [some (.m k), some (.d (.int t)), none, none] μ
  unfold t_add_turn
  iterate 4 walk_at "x"
  refine as_while (fun m Γ' μ' => ∃ w ys z, Γ' = [some (.m k), some (.d (.int t)), some (.d (.int w)), z] ∧ μ' = μ.set k (some (.lst (wInts ys))) ∧ ys.length + (if w = 0 then 0 else 1) ≤ xs.length + 1 ∧ m = (if w = 0 then 0 else ys.length + 1) ∧ M10.addT w ys.reverse = M10.addT t xs.reverse) _ ⟨t, xs, none, rfl, (set_self hk).symm, (by split <;> omega), rfl, rfl⟩ ?_
  rintro m Γ' μ' ⟨w, ys, z, rfl, rfl, hy, rfl, hf⟩
  have hc : (μ.set k (some (C.lst (wInts ys))))[k]? = some (some (C.lst (wInts ys))) := mu_set hk
  iterate 6 walk_at "x"
  by_cases hw : w = 0
  · subst hw
    refine ite_f (by simp) ?_
    rw [M10.addT_zero] at hf
    show R _ _
    rw [← List.reverse_reverse ys, hf]
    exact q
  · refine ite_t (by simp [hw]) ?_
    rw [if_neg hw] at hy ⊢
    rcases List.eq_nil_or_concat ys with rfl | ⟨zs, x, rfl⟩
    · -- nothing there
      walk_at "xs"
      refine NL.d0 ?_
      walk_at "xs"
      rw [eqv_nil]
      refine ite_f (by simp) ?_
      refine ite_f rfl ?_
      walk_at "xs"
      refine ite_f (by simp) ?_
      refine ite_f rfl ?_
      walk_at "xs"
      refine am_append hc (by walk_at "sz") ?_
      walk_at "xs"
      refine ⟨0, by simp, 0, [w], z, rfl, by rw [mu_set2]; rfl, by simp, rfl, ?_⟩
      rw [M10.addT_zero, ← hf]
      exact (M10.addT_nil hw).symm
    · rw [List.concat_eq_append] at hc hy hf ⊢
      rw [List.reverse_append] at hf
      have hf' : M10.addT w (x :: zs.reverse) = M10.addT t xs.reverse := hf
      have hzl : zs.length + 2 ≤ xs.length + 1 := by simpa using hy
      walk_at "xs"
      refine NL.d0 ?_
      walk_at "xs"
      rw [eqv_nil]
      refine ite_t (by simp) ?_
      walk_at "xs"
      refine o_ixL (LW.m hc) last_w ?_
      walk_at "xs"
      by_cases hs : decide (0 < x) = decide (0 < w)
      · refine ite_t (decide_eq_true hs) ?_
        walk_at "xs"
        refine am_l (am_pop hc pop_w ?_)
        rw [dropLast_w, mu_set2]
        walk_at "xs"
        rw [M10.addT_same hw hs] at hf'
        refine ⟨_, ?_, w + x, zs, z, rfl, rfl, ?_, rfl, hf'⟩
        · split <;> simp <;> omega
        · split <;> omega
      · refine ite_f (decide_eq_false hs) ?_
        walk_at "xs"
        rcases List.eq_nil_or_concat zs with rfl | ⟨us, y, rfl⟩
        · refine ite_f (by simp) ?_
          refine ite_f rfl ?_
          walk_at "xs"
          refine am_append hc (by walk_at "sz") ?_
          walk_at "xs"
          refine ⟨0, by simp, 0, [x, w], z, rfl, by rw [mu_set2]; rfl, by simp; omega, rfl, ?_⟩
          rw [M10.addT_zero, ← hf']
          exact (M10.addT_two hw hs).symm
        · rw [List.concat_eq_append] at hc hy hf hf' hzl ⊢
          rw [List.reverse_append] at hf'
          have hf2 : M10.addT w (x :: y :: us.reverse) = M10.addT t xs.reverse := hf'
          refine ite_t (by simp; omega) ?_
          walk_at "xs"
          refine o_ixL (LW.m hc) last_w ?_
          walk_at "xs"
          rw [ab_eq, ab_eq]
          by_cases h1 : ab x ≤ ab w
          · refine ite_t (decide_eq_true h1) ?_
            walk_at "xs"
            refine am_l (am_pop hc pop_w ?_)
            rw [dropLast_w, mu_set2]
            have hc2 : (μ.set k (some (C.lst (wInts (us ++ [y])))))[k]? = some (some (C.lst (wInts (us ++ [y])))) := mu_set hk
            walk_at "xs"
            refine o_ixL (LW.m hc2) last_w ?_
            walk_at "xs"
            rw [ab_eq, ab_eq]
            by_cases h2 : ab x ≤ ab y
            · refine ite_t (decide_eq_true h2) ?_
              walk_at "xs"
              refine am_l (am_pop hc2 pop_w ?_)
              rw [dropLast_w, mu_set2]
              walk_at "xs"
              rw [M10.addT_a hw hs h1 h2] at hf2
              refine ⟨_, ?_, w + x + y, us, some (.d (.int x)), rfl, rfl, ?_, rfl, hf2⟩
              · split <;> simp <;> omega
              · simp at hzl
                split <;> omega
            · refine ite_f (decide_eq_false h2) ?_
              walk_at "xs"
              refine o_ixL (LW.m hc2) last_w ?_
              walk_at "xs"
              refine aset_L (j := us.length) hc2 (by rw [List.length_map]; exact ixN_last) ?_
              rw [mu_set2]
              rw [M10.addT_b hw hs h1 h2] at hf2
              refine ⟨_, ?_, w, us ++ [y + x], some (.d (.int x)), rfl, ?_, ?_, rfl, ?_⟩
              · rw [if_neg hw]; simp
              · rw [wi_app, wi_app, List.set_append_right _ _ (by simp)]; simp
              · rw [if_neg hw]; simp at hzl ⊢; omega
              · rw [List.reverse_append]; exact hf2
          · refine ite_f (decide_eq_false h1) ?_
            walk_at "xs"
            refine am_append hc (by simp at hzl; walk_at "sz") ?_
            walk_at "xs"
            refine ⟨0, by simp, 0, us ++ [y, x, w], z, rfl, by rw [mu_set2]; simp, by simp at hzl; simp; omega, rfl, ?_⟩
            rw [M10.addT_zero, ← hf2, M10.addT_c hw hs h1]
            simp
theorem form_snoc (pre : List Int) (x : Int) : (M10.addT x (form pre).reverse).reverse = form (pre ++ [x]) := by
  unfold M10.form M10.formR
  rw [List.reverse_reverse, List.foldl_append]
  rfl
theorem form_le (ts : List Int) : (form ts).length ≤ ts.length := by
  unfold M10.form
  rw [List.length_reverse]
  exact M10.form_len ts
theorem rd_form_in {K : PySem.W.Frag} : ∀ ws μ R, F_form_in ws μ R → AS K (t_form_in K) { nx := fun _ μ' => R (.d .none) μ', rt := R } (stG n_form_in ws) μ := by
  rintro ws μ R ⟨ts, rfl, hl, q⟩
  show AS K (t_form_in K) _ [some (.d (dInts ts)), none, none] μ
  unfold t_form_in
  walk_at "xs"
  refine NL.m ?_
  walk_at "xs"
  refine as_for (fun n => W.d (.int n)) ts (fun pre Γ' μ' => ∃ z, Γ' = [some (.d (dInts ts)), some (.m μ.length), z] ∧ μ' = μ ++ [some (.lst (wInts (form pre)))]) (ai_l (ai_list ?_)) ?_ ?_
  · walk_at "x"
    exact ⟨_, lw_ints _ _, rfl, fun _ _ _ _ => lw_ints _ _, none, rfl, rfl⟩
  · rintro pre x post Γ' μ' e ⟨z, rfl, rfl⟩
    walk_at "xs"
    have hlen : pre.length + 1 ≤ ts.length := by rw [e]; simp
    have := form_le pre
    refine ⟨_, x, form pre, rfl, mu_end, by omega, ?_⟩
    refine ⟨_, rfl, ?_⟩
    rw [mu_setEnd, form_snoc]
  · rintro Γ' μ' ⟨z, rfl, rfl⟩
    walk_at "xs"
    exact q
theorem rd_short_form {K : PySem.W.Frag} : ∀ ws μ R, F_short_form ws μ R → AS K (t_short_form K) { nx := fun _ μ' => R (.d .none) μ', rt := R } (stG n_short_form ws) μ := by
  rintro ws μ R ⟨ts, rfl, hl, q⟩
  show AS K (t_short_form K) _ [some (.d (dInts ts))] μ
  unfold t_short_form
  walk_at "xs"
  exact ⟨ts, rfl, hl, q⟩
theorem rd_is_short {K : PySem.W.Frag} : ∀ ws μ R, F_is_short ws μ R → AS K (t_is_short K) { nx := fun _ μ' => R (.d .none) μ', rt := R } (stG n_is_short ws) μ := by
  rintro ws μ R ⟨ts, rfl, hl, q⟩
  refine as_fz ?_
  show AS K (t_is_short K) _ [some (.d (dInts ts))] μ
  unfold t_is_short
  walk_at "xs"
  refine ⟨ts, rfl, hl, ?_⟩
  walk_at "xs"
  rw [eqv_ints]
  exact Fz.same (.d _) q
theorem rd_turns_alike {K : PySem.W.Frag} : ∀ ws μ R, F_turns_alike ws μ R → AS K (t_turns_alike K) { nx := fun _ μ' => R (.d .none) μ', rt := R } (stG n_turns_alike ws) μ := by
  rintro ws μ R ⟨ts, us, rfl, hl, hu, q⟩
  refine as_fz ?_
  show AS K (t_turns_alike K) _ [some (.d (dInts ts)), some (.d (dInts us))] μ
  unfold t_turns_alike
  walk_at "xs"
  refine ⟨ts, rfl, hl, ?_⟩
  walk_at "xs"
  refine ⟨us, rfl, hu, ?_⟩
  walk_at "xs"
  rw [eqv_ints, List.append_assoc]
  exact Fz.same (.d _) q
theorem p18 : (10 : Int) ^ (18 : Int).toNat = 1000000000000000000 := by decide +kernel
theorem p39 : (10 : Int) ^ (39 : Int).toNat = 1000000000000000000000000000000000000000 := by decide +kernel
theorem p42 : (10 : Int) ^ (42 : Int).toNat = 1000000000000000000000000000000000000000000 := by decide +kernel
theorem p44 : (10 : Int) ^ (44 : Int).toNat = 100000000000000000000000000000000000000000000 := by decide +kernel
theorem p28 : (10 : Int) ^ (28 : Int).toNat = 10000000000000000000000000000 := by decide +kernel
theorem ten_ok {j : Int} (h0 : 0 ≤ j) (h1 : j ≤ 1000) : COp 10 j := pow_ok (a := 4) h0 (by decide) (by omega)
theorem mul_r {i j : Int} (h : -(2 ^ 64) < j ∧ j < 2 ^ 64) : CMul i j := .inr h
theorem mul_l {i j : Int} (h : -(2 ^ 64) < i ∧ i < 2 ^ 64) : CMul i j := .inl h
theorem rd__law_jug {K : PySem.W.Frag} : ∀ ws μ R, F__law_jug ws μ R → AS K (t__law_jug K) { nx := fun _ μ' => R (.d .none) μ', rt := R } (stG n__law_jug ws) μ := by
  rintro ws μ R ⟨ns, k, rfl, k0, k1, q⟩
  show AS K (t__law_jug K) _ [some (.f (wInts ns)), some (.d (.int k)), none] μ
  unfold t__law_jug
  refine as_cut (fun Γ' μ' => ∃ c, Γ' = [some (.f (wInts ns)), some (.d (.int k)), some (.d (.int c))] ∧ μ' = μ) ?_ ?_
  · walk_at "xs"
    refine ite_b (fun h => ?_) (fun h => ?_)
    · walk_at "xs"
      have hk : k.toNat < ns.length := by
        have := of_decide_eq_true h
        simp at this
        omega
      have hx : ns[k.toNat]? = some ns[k.toNat] := List.getElem?_eq_getElem hk
      have e := atI_get hx
      rw [show ((k.toNat : Nat) : Int) = k by omega] at e
      refine o_ixL (LW.f _) (atI_int e) ?_
      walk_at "xs"
      exact rfl
    · walk_at "xs"
      exact rfl
  · rintro Γ' μ' ⟨c, rfl, rfl⟩
    walk_at "xs"
    refine o_powI (ten_ok (by decide) (by decide)) ?_
    walk_at "xs"
    refine o_powI (ten_ok (by decide) (by decide)) ?_
    walk_at "xs"
    refine o_modI (by rw [p39]; decide) ?_
    walk_at "xs"
    refine o_mulI (mul_r (by decide)) ?_
    walk_at "xs"
    refine o_mulI (mul_l (by decide)) ?_
    walk_at "xs"
    refine NL.m ?_
    rw [p39]
    have h1 := Int.emod_nonneg c (show (1000000000000000000000000000000000000000 + 3 : Int) ≠ 0 by decide)
    have h2 := Int.emod_lt_of_pos c (show (0 : Int) < 1000000000000000000000000000000000000000 + 3 by decide)
    exact q _ _ (by omega) (by omega) (by omega)
/-- a call of the jug: what it needs -/
theorem w3 (a b c : Int) : wInts [a, b, c] = [.d (.int a), .d (.int b), .d (.int c)] := rfl
theorem div_ok {i j : Int} {b : Nat} (h : 0 < j) (hb : j < 2 ^ 200) : CDivW i j := wide_div (b := 200) h (by omega) (by decide) (by decide)
theorem rd__law_pour {K : PySem.W.Frag} : ∀ ws μ R, F__law_pour ws μ R → AS K (t__law_pour K) { nx := fun _ μ' => R (.d .none) μ', rt := R } (stG n__law_pour ws) μ := by
  rintro ws μ R ⟨k, many, a, b, c, rfl, hk, a0, b0, b1, c0, c1, m0, m1, q⟩
  show AS K (t__law_pour K) _ [some (.m k), some (.d (.int many)), none, none] μ
  unfold t__law_pour
  have g0 : LW μ (.m k) (wInts [a, b, c]) := .m hk
  walk_at "xs"
  refine o_ixL g0 (atI_int (x := a) rfl) ?_
  walk_at "xs"
  refine ite_b (fun h => ?_) (fun h => ?_)
  · have ha : 0 < a := of_decide_eq_true h
    walk_at "xs"
    refine o_ixL g0 (atI_int (x := a) rfl) ?_
    walk_at "xs"
    refine o_modI m0 ?_
    walk_at "xs"
    refine o_ixL g0 (atI_int (x := a) rfl) ?_
    walk_at "xs"
    refine o_divI (div_ok (b := 200) m0 m1) ?_
    walk_at "xs"
    refine aset_L (j := 0) hk rfl ?_
    walk_at "xs"
    exact q _ _ c (Int.emod_nonneg _ (by omega)) (Int.emod_lt_of_pos _ m0) (Int.ediv_nonneg a0 (by omega)) (by omega) (by omega)
  · refine as_next ?_
    walk_at "xs"
    refine o_ixL g0 (atI_int (x := c) rfl) ?_
    walk_at "xs"
    refine aset_L (j := 2) hk rfl ?_
    have ej : (some (C.lst ((wInts [a, b, c]).set 2 (W.d (PyData.int (c + 1)))))) = jug a b (c + 1) := rfl
    rw [ej]
    have hk2 : (μ.set k (jug a b (c + 1)))[k]? = some (jug a b (c + 1)) := mu_set hk
    have g2 : LW (μ.set k (jug a b (c + 1))) (.m k) (wInts [a, b, c + 1]) := .m hk2
    walk_at "xs"
    refine o_ixL g2 (atI_int (x := b) rfl) ?_
    walk_at "xs"
    refine o_ixL g2 (atI_int (x := c + 1) rfl) ?_
    refine o_mulI (mul_l (by decide)) ?_
    walk_at "xs"
    refine o_powI (pow_ok (a := 201) (by decide) (by omega) (by decide)) ?_
    walk_at "xs"
    refine o_powI (ten_ok (by decide) (by decide)) ?_
    walk_at "xs"
    rw [p42]
    refine o_modI (by decide) ?_
    walk_at "xs"
    generalize (b + 24036583 * (c + 1)) ^ (3 : Int).toNat = z
    have h1 := Int.emod_nonneg z (show (1000000000000000000000000000000000000000000 + 63 : Int) ≠ 0 by decide)
    have h2 := Int.emod_lt_of_pos z (show (0 : Int) < 1000000000000000000000000000000000000000000 + 63 by decide)
    generalize z % (1000000000000000000000000000000000000000000 + 63 : Int) = z2 at *
    refine o_ixL g2 (atI_int (x := c + 1) rfl) ?_
    refine o_mulI (mul_l (by decide)) ?_
    walk_at "xs"
    refine o_powI (pow_ok (a := 201) (by decide) (by omega) (by decide)) ?_
    walk_at "xs"
    refine o_powI (ten_ok (by decide) (by decide)) ?_
    walk_at "xs"
    rw [p44]
    refine o_modI (by decide) ?_
    walk_at "xs"
    refine o_divI (div_ok (b := 200) (by decide) (by decide)) ?_
    walk_at "xs"
    refine o_modI m0 ?_
    exact q _ _ _ (Int.emod_nonneg _ (by omega)) (Int.emod_lt_of_pos _ m0) a0 (by omega) (by omega)
theorem rd__law_turns {K : PySem.W.Frag} : ∀ ws μ R, F__law_turns ws μ R → AS K (t__law_turns K) { nx := fun _ μ' => R (.d .none) μ', rt := R } (stG n__law_turns ws) μ := by
  rintro ws μ R ⟨k, most, size, a, b, c, rfl, hk, a0, b0, b1, c0, c1, m0, m1, s0, s1, q⟩
  show AS K (t__law_turns K) _ [some (.m k), some (.d (.int most)), some (.d (.int size)), none, none] μ
  unfold t__law_turns
  refine as_cut (fun Γ' μ' => ∃ n a' c', Γ' = [some (.m k), some (.d (.int most)), some (.d (.int size)), some (.d (.int n)), none] ∧ μ' = μ.set k (jug a' b c') ∧ 0 ≤ a' ∧ c ≤ c' ∧ c' ≤ c + 2 ∧ 0 ≤ n ∧ n ≤ 60) ?_ ?_
  · walk_at "xs"
    refine ⟨k, 40, a, b, c, rfl, hk, a0, b0, b1, c0, by omega, by decide, by decide, fun r a' c' r0 r1 ha hc hc' => ?_⟩
    walk_at "xs"
    refine ite_b (fun h => ?_) (fun h => ?_)
    · walk_at "xs"
      exact ⟨60, a', c', rfl, rfl, ha, hc, by omega, by decide, by decide⟩
    · walk_at "xs"
      refine ⟨k, most + 1, a', b, c', rfl, mu_set hk, ha, b0, b1, by omega, by omega, by omega, by omega, fun r2 a2 c2 r0 r1 ha2 hc2 hc3 => ?_⟩
      walk_at "xs"
      exact ⟨r2, a2, c2, rfl, by rw [mu_set2], ha2, by omega, by omega, by omega, by omega⟩
  · rintro Γ' μ' ⟨n, a', c', rfl, rfl, ha, hc, hc', n0, n1⟩
    walk_at "xs"
    refine ax_lc (fun (i : Nat) => W.d (.int (0 + i))) (List.range n.toNat) (fun pre acc μ' => ∃ ts a2 c2, acc = wInts ts ∧ ts.length = pre.length ∧ (∀ t ∈ ts, -100 ≤ t ∧ t ≤ 100) ∧ μ' = μ.set k (jug a2 b c2) ∧ 0 ≤ a2 ∧ c ≤ c2 ∧ c2 ≤ c + 2 + pre.length) (by rw [List.length_range]; exact sz_ok (by omega)) (wk_name (by decide)) ?_ ?_ ?_
    · refine ai_rng1 ?_
      walk_at "xs"
      exact ⟨by omega, rfl, fun _ _ _ _ => trivial, [], a', c', rfl, rfl, by simp, rfl, ha, hc, by simp; omega⟩
    · rintro pre x post acc μ' e hl ⟨ts, a2, c2, rfl, ht, hb, rfl, ha2, hc2, hc3⟩
      have hpl : pre.length + 1 ≤ 60 := by
        have := congrArg List.length e
        simp at this
        omega
      show AG K _ _ [some (.m k), some (.d (.int most)), some (.d (.int size)), some (.d (.int n)), none] _ _
      walk_at "xs"
      refine ite_t rfl ?_
      walk_at "xs"
      refine o_mulI (mul_l (by decide)) ?_
      walk_at "xs"
      refine ⟨k, 2 * size + 1, a2, b, c2, rfl, mu_set hk, ha2, b0, b1, by omega, by omega, by omega, by omega, fun r3 a3 c3 r0 r1 ha3 hc3 hc4 => ?_⟩
      walk_at "xs"
      refine ⟨ts ++ [r3 - size], a3, c3, by simp, by simp [ht], fun t hm => ?_, by rw [mu_set2], ha3, by omega, by simp; omega⟩
      rcases List.mem_append.mp hm with hm | hm
      · exact hb t hm
      · simp at hm
        omega
    · rintro acc μ' ⟨ts, a2, c2, rfl, ht, hb, rfl, ha2, hc2, hc3⟩
      rw [List.length_range] at ht hc3
      exact NL.di (q ts a2 c2 (by omega) hb ha2 hc2 (by omega))
theorem led_snoc (n : Int) (pre : List Int) (x s : Int) : led n (pre ++ [x]) s = max 0 (min n (led n pre s + x)) := by
  unfold M10.led
  rw [List.foldl_append]
  rfl
theorem rd__law_led {K : PySem.W.Frag} : ∀ ws μ R, F__law_led ws μ R → AS K (t__law_led K) { nx := fun _ μ' => R (.d .none) μ', rt := R } (stG n__law_led ws) μ := by
  rintro ws μ R ⟨n, ts, s, rfl, q⟩
  show AS K (t__law_led K) _ [some (.d (.int n)), some (.d (dInts ts)), some (.d (.int s)), none] μ
  unfold t__law_led
  walk_at "xs"
  refine as_for (fun n => W.d (.int n)) ts (fun pre Γ' μ' => ∃ z, Γ' = [some (.d (.int n)), some (.d (dInts ts)), some (.d (.int (led n pre s))), z] ∧ μ' = μ) (ai_l (ai_list ?_)) ?_ ?_
  · walk_at "x"
    exact ⟨_, lw_ints _ _, rfl, fun _ _ _ _ => lw_ints _ _, none, rfl, rfl⟩
  · rintro pre x post Γ' μ' e ⟨z, rfl, rfl⟩
    walk_at "xs"
    exact ⟨_, by rw [led_snoc], rfl⟩
  · rintro Γ' μ' ⟨z, rfl, rfl⟩
    walk_at "xs"
    exact q
theorem gr_mem : ∀ ts : List Int, gr ts ∈ 0 :: ts.map ab
  | [] => by simp [M10.gr]
  | t :: ts => by
    have ih := gr_mem ts
    show max (ab t) (gr ts) ∈ _
    by_cases h : ab t ≤ gr ts
    · rw [show max (ab t) (gr ts) = gr ts by omega]
      rcases List.mem_cons.mp ih with z | z
      · rw [z]; simp
      · simp at z ⊢; exact .inr (.inr z)
    · rw [show max (ab t) (gr ts) = ab t by omega]; simp
theorem gr_ge : ∀ (ts : List Int), ∀ y ∈ 0 :: ts.map ab, y ≤ gr ts
  | [], y, h => by simp at h; subst h; exact Int.le_refl _
  | t :: ts, y, h => by
    have ih := gr_ge ts
    show y ≤ max (ab t) (gr ts)
    rcases List.mem_cons.mp h with z | z
    · have := ih y (by rw [z]; simp)
      omega
    · rcases List.mem_cons.mp z with z | z
      · omega
      · have := ih y (List.mem_cons_of_mem _ z)
        omega
theorem rd__law_greatest {K : PySem.W.Frag} : ∀ ws μ R, F__law_greatest ws μ R → AS K (t__law_greatest K) { nx := fun _ μ' => R (.d .none) μ', rt := R } (stG n__law_greatest ws) μ := by
  rintro ws μ R ⟨ts, rfl, hl, q⟩
  show AS K (t__law_greatest K) _ [some (.d (dInts ts)), none] μ
  unfold t__law_greatest
  walk_at "xs"
  refine NL.d1 ?_
  walk_at "xs"
  refine ax_lc (fun n => W.d (.int n)) ts (fun pre acc μ' => acc = wInts (pre.map ab) ∧ μ' = μ) (sz_ok (by omega)) (wk_name (by decide)) (ai_l (ai_list ?_)) ?_ ?_
  · walk_at "x"
    exact ⟨_, lw_ints _ _, rfl, fun _ _ _ _ => lw_ints _ _, rfl, rfl⟩
  · rintro pre x post acc μ' e hl ⟨rfl, rfl⟩
    show AG K _ _ [some (.d (dInts ts)), none] _ _
    walk_at "xs"
    refine ite_t rfl ?_
    walk_at "xs"
    exact ⟨by simp; rfl, rfl⟩
  · rintro acc μ' ⟨rfl, rfl⟩
    refine NL.di ?_
    refine o_addL (.d [.int 0]) (ln_ints _ _) (sz_ok (by simp; omega)) ?_
    have e : List.map W.d [PyData.int 0] ++ wInts (ts.map ab) = wInts (0 :: ts.map ab) := rfl
    rw [e]
    refine NL.di ?_
    walk_at "xs"
    refine c_maxL (lw_ints _ _) (by simp) fun m m1 m2 => ?_
    have h1 := gr_ge ts m m1
    have h2 := m2 _ (gr_mem ts)
    rw [show m = gr ts by omega]
    exact q
theorem same_false {most : Int} {one other : List Int} {n s : Int} (h0 : 0 ≤ s) (h1 : s ≤ n) (h2 : n ≤ most) (h : ¬ led n one s = led n other s) : same most one other = false := by
  cases q : same most one other with
  | false => rfl
  | true => exact absurd (M10.same_iff.mp q n s h0 h1 h2) h
theorem rng_split {n : Nat} {pre post : List Nat} {x : Nat} (h : List.range n = pre ++ x :: post) : x = pre.length ∧ x < n := by
  have e : (List.range n)[pre.length]? = some x := by rw [h]; simp
  have hl : pre.length < n := by
    have := (List.getElem?_eq_some_iff.mp e).1
    simpa using this
  rw [List.getElem?_range hl] at e
  have := Option.some.inj e
  omega
theorem rd__law_same {K : PySem.W.Frag} : ∀ ws μ R, F__law_same ws μ R → AS K (t__law_same K) { nx := fun _ μ' => R (.d .none) μ', rt := R } (stG n__law_same ws) μ := by
  rintro ws μ R ⟨one, other, most, rfl, m0, m1, q⟩
  show AS K (t__law_same K) _ [some (.d (dInts one)), some (.d (dInts other)), some (.d (.int most)), none, none] μ
  unfold t__law_same
  walk_at "xs"
  refine as_for (fun (i : Nat) => W.d (.int (0 + i))) (List.range (most + 1).toNat) (fun pre Γ' μ' => ∃ y z, Γ' = [some (.d (dInts one)), some (.d (dInts other)), some (.d (.int most)), y, z] ∧ μ' = μ ∧ ∀ n s : Int, 0 ≤ s → s ≤ n → n < pre.length → led n one s = led n other s) (ai_rng1 ?_) ?_ ?_
  · walk_at "xs"
    exact ⟨by omega, rfl, fun _ _ _ _ => trivial, none, none, rfl, rfl, fun n s h0 h1 h2 => by simp at h2; omega⟩
  · rintro pre x post Γ' μ' e ⟨y, z, rfl, rfl, hp⟩
    obtain ⟨ex, xl⟩ := rng_split e
    walk_at "xs"
    refine as_for (fun (i : Nat) => W.d (.int (0 + i))) (List.range ((0 : Int) + x + 1).toNat) (fun pre2 Γ' μ'' => ∃ z, Γ' = [some (.d (dInts one)), some (.d (dInts other)), some (.d (.int most)), some (.d (.int (0 + x))), z] ∧ μ'' = μ' ∧ ∀ s : Int, 0 ≤ s → s < pre2.length → led x one s = led x other s) (ai_rng1 ?_) ?_ ?_
    · walk_at "xs"
      exact ⟨by omega, rfl, fun _ _ _ _ => trivial, _, rfl, rfl, fun s h0 h1 => by simp at h1; omega⟩
    · rintro pre2 x2 post2 Γ' μ'' e2 ⟨z, rfl, rfl, hp2⟩
      obtain ⟨ex2, xl2⟩ := rng_split e2
      walk_at "xs"
      refine ⟨_, one, _, rfl, ?_⟩
      walk_at "xs"
      refine ⟨_, other, _, rfl, ?_⟩
      walk_at "xs"
      rw [Int.zero_add, Int.zero_add]
      by_cases h : led x one x2 = led x other x2
      · refine ite_f (by simp [h]) ?_
        refine as_next ?_
        refine ⟨_, rfl, rfl, fun s h0 h1 => ?_⟩
        by_cases hs : s < pre2.length
        · exact hp2 s h0 hs
        · have : s = x2 := by simp at h1; omega
          rw [this]; exact h
      · refine ite_t (by simp [h]) ?_
        walk_at "xs"
        rw [same_false (most := most) (n := x) (s := x2) (by omega) (by omega) (by omega) h] at q
        exact q
    · rintro Γ' μ'' ⟨z, rfl, rfl, hp2⟩
      refine ⟨_, _, rfl, rfl, fun n s h0 h1 h2 => ?_⟩
      by_cases hn : n < pre.length
      · exact hp n s h0 h1 hn
      · have : n = x := by simp at h2; omega
        subst this
        refine hp2 s h0 ?_
        rw [List.length_range]; omega
  · rintro Γ' μ' ⟨y, z, rfl, rfl, hp⟩
    walk_at "xs"
    have : same most one other = true := M10.same_iff.mpr fun n s h0 h1 h2 => hp n s h0 h1 (by rw [List.length_range]; omega)
    rw [this] at q
    exact q
theorem nf_idx : ∀ (r : List Int), nf r → ∀ (i : Nat) x, r.reverse[i]? = some x → x ≠ 0 ∧ ∀ y, 0 < i → r.reverse[i - 1]? = some y → M10.Op x y ∧ (1 < i → ab x < ab y)
  | [], _, i, x, h => by simp at h
  | t :: r, hn, i, x, h => by
    rw [List.reverse_cons] at h ⊢
    by_cases hi : i < r.reverse.length
    · rw [List.getElem?_append_left hi] at h
      obtain ⟨a, b⟩ := nf_idx r (M10.nf_tail hn) i x h
      refine ⟨a, fun y h0 hy => b y h0 ?_⟩
      rw [List.getElem?_append_left (by omega)] at hy
      exact hy
    · have hl : i = r.reverse.length := by
        have := (List.getElem?_eq_some_iff.mp h).1
        simp at this hi ⊢
        omega
      subst hl
      rw [List.getElem?_append_right (Nat.le_refl _)] at h
      simp at h
      subst h
      refine ⟨M10.nf_ne hn, fun y h0 hy => ?_⟩
      rw [List.getElem?_append_left (by omega)] at hy
      match r, hn with
      | [], _ => simp at h0
      | p :: r2, hn =>
        have : y = p := by
          rw [List.reverse_cons] at hy
          rw [List.getElem?_append_right (by simp)] at hy
          simp at hy
          exact hy.symm
        subst this
        refine ⟨M10.nf_op hn, fun h1 => ?_⟩
        match r2, hn with
        | [], _ => simp at h1
        | q :: r3, hn => exact M10.nf_lt hn
theorem enum_eq (f : List Int) : (wInts f).mapIdx (fun i z => pairW (.d (.int (i : Nat))) z) = f.zipIdx.map fun p => W.d (.tuple [.int (p.2 : Nat), .int p.1]) := by
  apply List.ext_getElem?
  intro i
  rw [List.getElem?_mapIdx, List.getElem?_map, List.getElem?_map, List.getElem?_zipIdx]
  cases f[i]? with
  | none => rfl
  | some x => simp [pairW]
theorem zip_split {f : List Int} {pre post : List (Int × Nat)} {x : Int × Nat} (h : f.zipIdx = pre ++ x :: post) : x.2 = pre.length ∧ f[x.2]? = some x.1 := by
  have e : f.zipIdx[pre.length]? = some x := by rw [h]; simp
  rw [List.getElem?_zipIdx] at e
  cases q : f[pre.length]? with
  | none => rw [q] at e; cases e
  | some y =>
    rw [q] at e
    have : (y, 0 + pre.length) = x := Option.some.inj e
    subst this
    exact ⟨by simp, by simpa using q⟩
theorem rd__law_is_form {K : PySem.W.Frag} : ∀ ws μ R, F__law_is_form ws μ R → AS K (t__law_is_form K) { nx := fun _ μ' => R (.d .none) μ', rt := R } (stG n__law_is_form ws) μ := by
  rintro ws μ R ⟨f, rfl, hn, q⟩
  show AS K (t__law_is_form K) _ [some (.d (dInts f)), none, none] μ
  unfold t__law_is_form
  have hi := nf_idx f.reverse hn
  rw [List.reverse_reverse] at hi
  walk_at "xs"
  refine as_for (fun p : Int × Nat => W.d (.tuple [.int (p.2 : Nat), .int p.1])) f.zipIdx (fun pre Γ' μ' => ∃ y z, Γ' = [some (.d (dInts f)), y, z] ∧ μ' = μ) (ai_enum ?_) ?_ ?_
  · walk_at "xs"
    exact ⟨_, _, rfl, lw_ints _ _, enum_eq f, fun _ _ _ _ => lw_ints _ _, none, none, rfl, rfl⟩
  · rintro pre ⟨x, i⟩ post Γ' μ' e ⟨y, z, rfl, rfl⟩
    obtain ⟨e1, e2⟩ := zip_split e
    obtain ⟨x0, hx⟩ := hi i x e2
    walk_at "xs"
    refine ite_f (by simp [x0]) ?_
    walk_at "xs"
    by_cases h0 : 0 < i
    · have hlt : i - 1 < f.length := by
        have h9 : i < f.length := (List.getElem?_eq_some_iff.mp e2).1
        omega
      obtain ⟨y, hp⟩ : ∃ y, f[i - 1]? = some y := ⟨f[i - 1]'hlt, List.getElem?_eq_getElem hlt⟩
      obtain ⟨ho, hl⟩ := hx y h0 hp
      have ea : atI f ((i : Int) - 1) = some y := by
        have := atI_get hp
        rw [show (((i - 1 : Nat)) : Int) = (i : Int) - 1 by omega] at this
        exact this
      refine ite_t (by simp; omega) ?_
      walk_at "xs"
      refine o_ixL (lw_ints _ _) (atI_int ea) ?_
      walk_at "xs"
      refine ite_f (decide_eq_false fun z => ?_) ?_
      · rcases M10.sgn_eq z with z | z <;> unfold M10.Op at ho <;> omega
      refine as_next ?_
      walk_at "xs"
      by_cases h1 : 1 < i
      · refine ite_t (by simp; omega) ?_
        walk_at "xs"
        refine o_ixL (lw_ints _ _) (atI_int ea) ?_
        walk_at "xs"
        rw [ab_eq, ab_eq]
        have := hl h1
        refine ite_f (decide_eq_false (by omega)) ?_
        refine as_next ?_
        exact ⟨_, _, rfl, rfl⟩
      · refine ite_f (by simp; omega) ?_
        refine ite_f rfl ?_
        refine as_next ?_
        exact ⟨_, _, rfl, rfl⟩
    · refine ite_f (by simp; omega) ?_
      refine ite_f rfl ?_
      refine as_next ?_
      walk_at "xs"
      refine ite_f (by simp; omega) ?_
      refine ite_f rfl ?_
      refine as_next ?_
      exact ⟨_, _, rfl, rfl⟩
  · rintro Γ' μ' ⟨y, z, rfl, rfl⟩
    walk_at "xs"
    exact q
theorem cut_to {ns : List Int} {k : Nat} : cutW (wInts ns) none (some (k : Int)) = wInts (ns.take k) := by
  rw [cut_int, HT.sIx_none, HT.sIx_nat, List.drop_zero, Nat.sub_zero]
  exact congrArg wInts (List.take_eq_take_iff.mpr (by omega))
def Bd (ts : List Int) : Prop := ∀ t ∈ ts, -100 ≤ t ∧ t ≤ 100
theorem Bd.app {a b : List Int} (ha : Bd a) (hb : Bd b) : Bd (a ++ b) := fun t h => (List.mem_append.mp h).elim (ha t) (hb t)
/-- the cells while _law_changed runs: the jug's, some that are left, the list's own -/
def ChI (μ : Mu) (k : Nat) (b : Int) (cs : Mu) (a' c' : Int) (us : List Int) : Mu := (μ.set k (jug a' b c') ++ cs) ++ [some (.lst (wInts us))]
theorem chi_k {μ : Mu} {k : Nat} {b : Int} {cs : Mu} {a' c' : Int} {us : List Int} {c : Option C} (hk : μ[k]? = some c) : (ChI μ k b cs a' c' us)[k]? = some (jug a' b c') := mu_app (mu_app (mu_set hk))
theorem chi_n {μ : Mu} {k : Nat} {b : Int} {cs : Mu} {a' c' : Int} {us : List Int} : (ChI μ k b cs a' c' us)[μ.length + cs.length]? = some (some (.lst (wInts us))) := by
  unfold ChI
  have : μ.length + cs.length = (μ.set k (jug a' b c') ++ cs).length := by simp
  rw [this]
  exact mu_end
theorem chi_set {μ : Mu} {k : Nat} {b : Int} {cs : Mu} {a' c' a2 c2 : Int} {us : List Int} {c : Option C} (hk : μ[k]? = some c) : (ChI μ k b cs a' c' us).set k (jug a2 b c2) = ChI μ k b cs a2 c2 us := by
  unfold ChI
  rw [mu_setApp (mu_app (mu_set hk)), mu_setApp (mu_set hk), mu_set2]
theorem chi_len {μ : Mu} {k : Nat} {b : Int} {cs : Mu} {a' c' : Int} {us : List Int} : (ChI μ k b cs a' c' us).length = μ.length + (cs ++ [some (C.lst (wInts us))]).length := by
  unfold ChI
  simp only [List.length_append, List.length_set, List.length_cons, List.length_nil]
  omega
theorem chi_new {μ : Mu} {k : Nat} {b : Int} {cs : Mu} {a' c' : Int} {us vs : List Int} : ChI μ k b cs a' c' us ++ [some (.lst (wInts vs))] = ChI μ k b (cs ++ [some (C.lst (wInts us))]) a' c' vs := by
  unfold ChI
  simp
theorem chi_put {μ : Mu} {k : Nat} {b : Int} {cs : Mu} {a' c' : Int} {us vs : List Int} : (ChI μ k b cs a' c' us).set (μ.length + cs.length) (some (.lst (wInts vs))) = ChI μ k b cs a' c' vs := by
  unfold ChI
  have : μ.length + cs.length = (μ.set k (jug a' b c') ++ cs).length := by simp
  rw [this, mu_setEnd]
theorem lnd {μ : Mu} {xs : List Int} {ds : List PyData} (h : ds = xs.map PyData.int) : LN μ (.d (.list ds)) (wInts xs) := by
  subst h
  exact ln_ints _ _
theorem rd__law_changed {K : PySem.W.Frag} : ∀ ws μ R, F__law_changed ws μ R → AS K (t__law_changed K) { nx := fun _ μ' => R (.d .none) μ', rt := R } (stG n__law_changed ws) μ := by
  rintro ws μ R ⟨k, ts, a, b, c, rfl, hk, a0, b0, b1, c0, c1, hl, hb, q⟩
  refine as_fz ?_
  show AS K (t__law_changed K) _ [some (.m k), some (.d (dInts ts)), none, none, none, none] μ
  unfold t__law_changed
  walk_at "xs"
  refine NL.m ?_
  walk_at "xs"
  have hb' : Bd (ts.take 20) := fun t h => hb t (List.mem_of_mem_take h)
  refine as_for (fun n => W.d (.int n)) (ts.take 20) (fun pre Γ' μ' => ∃ x y z cs a' c' us, Γ' = [some (.m k), some (.d (dInts ts)), some (.m (μ.length + cs.length)), x, y, z] ∧ μ' = ChI μ k b cs a' c' us ∧ 0 ≤ a' ∧ c ≤ c' ∧ c' ≤ c + 2 * pre.length ∧ us.length ≤ 3 * pre.length ∧ Bd us) (ai_l (ai_list ?_)) ?_ ?_
  · walk_at "xs"
    refine o_slL (lw_ints _ _) ?_
    rw [show (20 : Int) = ((20 : Nat) : Int) from rfl, cut_to]
    refine NL.di ?_
    refine ⟨_, lw_ints _ _, rfl, fun _ _ _ _ => lw_ints _ _, none, none, none, [], a, c, [], rfl, ?_, a0, Int.le_refl _, by simp, by simp, fun t h => by simp at h⟩
    unfold ChI
    rw [set_self hk]
    simp
  · rintro pre x post Γ' μ' e ⟨x0, y0, z0, cs, a', c', us, rfl, rfl, ha, hc, hc', hul, hub⟩
    have hpl : pre.length + 1 ≤ 20 := by
      have := congrArg List.length e
      simp at this
      omega
    have hx := hb' x (by rw [e]; simp)
    walk_at "xs"
    refine ⟨k, 4, a', b, c', rfl, chi_k hk, ha, b0, b1, by omega, by omega, by decide, by decide, fun way a2 c2 r0 r1 ha2 hc2 hc3 => ?_⟩
    rw [chi_set hk]
    walk_at "xs"
    rw [ab_eq]
    have hab : 0 ≤ ab x ∧ ab x ≤ 100 ∧ (0 < x → ab x = x) ∧ (x ≤ 0 → ab x = -x) := by unfold M10.ab; split <;> omega
    refine ⟨k, ab x + 1, a2, b, c2, rfl, chi_k hk, ha2, b0, b1, by omega, by omega, by omega, by omega, fun part a3 c3 p0 p1 ha3 hc4 hc5 => ?_⟩
    rw [chi_set hk]
    walk_at "xs"
    have gl : LN (ChI μ k b cs a3 c3 us) (.m (μ.length + cs.length)) (wInts us) := .m chi_n
    have szs : ∀ zs : List Int, zs.length ≤ 3 → (wInts us).length + (wInts zs).length ≤ sizeLine := fun zs hz => sz_ok (by simp; omega)
    -- a new list behind
    have fin : ∀ (ad : List Int) (y1 z1 : Option W), Bd ad → ad.length ≤ 3 → ∃ x' y z cs' a' c' us', [some (W.m k), some (W.d (dInts ts)), some (W.m (ChI μ k b cs a3 c3 us).length), some (W.d (.int x)), y1, z1] = [some (W.m k), some (W.d (dInts ts)), some (W.m (μ.length + List.length cs')), x', y, z] ∧
        ChI μ k b cs a3 c3 us ++ [some (C.lst (wInts us ++ wInts ad))] = ChI μ k b cs' a' c' us' ∧ 0 ≤ a' ∧ c ≤ c' ∧ c' ≤ c + 2 * ((pre ++ [x]).length : Nat) ∧ us'.length ≤ 3 * (pre ++ [x]).length ∧ Bd us' := fun ad y1 z1 h1 h2 => by
      refine ⟨_, y1, z1, cs ++ [some (C.lst (wInts us))], a3, c3, us ++ ad, by rw [chi_len], ?_, ha3, by omega, by simp; omega, by simp; omega, hub.app h1⟩
      rw [← wi_app, chi_new]
    refine ite_b (fun h => ?_) (fun h => ?_)
    · walk_at "xs"
      refine ite_b (fun h => ?_) (fun h => ?_)
      · have := of_decide_eq_true h
        walk_at "xs"
        refine NL.d2 ?_
        refine o_addL gl (lnd (xs := [part, x - part]) rfl) (szs _ (by simp)) ?_
        refine NL.m ?_
        walk_at "xs"
        exact fin [part, x - part] _ _ (fun t h => by simp at h; omega) (by simp)
      · have := of_decide_eq_false h
        walk_at "xs"
        refine NL.d2 ?_
        refine o_addL gl (lnd (xs := [0 - part, x + part]) rfl) (szs _ (by simp)) ?_
        refine NL.m ?_
        walk_at "xs"
        exact fin [0 - part, x + part] _ _ (fun t h => by simp at h; omega) (by simp)
    · walk_at "xs"
      refine ite_b (fun h => ?_) (fun h => ?_)
      · walk_at "xs"
        refine NL.d2 ?_
        refine o_addL gl (lnd (xs := [x, 0]) rfl) (szs _ (by simp)) ?_
        refine NL.m ?_
        walk_at "xs"
        exact fin [x, 0] _ _ (fun t h => by simp at h; omega) (by simp)
      · walk_at "xs"
        refine ite_b (fun h => ?_) (fun h => ?_)
        · walk_at "xs"
          refine ite_b (fun h => ?_) (fun h => ?_)
          · walk_at "xs"
            refine NL.d3 ?_
            refine o_addL gl (lnd (xs := [x, 0 - part, part]) rfl) (szs _ (by simp)) ?_
            refine NL.m ?_
            walk_at "xs"
            exact fin [x, 0 - part, part] _ _ (fun t h => by simp at h; omega) (by simp)
          · walk_at "xs"
            refine NL.d3 ?_
            refine o_addL gl (lnd (xs := [x, part, 0 - part]) rfl) (szs _ (by simp)) ?_
            refine NL.m ?_
            walk_at "xs"
            exact fin [x, part, 0 - part] _ _ (fun t h => by simp at h; omega) (by simp)
        · walk_at "xs"
          refine ax_bm ?_
          walk_at "x"
          refine ⟨⟨rfl, _, chi_n⟩, ?_⟩
          walk_at "xs"
          refine am_append chi_n (sz_lt (by simp; omega)) ?_
          refine ⟨_, _, _, cs, a3, c3, us ++ [x], rfl, ?_, ha3, by omega, by simp; omega, by simp; omega, hub.app (fun t h => by simp at h; omega)⟩
          have e9 : wInts us ++ [W.d (PyData.int x)] = wInts (us ++ [x]) := by rw [wi_app]; rfl
          rw [e9, chi_put]
  · rintro Γ' μ' ⟨x0, y0, z0, cs, a', c', us, rfl, rfl, ha, hc, hc', hul, hub⟩
    have h20 : (ts.take 20).length ≤ 20 := by rw [List.length_take]; omega
    walk_at "xs"
    refine ⟨k, 3, a', b, c', rfl, chi_k hk, ha, b0, b1, by omega, by omega, by decide, by decide, fun way a2 c2 r0 r1 ha2 hc2 hc3 => ?_⟩
    rw [chi_set hk]
    walk_at "xs"
    have finR : ∀ (vs : List Int) a3 c3, vs.length = us.length → Bd vs → 0 ≤ a3 → c ≤ c3 → c3 ≤ c + 50 → Fz μ (.m (μ.length + cs.length)) (ChI μ k b cs a3 c3 vs) R := fun vs a3 c3 h1 h2 h3 h4 h5 => by
      refine ⟨μ.set k (jug a3 b c3), cs ++ [some (.lst (wInts vs))], dInts vs, by unfold ChI; simp, by simp, Keeps.set (xs := [.int a3, .int b, .int c3]) rfl, .m (by omega) chi_n (rns_ints _), ?_⟩
      exact q vs a3 c3 (by omega) h2 h3 h4 (by omega)
    have nope : AS K (tRet (tVar 2)) { nx := fun _ μ1 => Fz μ (.d .none) μ1 R, rt := fun w μ1 => Fz μ w μ1 R } [some (.m k), some (.d (dInts ts)), some (.m (μ.length + cs.length)), x0, y0, z0] (ChI μ k b cs a2 c2 us) := by
      walk_at "xs"
      exact finR us a2 c2 rfl hub ha2 (by omega) (by omega)
    refine ite_b (fun h => ?_) (fun h => ?_)
    · walk_at "xs"
      refine NL.d0 ?_
      refine o_neD (.m chi_n (rss_ints _)) (.d _) (shaped_ints _) rfl ?_
      rw [eqv_nil]
      walk_at "xs"
      refine ite_b (fun h => ?_) (fun h => ?_)
      · have hne : us ≠ [] := by simpa using h
        have hlen : 0 < us.length := List.length_pos_iff.mpr hne
        walk_at "xs"
        refine ⟨k, 7, a2, b, c2, rfl, chi_k hk, ha2, b0, b1, by omega, by omega, by decide, by decide, fun v a3 c3 v0 v1 ha3 hc4 hc5 => ?_⟩
        rw [chi_set hk]
        walk_at "xs"
        refine c_lenL (.m chi_n) ?_
        walk_at "xs"
        refine ⟨k, _, a3, b, c3, rfl, chi_k hk, ha3, b0, b1, by omega, by omega, by simp; omega, by simp; omega, fun i a4 c4 i0 i1 ha4 hc6 hc7 => ?_⟩
        rw [chi_set hk]
        simp at i1
        refine aset_L (j := i.toNat) chi_n (by unfold ixN; rw [if_pos i0, if_pos (by simp; omega)]) ?_
        have ev : (wInts us).set i.toNat (W.d (.int (v - 3))) = wInts (us.set i.toNat (v - 3)) := by simp
        rw [ev, chi_put]
        walk_at "xs"
        refine finR _ a4 c4 (by simp) (fun t ht => ?_) ha4 (by omega) (by omega)
        rcases List.mem_or_eq_of_mem_set ht with z | z
        · exact hub t z
        · omega
      · refine as_next ?_
        exact nope
    · refine ite_f rfl ?_
      refine as_next ?_
      exact nope
def tot (s : List Int) : Int := (s.map ab).foldr (· + ·) 0
theorem tot_nn : ∀ s : List Int, 0 ≤ tot s
  | [] => Int.le_refl _
  | t :: s => by
    have := tot_nn s
    have := M10.ab_nn t
    show 0 ≤ ab t + tot s
    omega
theorem tot_cons (t : Int) (s : List Int) : tot (t :: s) = ab t + tot s := rfl
theorem ab_add (x y : Int) : ab (x + y) ≤ ab x + ab y := by unfold M10.ab; split <;> split <;> split <;> omega
theorem tot_add : ∀ (n : Nat) (w : Int) (s : List Int), s.length ≤ n → tot (M10.addT w s) ≤ ab w + tot s := by
  intro n
  induction n with
  | zero =>
    intro w s hl
    have : s = [] := List.length_eq_zero_iff.mp (by omega)
    subst this
    by_cases hw : w = 0
    · subst hw; rw [M10.addT_zero]; have := M10.ab_nn 0; omega
    · rw [M10.addT_nil hw]; exact Int.le_refl _
  | succ n ih =>
    intro w s hl
    have hwn := M10.ab_nn w
    by_cases hw : w = 0
    · subst hw; rw [M10.addT_zero]; omega
    · match s, hl with
      | [], _ => rw [M10.addT_nil hw]; exact Int.le_refl _
      | x :: r, hl =>
        rw [tot_cons]
        by_cases hs : decide (0 < x) = decide (0 < w)
        · rw [M10.addT_same hw hs]
          have := ih (w + x) r (by simp at hl; omega)
          have := ab_add w x
          omega
        · match r, hl with
          | [], _ => rw [M10.addT_two hw hs, tot_cons, tot_cons]; omega
          | y :: r', hl =>
            rw [tot_cons]
            by_cases h1 : ab x ≤ ab w
            · by_cases h2 : ab x ≤ ab y
              · rw [M10.addT_a hw hs h1 h2]
                have := ih (w + x + y) r' (by simp at hl; omega)
                have := ab_add (w + x) y
                have := ab_add w x
                omega
              · rw [M10.addT_b hw hs h1 h2]
                have := ih w ((y + x) :: r') (by simp at hl; simp; omega)
                rw [tot_cons] at this
                have := ab_add y x
                omega
            · rw [M10.addT_c hw hs h1, tot_cons, tot_cons, tot_cons]; omega
theorem tot_fold : ∀ (ts s : List Int), tot (ts.foldl (fun s t => M10.addT t s) s) ≤ tot s + tot ts
  | [], s => by have : tot [] = 0 := rfl; simp [this]
  | t :: ts, s => by
    have h1 := tot_fold ts (M10.addT t s)
    have h2 := tot_add s.length t s (Nat.le_refl _)
    rw [tot_cons]
    rw [List.foldl_cons]
    omega
theorem tot_ge : ∀ (s : List Int), ∀ t ∈ s, ab t ≤ tot s
  | x :: s, t, h => by
    rw [tot_cons]
    have := tot_nn s
    have := M10.ab_nn x
    rcases List.mem_cons.mp h with z | z
    · subst z; omega
    · have := tot_ge s t z
      omega
theorem tot_bd : ∀ (s : List Int), Bd s → tot s ≤ 100 * s.length
  | [], _ => by show (0 : Int) ≤ _; simp
  | t :: s, h => by
    have h1 := tot_bd s (fun x hx => h x (List.mem_cons_of_mem _ hx))
    have h2 := h t List.mem_cons_self
    rw [tot_cons]
    have : ab t ≤ 100 := by unfold M10.ab; split <;> omega
    simp
    omega
theorem form_bd {ts : List Int} (hb : Bd ts) (hl : ts.length ≤ 1000) : ∀ t ∈ form ts, -(2 ^ 64) < t ∧ t < 2 ^ 64 := fun t ht => by
  have h1 := tot_fold ts []
  have h2 := tot_bd ts hb
  have h3 : t ∈ M10.formR ts := by
    unfold M10.form at ht
    exact List.mem_reverse.mp ht
  have h4 := tot_ge _ t h3
  unfold M10.formR at h4
  have h5 : tot [] = 0 := rfl
  rw [h5] at h1
  have h6 : ab t ≤ 100000 := by omega
  unfold M10.ab at h6
  split at h6 <;> omega
/-- [w * turn for turn in ..] -/
theorem lc_mul {K : PySem.W.Frag} {Γ : G} {μ : Mu} {R : W → Mu → Prop} {i j l : Nat} {ts : List Int} {w : Int} (hi : Γ[i]? = some (some (.d (dInts ts)))) (hl : ts.length ≤ 1000) (hb : ∀ t ∈ ts, -(2 ^ 64) < t ∧ t < 2 ^ 64) (hj : ∀ x, ((wipeG Γ [l]).set l (some (.d (.int x))))[j]? = some (some (.d (.int w)))) (hll : ∀ x : Int, ((wipeG Γ [l]).set l (some (.d (.int x))))[l]? = some (some (.d (.int x))))
    (k : NL (wInts (ts.map (w * ·))) μ R) : AX K (tLc (iSeq K (tVar i)) (gName l) tYes (tOp rMulU (tVar j) (tVar l)) [l]) Γ μ R := by
  refine ax_lc (fun n => W.d (.int n)) ts (fun pre acc μ' => acc = wInts (pre.map (w * ·)) ∧ μ' = μ) (sz_ok (by omega)) (wk_name (by simp)) (ai_l (ai_list (ax_var hi ?_))) ?_ ?_
  · exact ⟨_, lw_ints _ _, rfl, fun _ _ _ _ => lw_ints _ _, rfl, rfl⟩
  · rintro pre x post acc μ' e hl ⟨rfl, rfl⟩
    refine ag_name (at_yes (ite_t rfl (ax_op (ax_var (hj x) (ax_var (hll x) ?_)))))
    refine o_mulI (mul_r (hb x (by rw [e]; simp))) ?_
    exact ⟨by simp, rfl⟩
  · rintro acc μ' ⟨rfl, rfl⟩
    exact k
theorem F_sf {ts : List Int} {μ : Mu} {R : W → Mu → Prop} (hl : ts.length ≤ 500) (h : R (.d (dInts (form ts))) μ) : F_short_form [.d (dInts ts)] μ fun w μ1 => Fz μ w μ1 R := ⟨ts, rfl, hl, Fz.same (.m (Nat.le_refl _) mu_end (rns_ints _)) h⟩
theorem rd__law_form_right {K : PySem.W.Frag} : ∀ ws μ R, F__law_form_right ws μ R → AS K (t__law_form_right K) { nx := fun _ μ' => R (.d .none) μ', rt := R } (stG n__law_form_right ws) μ := by
  rintro ws μ R ⟨ts, w, rfl, hl, hb, hw, q⟩
  refine as_fz ?_
  show AS K (t__law_form_right K) _ [some (.d (dInts ts)), some (.d (.int w)), none, none, none] μ
  unfold t__law_form_right
  have hfl := form_le ts
  walk_at "xs"
  refine NL.di ?_
  walk_at "x"
  walk_at "x"
  walk_at "x"
  refine ax_fz ?_
  walk_at "xs"
  refine F_sf (by omega) ?_
  walk_at "xs"
  refine ite_f rfl ?_
  walk_at "xs"
  refine ⟨form ts, rfl, ?_, ?_⟩
  · unfold M10.form
    rw [List.reverse_reverse]
    exact M10.nf_form ts
  refine ⟨_, rfl, ?_⟩
  refine ite_f rfl ?_
  walk_at "xs"
  rw [eqv_ints]
  refine ite_f (by simp) ?_
  refine as_next ?_
  walk_at "xs"
  refine ite_f (by simp; omega) ?_
  walk_at "xs"
  have hff : form (form ts) = form ts := by
    unfold M10.form
    rw [M10.form_idem (M10.nf_form ts)]
  refine ⟨form ts, rfl, by omega, ?_⟩
  walk_at "xs"
  refine ite_f (by simp [hff]) ?_
  walk_at "xs"
  refine ⟨form ts, rfl, by omega, ?_⟩
  walk_at "xs"
  rw [eqv_ints]
  refine ite_f (by simp [hff]) ?_
  refine as_next ?_
  walk_at "xs"
  refine ⟨ts, rfl, by omega, ?_⟩
  walk_at "xs"
  rw [eqv_ints]
  refine ite_f (by simp [eq_comm]) ?_
  walk_at "xs"
  refine ⟨form ts, rfl, by omega, ?_⟩
  walk_at "xs"
  have hg := gr_ge (form ts) 0 List.mem_cons_self
  refine ⟨ts, form ts, _, rfl, by omega, by omega, ?_⟩
  rw [M10.same_form]
  refine ⟨_, rfl, ?_⟩
  refine ite_f rfl ?_
  refine as_next ?_
  walk_at "xs"
  refine lc_mul rfl (by omega) (fun t ht => by have := hb t ht; omega) (fun _ => rfl) (fun _ => rfl) (NL.di ?_)
  walk_at "xs"
  refine ⟨ts.map (w * ·), rfl, by simp; omega, ?_⟩
  refine lc_mul rfl (by omega) (form_bd hb (by omega)) (fun _ => rfl) (fun _ => rfl) (NL.di ?_)
  refine o_eqD (.m mu_end (rss_ints _)) (.d _) (shaped_ints _) (shaped_ints _) ?_
  rw [eqv_ints, M10.form_mul hw, decide_eq_true rfl, List.append_assoc]
  exact Fz.same (.d _) q
theorem dInts_app (xs ys : List Int) : wInts xs ++ wInts ys = wInts (xs ++ ys) := (wi_app xs ys).symm
theorem sh_d {μ : Mu} {xs : List Int} : Rs μ (.d (dInts xs)) (dInts xs) := .d _
theorem form_zero (ts : List Int) : form ([0] ++ ts) = form ts := by
  unfold M10.form M10.formR
  show (List.foldl _ (M10.addT 0 []) ts).reverse = _
  rw [M10.addT_zero]
theorem rd_law {K : PySem.W.Frag} : ∀ ws μ R, F_law ws μ R → AS K (t_law K) { nx := fun _ μ' => R (.d .none) μ', rt := R } (stG n_law ws) μ := by
  rintro ws μ R ⟨ns, rfl, hns, q⟩
  refine as_fz ?_
  show AS K (t_law K) _ [some (.f (wInts ns)), none, none, none, none, none, none, none, none, none] μ
  unfold t_law
  walk_at "xs"
  refine as_for (fun (i : Nat) => W.d (.int (0 + i))) (List.range (max 1 (min 3 ((wInts ns).length : Int))).toNat) (fun pre Γ' μ' => ∃ cs z1 z2 z3 z4 z5 z6 z7 z8 z9, Γ' = [some (.f (wInts ns)), z1, z2, z3, z4, z5, z6, z7, z8, z9] ∧ μ' = μ ++ cs) (ai_rng1 ?_) ?_ ?_
  · walk_at "xs"
    exact ⟨by omega, rfl, fun _ _ _ _ => trivial, [], none, none, none, none, none, none, none, none, none, rfl, by simp⟩
  · rintro pre x post Γ' μ' e ⟨cs, z1, z2, z3, z4, z5, z6, z7, z8, z9, rfl, rfl⟩
    obtain ⟨ex, xl⟩ := rng_split e
    walk_at "xs"
    refine ⟨ns, _, rfl, by omega, by omega, fun a b a0 b0 b1 => ?_⟩
    generalize hm : μ ++ cs = m0
    generalize hkk : m0.length = k
    have hk : (m0 ++ [jug a b 0])[k]? = some (jug a b 0) := by rw [← hkk]; exact mu_end
    have J : ∀ a c, (m0 ++ [jug a b c])[k]? = some (jug a b c) := fun a c => by rw [← hkk]; exact mu_end
    have S : ∀ a c a' c', (m0 ++ [jug a b c]).set k (jug a' b c') = m0 ++ [jug a' b c'] := fun a c a' c' => by rw [← hkk]; exact mu_setEnd
    walk_at "xs"
    refine ⟨k, 9, a, b, 0, rfl, J _ _, a0, b0, b1, by omega, by omega, by decide, by decide, fun r1 a1 c1 r1l r1h a1l c1l c1h => ?_⟩
    rw [S]
    walk_at "xs"
    refine o_powI (ten_ok (by decide) (by decide)) ?_
    rw [p28]
    walk_at "xs"
    refine ⟨k, _, a1, b, c1, rfl, J _ _, a1l, b0, b1, by omega, by omega, by decide, by decide, fun r2 a2 c2 r2l r2h a2l c2l c2h => ?_⟩
    rw [S]
    walk_at "xs"
    refine NL.d3 ?_
    walk_at "xs"
    refine ⟨k, _, a2, b, c2, rfl, J _ _, a2l, b0, b1, by omega, by omega, by decide, by decide, fun r3 a3 c3 r3l r3h a3l c3l c3h => ?_⟩
    rw [S]
    obtain ⟨width, hw, hwp⟩ : ∃ width, atI (List.map W.d [PyData.int 1, .int (2 + r1), .int (1 + r2)]) r3 = some (.d (.int width)) ∧ 0 < width := by
      have : r3 = 0 ∨ r3 = 1 ∨ r3 = 2 := by omega
      rcases this with rfl | rfl | rfl
      · exact ⟨1, rfl, by decide⟩
      · exact ⟨2 + r1, rfl, by omega⟩
      · exact ⟨1 + r2, rfl, by omega⟩
    refine o_ixL (.d _) hw ?_
    walk_at "xs"
    refine NL.d3 ?_
    walk_at "xs"
    refine ⟨k, _, a3, b, c3, rfl, J _ _, a3l, b0, b1, by omega, by omega, by decide, by decide, fun r4 a4 c4 r4l r4h a4l c4l c4h => ?_⟩
    rw [S]
    obtain ⟨size, hs, hs0, hs1⟩ : ∃ size, atI (List.map W.d [PyData.int 2, .int 5, .int 5]) r4 = some (.d (.int size)) ∧ 0 ≤ size ∧ size ≤ 100 := by
      have : r4 = 0 ∨ r4 = 1 ∨ r4 = 2 := by omega
      rcases this with rfl | rfl | rfl
      · exact ⟨2, rfl, by decide, by decide⟩
      · exact ⟨5, rfl, by decide, by decide⟩
      · exact ⟨5, rfl, by decide, by decide⟩
    refine o_ixL (.d _) hs ?_
    walk_at "xs"
    refine ⟨k, 7, size, a4, b, c4, rfl, J _ _, a4l, b0, b1, by omega, by omega, by decide, by decide, hs0, hs1, fun one a5 c5 ol ob a5l c5l c5h => ?_⟩
    rw [S]
    walk_at "x"
    refine as_cut (fun Γ' μ' => ∃ other a' c', Γ' = [some (.f (wInts ns)), some (.d (.int (0 + x))), some (.m k), some (.d (.int width)), some (.d (dInts one)), some (.d (dInts other)), z6, z7, z8, z9] ∧ μ' = m0 ++ [jug a' b c'] ∧ other.length ≤ 100 ∧ Bd other) ?_ ?_
    · walk_at "xs"
      refine ⟨k, 2, a5, b, c5, rfl, J _ _, a5l, b0, b1, by omega, by omega, by decide, by decide, fun r6 a6 c6 r6l r6h a6l c6l c6h => ?_⟩
      rw [S]
      walk_at "xs"
      refine ite_b (fun h => ?_) (fun h => ?_)
      · walk_at "xs"
        refine ⟨k, one, a6, b, c6, rfl, J _ _, a6l, b0, b1, by omega, by omega, ol, ob, fun us a7 c7 ul ub a7l c7l c7h => ?_⟩
        rw [S]
        walk_at "xs"
        exact ⟨us, a7, c7, rfl, rfl, ul, ub⟩
      · walk_at "xs"
        refine NL.d2 ?_
        walk_at "xs"
        refine ⟨k, 2, a6, b, c6, rfl, J _ _, a6l, b0, b1, by omega, by omega, by decide, by decide, fun r7 a7 c7 r7l r7h a7l c7l c7h => ?_⟩
        rw [S]
        obtain ⟨size2, hs2, hs20, hs21⟩ : ∃ size, atI (List.map W.d [PyData.int 2, .int 5]) r7 = some (.d (.int size)) ∧ 0 ≤ size ∧ size ≤ 100 := by
          have : r7 = 0 ∨ r7 = 1 := by omega
          rcases this with rfl | rfl
          · exact ⟨2, rfl, by decide, by decide⟩
          · exact ⟨5, rfl, by decide, by decide⟩
        refine o_ixL (.d _) hs2 ?_
        walk_at "xs"
        refine ⟨k, 7, size2, a7, b, c7, rfl, J _ _, a7l, b0, b1, by omega, by omega, by decide, by decide, hs20, hs21, fun us a8 c8 ul ub a8l c8l c8h => ?_⟩
        rw [S]
        walk_at "xs"
        exact ⟨us, a8, c8, rfl, rfl, by omega, ub⟩
    · rintro Γ' μ' ⟨other, a', c', rfl, rfl, ul, ub⟩
      clear J S hk
      walk_at "xs"
      refine ⟨one, width, rfl, by omega, ob, hwp, ?_⟩
      refine ⟨_, rfl, ?_⟩
      refine ite_f rfl ?_
      walk_at "xs"
      refine ⟨other, width, rfl, ul, ub, hwp, ?_⟩
      refine ⟨_, rfl, ?_⟩
      refine ite_f rfl ?_
      refine as_next ?_
      generalize hm1 : (m0 ++ [jug a' b c']) = m1
      walk_at "x"
      refine as_par ?_
      walk_at "xs"
      refine ⟨one, rfl, by omega, ?_⟩
      walk_at "xs"
      refine ⟨other, rfl, by omega, ?_⟩
      walk_at "xs"
      refine ⟨_, _, rfl, ?_⟩
      dsimp only [List.set_cons_zero, List.set_cons_succ]
      have g1 : (m1 ++ [some (C.lst (wInts (form one)))] ++ [some (C.lst (wInts (form other)))])[m1.length]? = some (some (C.lst (wInts (form one)))) := mu_app mu_end
      have fl1 := form_le one
      have fl2 := form_le other
      walk_at "xs"
      refine ⟨one, other, rfl, by omega, by omega, ?_⟩
      walk_at "xs"
      refine ite_f rfl ?_
      walk_at "xs"
      rw [eqv_ints]
      walk_at "xs"
      refine ite_f (by simp) ?_
      walk_at "xs"
      refine ⟨other, one, rfl, by omega, by omega, ?_⟩
      walk_at "xs"
      refine ite_f (by simp [eq_comm]) ?_
      refine as_next ?_
      walk_at "xs"
      refine o_slL (.m g1) ?_
      rw [show (2 : Int) = ((2 : Nat) : Int) from rfl, cut_to]
      refine NL.di ?_
      walk_at "xs"
      refine ⟨_, rfl, by simp; omega, ?_⟩
      walk_at "xs"
      refine o_slL (.m mu_end) ?_
      rw [cut_to]
      refine NL.di ?_
      walk_at "xs"
      refine ⟨_, rfl, by simp; omega, ?_⟩
      have gg1 := gr_ge ((form one).take 2) 0 List.mem_cons_self
      have gg2 := gr_ge ((form other).take 2) 0 List.mem_cons_self
      iterate 5 walk_at "x"
      refine as_cut (fun Γ' μ' => Γ' = [some (.f (wInts ns)), some (.d (.int (0 + x))), some (.m k), some (.d (.int width)), some (.d (dInts one)), some (.d (dInts other)), some (.m m1.length), some (.m (m1 ++ [some (C.lst (wInts (form one)))]).length), some (.d (.bool (decide (form one = form other)))), some (.d (.int (min (gr (List.take 2 (form one))) (gr (List.take 2 (form other))) + 1)))] ∧ μ' = m1 ++ [some (C.lst (wInts (form one)))] ++ [some (C.lst (wInts (form other)))]) ?_ ?_
      · walk_at "xs"
        refine ite_b (fun h => ?_) (fun h => ?_)
        · have := of_decide_eq_true h
          walk_at "xs"
          refine ⟨one, other, _, rfl, by omega, by omega, ?_⟩
          rw [M10.same_alike]
          walk_at "xs"
          refine ite_f (by simp) ?_
          refine as_next ?_
          exact ⟨rfl, rfl⟩
        · refine ite_f rfl ?_
          refine as_next ?_
          exact ⟨rfl, rfl⟩
      · rintro Γ' μ' ⟨rfl, rfl⟩
        walk_at "xs"
        refine am_append g1 (sz_lt (by simp; omega)) ?_
        have e9 : (m1 ++ [some (C.lst (wInts (form one)))] ++ [some (C.lst (wInts (form other)))]).set m1.length (some (C.lst (wInts (form one) ++ [W.d (.int 9)]))) = m1 ++ [some (C.lst (wInts (form one ++ [9])))] ++ [some (C.lst (wInts (form other)))] := by
          rw [mu_setApp mu_end, mu_setEnd, wi_app]
          rfl
        rw [e9]
        walk_at "xs"
        refine ⟨one, rfl, by omega, ?_⟩
        walk_at "xs"
        rw [eqv_ints]
        refine ite_f (decide_eq_false fun z => ?_) ?_
        · have := congrArg List.length z
          simp at this
        walk_at "xs"
        refine o_slL (lw_ints _ _) ?_
        rw [show (59 : Int) = ((59 : Nat) : Int) from rfl, cut_to]
        refine NL.di ?_
        walk_at "xs"
        refine NL.d1 ?_
        walk_at "xs"
        refine o_slL (lw_ints _ _) ?_
        rw [cut_to]
        refine NL.di ?_
        refine o_addL (lnd (xs := [0]) rfl) (ln_ints _ _) (sz_ok (by simp; omega)) ?_
        rw [dInts_app]
        refine NL.di ?_
        walk_at "xs"
        refine ⟨one.take 59, [0] ++ one.take 59, rfl, by simp; omega, by simp; omega, ?_⟩
        rw [form_zero, decide_eq_true rfl]
        refine ⟨_, rfl, ?_⟩
        refine ite_f rfl ?_
        refine as_next ?_
        refine ⟨cs ++ [jug a' b c', some (C.lst (wInts (form one ++ [9]))), some (C.lst (wInts (form other))), some (C.lst (wInts (form one)))], _, _, _, _, _, _, _, _, _, rfl, ?_⟩
        rw [← hm1, ← hm]
        simp
  · rintro Γ' μ' ⟨cs, z1, z2, z3, z4, z5, z6, z7, z8, z9, rfl, rfl⟩
    walk_at "xs"
    exact Fz.same (.d _) q
end Lw

namespace Lw
open PySem PySem.Spec PyProof.Rows L2 Pd
theorem len_add_turn {ws : List W} {μ : Mu} {R : W → Mu → Prop} (h : F_add_turn ws μ R) : ws.length = p_add_turn.length := by
  unfold F_add_turn at h
  repeat' (rcases h with ⟨x, h⟩)
  subst_vars
  rfl
theorem len_form_in {ws : List W} {μ : Mu} {R : W → Mu → Prop} (h : F_form_in ws μ R) : ws.length = p_form_in.length := by
  unfold F_form_in at h
  repeat' (rcases h with ⟨x, h⟩)
  subst_vars
  rfl
theorem len_short_form {ws : List W} {μ : Mu} {R : W → Mu → Prop} (h : F_short_form ws μ R) : ws.length = p_short_form.length := by
  unfold F_short_form at h; unfold F_form_in at h
  repeat' (rcases h with ⟨x, h⟩)
  subst_vars
  rfl
theorem len_is_short {ws : List W} {μ : Mu} {R : W → Mu → Prop} (h : F_is_short ws μ R) : ws.length = p_is_short.length := by
  unfold F_is_short at h
  repeat' (rcases h with ⟨x, h⟩)
  subst_vars
  rfl
theorem len_turns_alike {ws : List W} {μ : Mu} {R : W → Mu → Prop} (h : F_turns_alike ws μ R) : ws.length = p_turns_alike.length := by
  unfold F_turns_alike at h
  repeat' (rcases h with ⟨x, h⟩)
  subst_vars
  rfl
theorem len__law_jug {ws : List W} {μ : Mu} {R : W → Mu → Prop} (h : F__law_jug ws μ R) : ws.length = p__law_jug.length := by
  unfold F__law_jug at h
  repeat' (rcases h with ⟨x, h⟩)
  subst_vars
  rfl
theorem len__law_pour {ws : List W} {μ : Mu} {R : W → Mu → Prop} (h : F__law_pour ws μ R) : ws.length = p__law_pour.length := by
  unfold F__law_pour at h
  repeat' (rcases h with ⟨x, h⟩)
  subst_vars
  rfl
theorem len__law_turns {ws : List W} {μ : Mu} {R : W → Mu → Prop} (h : F__law_turns ws μ R) : ws.length = p__law_turns.length := by
  unfold F__law_turns at h
  repeat' (rcases h with ⟨x, h⟩)
  subst_vars
  rfl
theorem len__law_led {ws : List W} {μ : Mu} {R : W → Mu → Prop} (h : F__law_led ws μ R) : ws.length = p__law_led.length := by
  unfold F__law_led at h
  repeat' (rcases h with ⟨x, h⟩)
  subst_vars
  rfl
theorem len__law_greatest {ws : List W} {μ : Mu} {R : W → Mu → Prop} (h : F__law_greatest ws μ R) : ws.length = p__law_greatest.length := by
  unfold F__law_greatest at h
  repeat' (rcases h with ⟨x, h⟩)
  subst_vars
  rfl
theorem len__law_same {ws : List W} {μ : Mu} {R : W → Mu → Prop} (h : F__law_same ws μ R) : ws.length = p__law_same.length := by
  unfold F__law_same at h
  repeat' (rcases h with ⟨x, h⟩)
  subst_vars
  rfl
theorem len__law_is_form {ws : List W} {μ : Mu} {R : W → Mu → Prop} (h : F__law_is_form ws μ R) : ws.length = p__law_is_form.length := by
  unfold F__law_is_form at h
  repeat' (rcases h with ⟨x, h⟩)
  subst_vars
  rfl
theorem len__law_changed {ws : List W} {μ : Mu} {R : W → Mu → Prop} (h : F__law_changed ws μ R) : ws.length = p__law_changed.length := by
  unfold F__law_changed at h
  repeat' (rcases h with ⟨x, h⟩)
  subst_vars
  rfl
theorem len__law_form_right {ws : List W} {μ : Mu} {R : W → Mu → Prop} (h : F__law_form_right ws μ R) : ws.length = p__law_form_right.length := by
  unfold F__law_form_right at h
  repeat' (rcases h with ⟨x, h⟩)
  subst_vars
  rfl
theorem len_law {ws : List W} {μ : Mu} {R : W → Mu → Prop} (h : F_law ws μ R) : ws.length = p_law.length := by
  unfold F_law at h
  repeat' (rcases h with ⟨x, h⟩)
  subst_vars
  rfl
structure Txt (K : PySem.W.Frag) (mg : Str → Option Value) where
  a_add_turn : Addr
  d_add_turn : FuncData
  u_add_turn : Fun K "add_turn" "add_turn" s_add_turn a_add_turn d_add_turn
  m_add_turn : mg "add_turn" = some (.ref a_add_turn)
  a_form_in : Addr
  d_form_in : FuncData
  u_form_in : Fun K "form_in" "form_in" s_form_in a_form_in d_form_in
  m_form_in : mg "form_in" = some (.ref a_form_in)
  a_short_form : Addr
  d_short_form : FuncData
  u_short_form : Fun K "short_form" "short_form" s_short_form a_short_form d_short_form
  m_short_form : mg "short_form" = some (.ref a_short_form)
  a_is_short : Addr
  d_is_short : FuncData
  u_is_short : Fun K "is_short" "is_short" s_is_short a_is_short d_is_short
  m_is_short : mg "is_short" = some (.ref a_is_short)
  a_turns_alike : Addr
  d_turns_alike : FuncData
  u_turns_alike : Fun K "turns_alike" "turns_alike" s_turns_alike a_turns_alike d_turns_alike
  m_turns_alike : mg "turns_alike" = some (.ref a_turns_alike)
  a__law_jug : Addr
  d__law_jug : FuncData
  u__law_jug : Fun K "_law_jug" "_law_jug" s__law_jug a__law_jug d__law_jug
  m__law_jug : mg "_law_jug" = some (.ref a__law_jug)
  a__law_pour : Addr
  d__law_pour : FuncData
  u__law_pour : Fun K "_law_pour" "_law_pour" s__law_pour a__law_pour d__law_pour
  m__law_pour : mg "_law_pour" = some (.ref a__law_pour)
  a__law_turns : Addr
  d__law_turns : FuncData
  u__law_turns : Fun K "_law_turns" "_law_turns" s__law_turns a__law_turns d__law_turns
  m__law_turns : mg "_law_turns" = some (.ref a__law_turns)
  a__law_led : Addr
  d__law_led : FuncData
  u__law_led : Fun K "_law_led" "_law_led" s__law_led a__law_led d__law_led
  m__law_led : mg "_law_led" = some (.ref a__law_led)
  a__law_greatest : Addr
  d__law_greatest : FuncData
  u__law_greatest : Fun K "_law_greatest" "_law_greatest" s__law_greatest a__law_greatest d__law_greatest
  m__law_greatest : mg "_law_greatest" = some (.ref a__law_greatest)
  a__law_same : Addr
  d__law_same : FuncData
  u__law_same : Fun K "_law_same" "_law_same" s__law_same a__law_same d__law_same
  m__law_same : mg "_law_same" = some (.ref a__law_same)
  a__law_is_form : Addr
  d__law_is_form : FuncData
  u__law_is_form : Fun K "_law_is_form" "_law_is_form" s__law_is_form a__law_is_form d__law_is_form
  m__law_is_form : mg "_law_is_form" = some (.ref a__law_is_form)
  a__law_changed : Addr
  d__law_changed : FuncData
  u__law_changed : Fun K "_law_changed" "_law_changed" s__law_changed a__law_changed d__law_changed
  m__law_changed : mg "_law_changed" = some (.ref a__law_changed)
  a__law_form_right : Addr
  d__law_form_right : FuncData
  u__law_form_right : Fun K "_law_form_right" "_law_form_right" s__law_form_right a__law_form_right d__law_form_right
  m__law_form_right : mg "_law_form_right" = some (.ref a__law_form_right)
  a_law : Addr
  d_law : FuncData
  u_law : Fun K "law" "law" s_law a_law d_law
  m_law : mg "law" = some (.ref a_law)
  n_abs : mg "abs" = none
  n_bool : mg "bool" = none
  n_enumerate : mg "enumerate" = none
  n_int : mg "int" = none
  n_isinstance : mg "isinstance" = none
  n_len : mg "len" = none
  n_list : mg "list" = none
  n_max : mg "max" = none
  n_min : mg "min" = none
  n_range : mg "range" = none
section
variable {P : Program} {w : World} {K : PySem.W.Frag} {mg : Str → Option Value} {base : Heap}
theorem g_add_turn (T : Txt K mg) : FnOk P w K mg base CX0 1 T.a_add_turn T.d_add_turn p_add_turn (spD K F_add_turn) :=
  fn_ok T.u_add_turn sc_add_turn (fun ws μ R h => len_add_turn h) (fun cdv A outer s H E hr => ⟨t_add_turn K, dv_add_turn hr T.n_abs T.n_len, rd_add_turn⟩)
theorem h_add_turn (T : Txt K mg) : Has P w K mg base "add_turn" p_add_turn 1 F_add_turn := has_of T.u_add_turn T.m_add_turn (g_add_turn T) fun _ _ _ _ _ _ us hl => match us, hl with | [_, _], _ => rfl
theorem g_form_in (T : Txt K mg) : FnOk P w K mg base CX0 2 T.a_form_in T.d_form_in p_form_in (spD K F_form_in) :=
  fn_ok T.u_form_in sc_form_in (fun ws μ R h => len_form_in h) (fun cdv A outer s H E hr => ⟨t_form_in K, dv_form_in hr (h_add_turn T), rd_form_in⟩)
theorem h_form_in (T : Txt K mg) : Has P w K mg base "form_in" p_form_in 2 F_form_in := has_of T.u_form_in T.m_form_in (g_form_in T) fun _ _ _ _ _ _ us hl => match us, hl with | [_], _ => rfl
theorem g_short_form (T : Txt K mg) : FnOk P w K mg base CX0 3 T.a_short_form T.d_short_form p_short_form (spD K F_short_form) :=
  fn_ok T.u_short_form sc_short_form (fun ws μ R h => len_short_form h) (fun cdv A outer s H E hr => ⟨t_short_form K, dv_short_form hr (h_form_in T), rd_short_form⟩)
theorem h_short_form (T : Txt K mg) : Has P w K mg base "short_form" p_short_form 3 F_short_form := has_of T.u_short_form T.m_short_form (g_short_form T) fun _ _ _ _ _ _ us hl => match us, hl with | [_], _ => rfl
theorem hk_short_form_0 (T : Txt K mg) : HasK P w K mg base "short_form" p_short_form 3 F_short_form 0 ["turns"] [0] := hask_of T.u_short_form T.m_short_form (g_short_form T) 0 ["turns"] [0] fun _ _ _ _ _ _ us ws h1 h2 => match us, ws, h1, h2 with | [], [_], _, _ => rfl
theorem g_is_short (T : Txt K mg) : FnOk P w K mg base CX0 3 T.a_is_short T.d_is_short p_is_short (spD K F_is_short) :=
  fn_ok T.u_is_short sc_is_short (fun ws μ R h => len_is_short h) (fun cdv A outer s H E hr => ⟨t_is_short K, dv_is_short hr (h_form_in T), rd_is_short⟩)
theorem h_is_short (T : Txt K mg) : Has P w K mg base "is_short" p_is_short 3 F_is_short := has_of T.u_is_short T.m_is_short (g_is_short T) fun _ _ _ _ _ _ us hl => match us, hl with | [_], _ => rfl
theorem hk_is_short_0 (T : Txt K mg) : HasK P w K mg base "is_short" p_is_short 3 F_is_short 0 ["turns"] [0] := hask_of T.u_is_short T.m_is_short (g_is_short T) 0 ["turns"] [0] fun _ _ _ _ _ _ us ws h1 h2 => match us, ws, h1, h2 with | [], [_], _, _ => rfl
theorem g_turns_alike (T : Txt K mg) : FnOk P w K mg base CX0 3 T.a_turns_alike T.d_turns_alike p_turns_alike (spD K F_turns_alike) :=
  fn_ok T.u_turns_alike sc_turns_alike (fun ws μ R h => len_turns_alike h) (fun cdv A outer s H E hr => ⟨t_turns_alike K, dv_turns_alike hr (h_form_in T), rd_turns_alike⟩)
theorem h_turns_alike (T : Txt K mg) : Has P w K mg base "turns_alike" p_turns_alike 3 F_turns_alike := has_of T.u_turns_alike T.m_turns_alike (g_turns_alike T) fun _ _ _ _ _ _ us hl => match us, hl with | [_, _], _ => rfl
theorem hk_turns_alike_0 (T : Txt K mg) : HasK P w K mg base "turns_alike" p_turns_alike 3 F_turns_alike 0 ["one", "other"] [0, 1] := hask_of T.u_turns_alike T.m_turns_alike (g_turns_alike T) 0 ["one", "other"] [0, 1] fun _ _ _ _ _ _ us ws h1 h2 => match us, ws, h1, h2 with | [], [_, _], _, _ => rfl
theorem g__law_jug (T : Txt K mg) : FnOk P w K mg base CX0 1 T.a__law_jug T.d__law_jug p__law_jug (spD K F__law_jug) :=
  fn_ok T.u__law_jug sc__law_jug (fun ws μ R h => len__law_jug h) (fun cdv A outer s H E hr => ⟨t__law_jug K, dv__law_jug hr T.n_len T.n_max, rd__law_jug⟩)
theorem h__law_jug (T : Txt K mg) : Has P w K mg base "_law_jug" p__law_jug 1 F__law_jug := has_of T.u__law_jug T.m__law_jug (g__law_jug T) fun _ _ _ _ _ _ us hl => match us, hl with | [_, _], _ => rfl
theorem g__law_pour (T : Txt K mg) : FnOk P w K mg base CX0 1 T.a__law_pour T.d__law_pour p__law_pour (spD K F__law_pour) :=
  fn_ok T.u__law_pour sc__law_pour (fun ws μ R h => len__law_pour h) (fun cdv A outer s H E hr => ⟨t__law_pour K, dv__law_pour hr T.n_int, rd__law_pour⟩)
theorem h__law_pour (T : Txt K mg) : Has P w K mg base "_law_pour" p__law_pour 1 F__law_pour := has_of T.u__law_pour T.m__law_pour (g__law_pour T) fun _ _ _ _ _ _ us hl => match us, hl with | [_, _], _ => rfl
theorem g__law_turns (T : Txt K mg) : FnOk P w K mg base CX0 2 T.a__law_turns T.d__law_turns p__law_turns (spD K F__law_turns) :=
  fn_ok T.u__law_turns sc__law_turns (fun ws μ R h => len__law_turns h) (fun cdv A outer s H E hr => ⟨t__law_turns K, dv__law_turns hr (h__law_pour T) T.n_range, rd__law_turns⟩)
theorem h__law_turns (T : Txt K mg) : Has P w K mg base "_law_turns" p__law_turns 2 F__law_turns := has_of T.u__law_turns T.m__law_turns (g__law_turns T) fun _ _ _ _ _ _ us hl => match us, hl with | [_, _, _], _ => rfl
theorem g__law_led (T : Txt K mg) : FnOk P w K mg base CX0 1 T.a__law_led T.d__law_led p__law_led (spD K F__law_led) :=
  fn_ok T.u__law_led sc__law_led (fun ws μ R h => len__law_led h) (fun cdv A outer s H E hr => ⟨t__law_led K, dv__law_led hr T.n_max T.n_min, rd__law_led⟩)
theorem h__law_led (T : Txt K mg) : Has P w K mg base "_law_led" p__law_led 1 F__law_led := has_of T.u__law_led T.m__law_led (g__law_led T) fun _ _ _ _ _ _ us hl => match us, hl with | [_, _, _], _ => rfl
theorem g__law_greatest (T : Txt K mg) : FnOk P w K mg base CX0 1 T.a__law_greatest T.d__law_greatest p__law_greatest (spD K F__law_greatest) :=
  fn_ok T.u__law_greatest sc__law_greatest (fun ws μ R h => len__law_greatest h) (fun cdv A outer s H E hr => ⟨t__law_greatest K, dv__law_greatest hr T.n_abs T.n_max, rd__law_greatest⟩)
theorem h__law_greatest (T : Txt K mg) : Has P w K mg base "_law_greatest" p__law_greatest 1 F__law_greatest := has_of T.u__law_greatest T.m__law_greatest (g__law_greatest T) fun _ _ _ _ _ _ us hl => match us, hl with | [_], _ => rfl
theorem g__law_same (T : Txt K mg) : FnOk P w K mg base CX0 2 T.a__law_same T.d__law_same p__law_same (spD K F__law_same) :=
  fn_ok T.u__law_same sc__law_same (fun ws μ R h => len__law_same h) (fun cdv A outer s H E hr => ⟨t__law_same K, dv__law_same hr (h__law_led T) T.n_range, rd__law_same⟩)
theorem h__law_same (T : Txt K mg) : Has P w K mg base "_law_same" p__law_same 2 F__law_same := has_of T.u__law_same T.m__law_same (g__law_same T) fun _ _ _ _ _ _ us hl => match us, hl with | [_, _, _], _ => rfl
theorem g__law_is_form (T : Txt K mg) : FnOk P w K mg base CX0 1 T.a__law_is_form T.d__law_is_form p__law_is_form (spD K F__law_is_form) :=
  fn_ok T.u__law_is_form sc__law_is_form (fun ws μ R h => len__law_is_form h) (fun cdv A outer s H E hr => ⟨t__law_is_form K, dv__law_is_form hr T.n_abs T.n_enumerate, rd__law_is_form⟩)
theorem h__law_is_form (T : Txt K mg) : Has P w K mg base "_law_is_form" p__law_is_form 1 F__law_is_form := has_of T.u__law_is_form T.m__law_is_form (g__law_is_form T) fun _ _ _ _ _ _ us hl => match us, hl with | [_], _ => rfl
theorem g__law_changed (T : Txt K mg) : FnOk P w K mg base CX0 2 T.a__law_changed T.d__law_changed p__law_changed (spD K F__law_changed) :=
  fn_ok T.u__law_changed sc__law_changed (fun ws μ R h => len__law_changed h) (fun cdv A outer s H E hr => ⟨t__law_changed K, dv__law_changed hr (h__law_pour T) T.n_abs T.n_len, rd__law_changed⟩)
theorem h__law_changed (T : Txt K mg) : Has P w K mg base "_law_changed" p__law_changed 2 F__law_changed := has_of T.u__law_changed T.m__law_changed (g__law_changed T) fun _ _ _ _ _ _ us hl => match us, hl with | [_, _], _ => rfl
theorem g__law_form_right (T : Txt K mg) : FnOk P w K mg base CX0 4 T.a__law_form_right T.d__law_form_right p__law_form_right (spD K F__law_form_right) :=
  fn_ok T.u__law_form_right sc__law_form_right (fun ws μ R h => len__law_form_right h) (fun cdv A outer s H E hr => ⟨t__law_form_right K, dv__law_form_right hr (h__law_greatest T) (h__law_is_form T) (h__law_same T) (h_is_short T) (hk_is_short_0 T) (h_short_form T) (hk_short_form_0 T) T.n_isinstance T.n_len T.n_list T.n_min, rd__law_form_right⟩)
theorem h__law_form_right (T : Txt K mg) : Has P w K mg base "_law_form_right" p__law_form_right 4 F__law_form_right := has_of T.u__law_form_right T.m__law_form_right (g__law_form_right T) fun _ _ _ _ _ _ us hl => match us, hl with | [_, _], _ => rfl
theorem g_law (T : Txt K mg) : FnOk P w K mg base CX0 5 T.a_law T.d_law p_law (spD K F_law) :=
  fn_ok T.u_law sc_law (fun ws μ R h => len_law h) (fun cdv A outer s H E hr => ⟨t_law K, dv_law hr (h__law_changed T) (h__law_form_right T) (h__law_greatest T) (h__law_jug T) (h__law_pour T) (h__law_same T) (h__law_turns T) (h_short_form T) (h_turns_alike T) (hk_turns_alike_0 T) T.n_bool T.n_isinstance T.n_len T.n_max T.n_min T.n_range, rd_law⟩)
theorem h_law (T : Txt K mg) : Has P w K mg base "law" p_law 5 F_law := has_of T.u_law T.m_law (g_law T) fun _ _ _ _ _ _ us hl => match us, hl with | [_], _ => rfl
end
theorem vw_triv (H : Hp) : vw (fun _ => False) [] [] H = H := by
  funext b
  unfold vw
  rw [if_neg]
  rintro (z | ⟨k, c, h, _⟩)
  · exact z
  · simp at h
theorem vrs_ints {K : PySem.W.Frag} {H : Hp} {M : List Addr} : ∀ ns : List Int, VRs K H M (ns.map V.int) (wInts ns)
  | [] => .nil
  | n :: ns => .cons (.d (.int n)) (vrs_ints ns)
theorem law_start {K : PySem.W.Frag} {H : Hp} {a : Addr} {ns : List Int} {E : XK} (hl : ns.length ≤ 63) (hS : SqL K H a (ns.map V.int)) : spD K F_law [.ref a] H (fun v _ => v = .bl true) E := by
  refine ⟨fun _ => False, [], [], [.f (wInts ns)], fun w _ => w = .d (.bool true), ⟨rfl, List.nodup_nil, (fun a m => absurd m (List.not_mem_nil)), (fun a m => absurd m (List.not_mem_nil)), (fun a m => False.elim m), (fun k a c h _ => absurd h (by simp))⟩, ?_, ⟨ns, rfl, hl, rfl⟩, fun M' H' v w μ' _ _ r hR => ?_⟩
  · rw [vw_triv]
    exact .cons (.f hS (vrs_ints ns)) .nil
  · subst hR
    exact vr_bool r
theorem all_mk {P : Program} {w : World} {K : PySem.W.Frag} {h : Heap} {mg : Str → Option Value} {fa : Addr} (X : K.In h) (G : h.Ns mainGlobals mg) (hfa : mg "law" = some (.ref fa))
    {od0 an0 : Option Addr} {sl0 : Array (Option Value)} {f0 : Addr} {oc0 kV0 dc0 pm0 cd0 ct0 : Value}
    {od1 an1 : Option Addr} {sl1 : Array (Option Value)} {f1 : Addr} {oc1 kV1 dc1 pm1 cd1 ct1 : Value}
    {od2 an2 : Option Addr} {sl2 : Array (Option Value)} {f2 : Addr} {oc2 kV2 dc2 pm2 cd2 ct2 : Value}
    {od3 an3 : Option Addr} {sl3 : Array (Option Value)} {f3 : Addr} {oc3 kV3 dc3 pm3 cd3 ct3 : Value}
    {od4 an4 : Option Addr} {sl4 : Array (Option Value)} {f4 : Addr} {oc4 kV4 dc4 pm4 cd4 ct4 : Value}
    {od5 an5 : Option Addr} {sl5 : Array (Option Value)} {f5 : Addr} {oc5 kV5 dc5 pm5 cd5 ct5 : Value}
    {od6 an6 : Option Addr} {sl6 : Array (Option Value)} {f6 : Addr} {oc6 kV6 dc6 pm6 cd6 ct6 : Value}
    {od7 an7 : Option Addr} {sl7 : Array (Option Value)} {f7 : Addr} {oc7 kV7 dc7 pm7 cd7 ct7 : Value}
    {od8 an8 : Option Addr} {sl8 : Array (Option Value)} {f8 : Addr} {oc8 kV8 dc8 pm8 cd8 ct8 : Value}
    {od9 an9 : Option Addr} {sl9 : Array (Option Value)} {f9 : Addr} {oc9 kV9 dc9 pm9 cd9 ct9 : Value}
    {od10 an10 : Option Addr} {sl10 : Array (Option Value)} {f10 : Addr} {oc10 kV10 dc10 pm10 cd10 ct10 : Value}
    {od11 an11 : Option Addr} {sl11 : Array (Option Value)} {f11 : Addr} {oc11 kV11 dc11 pm11 cd11 ct11 : Value}
    {od12 an12 : Option Addr} {sl12 : Array (Option Value)} {f12 : Addr} {oc12 kV12 dc12 pm12 cd12 ct12 : Value}
    {od13 an13 : Option Addr} {sl13 : Array (Option Value)} {f13 : Addr} {oc13 kV13 dc13 pm13 cd13 ct13 : Value}
    {od14 an14 : Option Addr} {sl14 : Array (Option Value)} {f14 : Addr} {oc14 kV14 dc14 pm14 cd14 ct14 : Value}
    (a0 : PySem.W.nsIn K mainGlobals "add_turn" = some (some (.ref f0))) (l0 : K.lookup f0 = some ⟨oc0, od0, .func (PySem.W.fnOf "add_turn" "add_turn" (defArgs s_add_turn) (defBody s_add_turn) (defScope s_add_turn) .none kV0 dc0 pm0 an0 cd0 ct0), sl0⟩) (c0 : PySem.W.codeIn K cd0 "add_turn" = true) (k0 : PySem.W.keepIn K (.ref f0) = true)
    (a1 : PySem.W.nsIn K mainGlobals "form_in" = some (some (.ref f1))) (l1 : K.lookup f1 = some ⟨oc1, od1, .func (PySem.W.fnOf "form_in" "form_in" (defArgs s_form_in) (defBody s_form_in) (defScope s_form_in) .none kV1 dc1 pm1 an1 cd1 ct1), sl1⟩) (c1 : PySem.W.codeIn K cd1 "form_in" = true) (k1 : PySem.W.keepIn K (.ref f1) = true)
    (a2 : PySem.W.nsIn K mainGlobals "short_form" = some (some (.ref f2))) (l2 : K.lookup f2 = some ⟨oc2, od2, .func (PySem.W.fnOf "short_form" "short_form" (defArgs s_short_form) (defBody s_short_form) (defScope s_short_form) .none kV2 dc2 pm2 an2 cd2 ct2), sl2⟩) (c2 : PySem.W.codeIn K cd2 "short_form" = true) (k2 : PySem.W.keepIn K (.ref f2) = true)
    (a3 : PySem.W.nsIn K mainGlobals "is_short" = some (some (.ref f3))) (l3 : K.lookup f3 = some ⟨oc3, od3, .func (PySem.W.fnOf "is_short" "is_short" (defArgs s_is_short) (defBody s_is_short) (defScope s_is_short) .none kV3 dc3 pm3 an3 cd3 ct3), sl3⟩) (c3 : PySem.W.codeIn K cd3 "is_short" = true) (k3 : PySem.W.keepIn K (.ref f3) = true)
    (a4 : PySem.W.nsIn K mainGlobals "turns_alike" = some (some (.ref f4))) (l4 : K.lookup f4 = some ⟨oc4, od4, .func (PySem.W.fnOf "turns_alike" "turns_alike" (defArgs s_turns_alike) (defBody s_turns_alike) (defScope s_turns_alike) .none kV4 dc4 pm4 an4 cd4 ct4), sl4⟩) (c4 : PySem.W.codeIn K cd4 "turns_alike" = true) (k4 : PySem.W.keepIn K (.ref f4) = true)
    (a5 : PySem.W.nsIn K mainGlobals "_law_jug" = some (some (.ref f5))) (l5 : K.lookup f5 = some ⟨oc5, od5, .func (PySem.W.fnOf "_law_jug" "_law_jug" (defArgs s__law_jug) (defBody s__law_jug) (defScope s__law_jug) .none kV5 dc5 pm5 an5 cd5 ct5), sl5⟩) (c5 : PySem.W.codeIn K cd5 "_law_jug" = true) (k5 : PySem.W.keepIn K (.ref f5) = true)
    (a6 : PySem.W.nsIn K mainGlobals "_law_pour" = some (some (.ref f6))) (l6 : K.lookup f6 = some ⟨oc6, od6, .func (PySem.W.fnOf "_law_pour" "_law_pour" (defArgs s__law_pour) (defBody s__law_pour) (defScope s__law_pour) .none kV6 dc6 pm6 an6 cd6 ct6), sl6⟩) (c6 : PySem.W.codeIn K cd6 "_law_pour" = true) (k6 : PySem.W.keepIn K (.ref f6) = true)
    (a7 : PySem.W.nsIn K mainGlobals "_law_turns" = some (some (.ref f7))) (l7 : K.lookup f7 = some ⟨oc7, od7, .func (PySem.W.fnOf "_law_turns" "_law_turns" (defArgs s__law_turns) (defBody s__law_turns) (defScope s__law_turns) .none kV7 dc7 pm7 an7 cd7 ct7), sl7⟩) (c7 : PySem.W.codeIn K cd7 "_law_turns" = true) (k7 : PySem.W.keepIn K (.ref f7) = true)
    (a8 : PySem.W.nsIn K mainGlobals "_law_led" = some (some (.ref f8))) (l8 : K.lookup f8 = some ⟨oc8, od8, .func (PySem.W.fnOf "_law_led" "_law_led" (defArgs s__law_led) (defBody s__law_led) (defScope s__law_led) .none kV8 dc8 pm8 an8 cd8 ct8), sl8⟩) (c8 : PySem.W.codeIn K cd8 "_law_led" = true) (k8 : PySem.W.keepIn K (.ref f8) = true)
    (a9 : PySem.W.nsIn K mainGlobals "_law_greatest" = some (some (.ref f9))) (l9 : K.lookup f9 = some ⟨oc9, od9, .func (PySem.W.fnOf "_law_greatest" "_law_greatest" (defArgs s__law_greatest) (defBody s__law_greatest) (defScope s__law_greatest) .none kV9 dc9 pm9 an9 cd9 ct9), sl9⟩) (c9 : PySem.W.codeIn K cd9 "_law_greatest" = true) (k9 : PySem.W.keepIn K (.ref f9) = true)
    (a10 : PySem.W.nsIn K mainGlobals "_law_same" = some (some (.ref f10))) (l10 : K.lookup f10 = some ⟨oc10, od10, .func (PySem.W.fnOf "_law_same" "_law_same" (defArgs s__law_same) (defBody s__law_same) (defScope s__law_same) .none kV10 dc10 pm10 an10 cd10 ct10), sl10⟩) (c10 : PySem.W.codeIn K cd10 "_law_same" = true) (k10 : PySem.W.keepIn K (.ref f10) = true)
    (a11 : PySem.W.nsIn K mainGlobals "_law_is_form" = some (some (.ref f11))) (l11 : K.lookup f11 = some ⟨oc11, od11, .func (PySem.W.fnOf "_law_is_form" "_law_is_form" (defArgs s__law_is_form) (defBody s__law_is_form) (defScope s__law_is_form) .none kV11 dc11 pm11 an11 cd11 ct11), sl11⟩) (c11 : PySem.W.codeIn K cd11 "_law_is_form" = true) (k11 : PySem.W.keepIn K (.ref f11) = true)
    (a12 : PySem.W.nsIn K mainGlobals "_law_changed" = some (some (.ref f12))) (l12 : K.lookup f12 = some ⟨oc12, od12, .func (PySem.W.fnOf "_law_changed" "_law_changed" (defArgs s__law_changed) (defBody s__law_changed) (defScope s__law_changed) .none kV12 dc12 pm12 an12 cd12 ct12), sl12⟩) (c12 : PySem.W.codeIn K cd12 "_law_changed" = true) (k12 : PySem.W.keepIn K (.ref f12) = true)
    (a13 : PySem.W.nsIn K mainGlobals "_law_form_right" = some (some (.ref f13))) (l13 : K.lookup f13 = some ⟨oc13, od13, .func (PySem.W.fnOf "_law_form_right" "_law_form_right" (defArgs s__law_form_right) (defBody s__law_form_right) (defScope s__law_form_right) .none kV13 dc13 pm13 an13 cd13 ct13), sl13⟩) (c13 : PySem.W.codeIn K cd13 "_law_form_right" = true) (k13 : PySem.W.keepIn K (.ref f13) = true)
    (a14 : PySem.W.nsIn K mainGlobals "law" = some (some (.ref f14))) (l14 : K.lookup f14 = some ⟨oc14, od14, .func (PySem.W.fnOf "law" "law" (defArgs s_law) (defBody s_law) (defScope s_law) .none kV14 dc14 pm14 an14 cd14 ct14), sl14⟩) (c14 : PySem.W.codeIn K cd14 "law" = true) (k14 : PySem.W.keepIn K (.ref f14) = true)
    (z0 : PySem.W.nsIn K mainGlobals "abs" = some none)
    (z1 : PySem.W.nsIn K mainGlobals "bool" = some none)
    (z2 : PySem.W.nsIn K mainGlobals "enumerate" = some none)
    (z3 : PySem.W.nsIn K mainGlobals "int" = some none)
    (z4 : PySem.W.nsIn K mainGlobals "isinstance" = some none)
    (z5 : PySem.W.nsIn K mainGlobals "len" = some none)
    (z6 : PySem.W.nsIn K mainGlobals "list" = some none)
    (z7 : PySem.W.nsIn K mainGlobals "max" = some none)
    (z8 : PySem.W.nsIn K mainGlobals "min" = some none)
    (z9 : PySem.W.nsIn K mainGlobals "range" = some none) :
    ∃ fd : FuncData, (∀ (s : Shared) (v : Value), BindsTo s fd ⟨[v], []⟩ [("script", v)]) ∧ ∀ base : Heap, K.In base → base.Ns mainGlobals mg → FnOk P w K mg base CX0 5 fa fd ["script"] (spD K F_law) := by
  have e := hfa.symm.trans (PySem.W.mg_of X G a14)
  cases e
  let T : Txt K mg := ⟨_, _, fun_mk (st := s_add_turn) l0 c0 k0, PySem.W.mg_of X G a0, _, _, fun_mk (st := s_form_in) l1 c1 k1, PySem.W.mg_of X G a1, _, _, fun_mk (st := s_short_form) l2 c2 k2, PySem.W.mg_of X G a2, _, _, fun_mk (st := s_is_short) l3 c3 k3, PySem.W.mg_of X G a3, _, _, fun_mk (st := s_turns_alike) l4 c4 k4, PySem.W.mg_of X G a4, _, _, fun_mk (st := s__law_jug) l5 c5 k5, PySem.W.mg_of X G a5, _, _, fun_mk (st := s__law_pour) l6 c6 k6, PySem.W.mg_of X G a6, _, _, fun_mk (st := s__law_turns) l7 c7 k7, PySem.W.mg_of X G a7, _, _, fun_mk (st := s__law_led) l8 c8 k8, PySem.W.mg_of X G a8, _, _, fun_mk (st := s__law_greatest) l9 c9 k9, PySem.W.mg_of X G a9, _, _, fun_mk (st := s__law_same) l10 c10 k10, PySem.W.mg_of X G a10, _, _, fun_mk (st := s__law_is_form) l11 c11 k11, PySem.W.mg_of X G a11, _, _, fun_mk (st := s__law_changed) l12 c12 k12, PySem.W.mg_of X G a12, _, _, fun_mk (st := s__law_form_right) l13 c13 k13, PySem.W.mg_of X G a13, _, _, fun_mk (st := s_law) l14 c14 k14, PySem.W.mg_of X G a14, PySem.W.mg_none_of X G z0, PySem.W.mg_none_of X G z1, PySem.W.mg_none_of X G z2, PySem.W.mg_none_of X G z3, PySem.W.mg_none_of X G z4, PySem.W.mg_none_of X G z5, PySem.W.mg_none_of X G z6, PySem.W.mg_none_of X G z7, PySem.W.mg_none_of X G z8, PySem.W.mg_none_of X G z9⟩
  exact ⟨PySem.W.fnOf "law" "law" (defArgs s_law) (defBody s_law) (defScope s_law) .none kV14 dc14 pm14 an14 cd14 ct14, fun s v => .of_eq rfl, fun base _ _ => g_law T⟩
end Lw

open PySem PySem.W PyProof.Rows
set_option maxHeartbeats 0 in
set_option maxRecDepth 100000 in
theorem PySem.Challenge.cw_listworks_k10_short_forms_in_all_rooms_holds : PySem.Challenge.rw_listworks_k10_short_forms_in_all_rooms.Holds := by
  w_on; o_law; k_head; (case hw => w_witness2)
  k_fill
  refine L2.walk_of (l := PySem.Challenge.rw_listworks_k10_short_forms_in_all_rooms) (n := 63) (k := 5) (x := "script") (CX := fun _ => L2.CX0) (sp := fun w => Pd.spD _ Lw.F_law) rfl (by decide) rfl ⟨rfl, by decide, by decide⟩ (fun w h Y => PySem.W.kIn_of Y) ?F (fun _ _ a ns hl _ hS => Lw.law_start hl hS) (fun _ _ _ _ _ h => h)
  case F =>
    intro w mg fa h KX G hmg
    refine' Lw.all_mk KX G hmg ?a0 ?l0 ?c0 ?k0 ?a1 ?l1 ?c1 ?k1 ?a2 ?l2 ?c2 ?k2 ?a3 ?l3 ?c3 ?k3 ?a4 ?l4 ?c4 ?k4 ?a5 ?l5 ?c5 ?k5 ?a6 ?l6 ?c6 ?k6 ?a7 ?l7 ?c7 ?k7 ?a8 ?l8 ?c8 ?k8 ?a9 ?l9 ?c9 ?k9 ?a10 ?l10 ?c10 ?k10 ?a11 ?l11 ?c11 ?k11 ?a12 ?l12 ?c12 ?k12 ?a13 ?l13 ?c13 ?k13 ?a14 ?l14 ?c14 ?k14 ?z0 ?z1 ?z2 ?z3 ?z4 ?z5 ?z6 ?z7 ?z8 ?z9
    (case a0 => k_is); (case l0 => k_is); (case c0 => k_is); (case k0 => k_is); (case a1 => k_is); (case l1 => k_is); (case c1 => k_is); (case k1 => k_is); (case a2 => k_is); (case l2 => k_is); (case c2 => k_is); (case k2 => k_is); (case a3 => k_is); (case l3 => k_is); (case c3 => k_is); (case k3 => k_is); (case a4 => k_is); (case l4 => k_is); (case c4 => k_is); (case k4 => k_is); (case a5 => k_is); (case l5 => k_is); (case c5 => k_is); (case k5 => k_is); (case a6 => k_is); (case l6 => k_is); (case c6 => k_is); (case k6 => k_is); (case a7 => k_is); (case l7 => k_is); (case c7 => k_is); (case k7 => k_is); (case a8 => k_is); (case l8 => k_is); (case c8 => k_is); (case k8 => k_is); (case a9 => k_is); (case l9 => k_is); (case c9 => k_is); (case k9 => k_is); (case a10 => k_is); (case l10 => k_is); (case c10 => k_is); (case k10 => k_is); (case a11 => k_is); (case l11 => k_is); (case c11 => k_is); (case k11 => k_is); (case a12 => k_is); (case l12 => k_is); (case c12 => k_is); (case k12 => k_is); (case a13 => k_is); (case l13 => k_is); (case c13 => k_is); (case k13 => k_is); (case a14 => k_is); (case l14 => k_is); (case c14 => k_is); (case k14 => k_is); (case z0 => k_is); (case z1 => k_is); (case z2 => k_is); (case z3 => k_is); (case z4 => k_is); (case z5 => k_is); (case z6 => k_is); (case z7 => k_is); (case z8 => k_is); (case z9 => k_is)

