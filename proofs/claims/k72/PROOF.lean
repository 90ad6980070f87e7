import PyProof.Rows.All
import Wide.All
import OpenK.AllK
import Wide.FinOn
import HandS.ForMost
import HandS.Flow
import HandS.Style
import HandS.Wide
import HandS.Evl
import HandS.Defaults
import HandS.Exc
import HandS.WideBits
import HandS.IsInst
import HandS.ExcIs
import HandS.ExcInit
import HandS.ExcField
import HandS.TryMany
import HandS.WordsExc
import KE.KExcSuper
import KE.KSuper
import PyProof.ReprRoads
import PyProof.ReprLen
import PyProof.FitsInt
import PySem.Challenge.RW_listworks_k72_runs_that_go_on
set_option Elab.async false
set_option linter.all false
set_option maxRecDepth 100000
set_option maxHeartbeats 8000000
/-! Pd: own layer. Values as plain data, lists that change as numbered cells; readings as wishes over (slots, cells), no heap in sight. -/
namespace Pd
open PySem L2
open Evl (Ex)

/-- a value: plain data; the k-th cell; a tuple that holds such -/
inductive W where
  | d (x : PyData)
  | m (k : Nat)
  | t (ws : List W)
  | f (ws : List W)
  | k (v : V)
/-- what a cell holds -/
inductive C where
  | lst (ws : List W)
  | xd (d : Addr) (w : W)
abbrev G := List (Option W)
abbrev Mu := List (Option C)

variable {K : PySem.W.Frag}
/-! plain data at an address: lists are tracked ones -/
mutual
inductive DQ (K : PySem.W.Frag) (H : Hp) : V → PyData → Prop
  | non : DQ K H .non .none
  | bl (b : Bool) : DQ K H (.bl b) (.bool b)
  | int (i : Int) : DQ K H (.int i) (.int i)
  | str (x : PySem.Str) : DQ K H (.str x) (.str x)
  | lst {a : Addr} {xs : List V} {ds : List PyData} : H a = some (.lst xs) → DQs K H xs ds → DQ K H (.ref a) (.list ds)
  | tup {a : Addr} {xs : List V} {ds : List PyData} : SqT K H a xs → DQs K H xs ds → DQ K H (.ref a) (.tuple ds)
inductive DQs (K : PySem.W.Frag) (H : Hp) : List V → List PyData → Prop
  | nil : DQs K H [] []
  | cons {v : V} {vs : List V} {d : PyData} {ds : List PyData} : DQ K H v d → DQs K H vs ds → DQs K H (v :: vs) (d :: ds)
end
mutual
theorem DQ.dp {H : Hp} : ∀ {v : V} {d : PyData}, DQ K H v d → Dp K H v d
  | _, _, .non => .non
  | _, _, .bl b => .bl b
  | _, _, .int i => .int i
  | _, _, .str x => .str x
  | _, _, .lst h1 h2 => .lst (SqL.of h1) (DQs.dp h2)
  | _, _, .tup h1 h2 => .tup h1 (DQs.dp h2)
theorem DQs.dp {H : Hp} : ∀ {vs : List V} {ds : List PyData}, DQs K H vs ds → DpAll K H vs ds
  | _, _, .nil => .nil
  | _, _, .cons h1 h2 => .cons (DQ.dp h1) (DQs.dp h2)
end
mutual
inductive VR (K : PySem.W.Frag) (H : Hp) (M : List Addr) : V → W → Prop
  | d {v : V} {x : PyData} : DQ K H v x → VR K H M v (.d x)
  | m {k : Nat} {a : Addr} : M[k]? = some a → VR K H M (.ref a) (.m k)
  | t {a : Addr} {vs : List V} {ws : List W} : SqT K H a vs → VRs K H M vs ws → VR K H M (.ref a) (.t ws)
  | f {a : Addr} {vs : List V} {ws : List W} : SqL K H a vs → VRs K H M vs ws → VR K H M (.ref a) (.f ws)
  | k (v : V) : VR K H M v (.k v)
inductive VRs (K : PySem.W.Frag) (H : Hp) (M : List Addr) : List V → List W → Prop
  | nil : VRs K H M [] []
  | cons {v : V} {w : W} {vs : List V} {ws : List W} : VR K H M v w → VRs K H M vs ws → VRs K H M (v :: vs) (w :: ws)
end
mutual
theorem dp_mono {H H' : Hp} (e : Ex H H') : ∀ {v : V} {d : PyData}, DQ K H v d → DQ K H' v d
  | _, _, .non => .non
  | _, _, .bl b => .bl b
  | _, _, .int i => .int i
  | _, _, .str x => .str x
  | _, _, .lst h1 h2 => .lst (e _ _ h1) (dpa_mono e h2)
  | _, _, .tup h1 h2 => .tup (Evl.ex_t e h1) (dpa_mono e h2)
theorem dpa_mono {H H' : Hp} (e : Ex H H') : ∀ {vs : List V} {ds : List PyData}, DQs K H vs ds → DQs K H' vs ds
  | _, _, .nil => .nil
  | _, _, .cons h1 h2 => .cons (dp_mono e h1) (dpa_mono e h2)
end
def Pre (M M' : List Addr) : Prop := ∀ (k : Nat) a, M[k]? = some a → M'[k]? = some a
theorem Pre.refl (M : List Addr) : Pre M M := fun _ _ h => h
theorem Pre.trans {M M' M'' : List Addr} (a : Pre M M') (b : Pre M' M'') : Pre M M'' := fun k x h => b k x (a k x h)
mutual
theorem VR.mono {H H' : Hp} {M M' : List Addr} (e : Ex H H') (p : Pre M M') : ∀ {v : V} {w : W}, VR K H M v w → VR K H' M' v w
  | _, _, .d h => .d (dp_mono e h)
  | _, _, .m h => .m (p _ _ h)
  | _, _, .t h1 h2 => .t (Evl.ex_t e h1) (VRs.mono e p h2)
  | _, _, .f h1 h2 => .f (Evl.ex_l e h1) (VRs.mono e p h2)
  | _, _, .k v => .k v
theorem VRs.mono {H H' : Hp} {M M' : List Addr} (e : Ex H H') (p : Pre M M') : ∀ {vs : List V} {ws : List W}, VRs K H M vs ws → VRs K H' M' vs ws
  | _, _, .nil => .nil
  | _, _, .cons h1 h2 => .cons (VR.mono e p h1) (VRs.mono e p h2)
end
section lists
variable {H : Hp} {M : List Addr}
theorem VRs.length : ∀ {vs : List V} {ws : List W}, VRs K H M vs ws → vs.length = ws.length
  | _, _, .nil => rfl
  | _, _, .cons _ t => congrArg (· + 1) (VRs.length t)
theorem VRs.append : ∀ {vs us : List V} {ws zs : List W}, VRs K H M vs ws → VRs K H M us zs → VRs K H M (vs ++ us) (ws ++ zs)
  | _, _, _, _, .nil, s => s
  | _, _, _, _, .cons r t, s => .cons r (VRs.append t s)
theorem VRs.snoc {vs : List V} {ws : List W} {v : V} {w : W} (h : VRs K H M vs ws) (h2 : VR K H M v w) : VRs K H M (vs ++ [v]) (ws ++ [w]) := h.append (.cons h2 .nil)
theorem VRs.take : ∀ {vs : List V} {ws : List W} (n : Nat), VRs K H M vs ws → VRs K H M (vs.take n) (ws.take n)
  | _, _, 0, _ => by simpa using VRs.nil
  | _, _, _ + 1, .nil => .nil
  | _, _, n + 1, .cons r t => .cons r (VRs.take n t)
theorem VRs.drop : ∀ {vs : List V} {ws : List W} (n : Nat), VRs K H M vs ws → VRs K H M (vs.drop n) (ws.drop n)
  | _, _, 0, r => by simpa using r
  | _, _, _ + 1, .nil => .nil
  | _, _, n + 1, .cons _ t => VRs.drop n t
theorem VRs.dropLast {vs : List V} {ws : List W} (h : VRs K H M vs ws) : VRs K H M vs.dropLast ws.dropLast := by
  rw [List.dropLast_eq_take, List.dropLast_eq_take, h.length]
  exact h.take _
theorem VRs.get : ∀ {vs : List V} {ws : List W} {i : Nat} {v : V}, VRs K H M vs ws → vs[i]? = some v → ∃ w, ws[i]? = some w ∧ VR K H M v w
  | _, _, _, _, .nil, e => by simp at e
  | _, _, 0, _, .cons r _, e => by
    simp at e
    subst e
    exact ⟨_, rfl, r⟩
  | _, _, i + 1, v, .cons _ t, e => by
    obtain ⟨u, h1, h2⟩ := VRs.get (i := i) (v := v) t (by simpa using e)
    exact ⟨u, by simpa using h1, h2⟩
theorem VRs.getW : ∀ {vs : List V} {ws : List W} {i : Nat} {w : W}, VRs K H M vs ws → ws[i]? = some w → ∃ v, vs[i]? = some v ∧ VR K H M v w
  | _, _, _, _, .nil, e => by simp at e
  | _, _, 0, _, .cons r _, e => by
    simp at e
    subst e
    exact ⟨_, rfl, r⟩
  | _, _, i + 1, v, .cons _ t, e => by
    obtain ⟨u, h1, h2⟩ := VRs.getW (i := i) (w := v) t (by simpa using e)
    exact ⟨u, by simpa using h1, h2⟩
theorem VRs.set {v : V} {w : W} (r : VR K H M v w) : ∀ {vs : List V} {ws : List W} (i : Nat), VRs K H M vs ws → VRs K H M (vs.set i v) (ws.set i w)
  | _, _, _, .nil => .nil
  | _, _, 0, .cons _ t => .cons r t
  | _, _, i + 1, .cons q t => .cons q (VRs.set r i t)
theorem VRs.eraseIdx : ∀ {vs : List V} {ws : List W} (i : Nat), VRs K H M vs ws → VRs K H M (vs.eraseIdx i) (ws.eraseIdx i)
  | _, _, _, .nil => .nil
  | _, _, 0, .cons _ t => t
  | _, _, i + 1, .cons q t => .cons q (VRs.eraseIdx i t)
theorem VRs.reverse : ∀ {vs : List V} {ws : List W}, VRs K H M vs ws → VRs K H M vs.reverse ws.reverse
  | _, _, .nil => .nil
  | _, _, .cons r t => by
    rw [List.reverse_cons, List.reverse_cons]
    exact (VRs.reverse t).snoc r
theorem VRs.of_dp : ∀ {vs : List V} {ds : List PyData}, DQs K H vs ds → VRs K H M vs (ds.map W.d)
  | _, _, .nil => .nil
  | _, _, .cons h t => .cons (.d h) (VRs.of_dp t)
theorem VRs.dp : ∀ {vs : List V} {ds : List PyData}, VRs K H M vs (ds.map W.d) → DQs K H vs ds
  | _, [], h => by cases h; exact .nil
  | _, _ :: _, h => by
    cases h with
    | cons h t =>
      cases h with
      | d h => exact .cons h (VRs.dp t)
end lists

/-! ### what is hidden, the view -/
def hid (A : Addr → Prop) (M : List Addr) (μ : Mu) (a : Addr) : Prop := A a ∨ ∃ (k : Nat) (c : C), M[k]? = some a ∧ μ[k]? = some (some c)
open Classical in
noncomputable def vw (A : Addr → Prop) (M : List Addr) (μ : Mu) (H : Hp) : Hp := fun a => if hid A M μ a then none else H a
section view
variable {A : Addr → Prop} {M M' : List Addr} {μ μ' : Mu} {H H' : Hp} {a : Addr} {o : HO}
theorem vw_some (h : vw A M μ H a = some o) : ¬ hid A M μ a ∧ H a = some o := by
  unfold vw at h
  split at h
  · cases h
  · exact ⟨‹_›, h⟩
theorem vw_of (h : ¬ hid A M μ a) (e : H a = some o) : vw A M μ H a = some o := by
  unfold vw
  rw [if_neg h]
  exact e
theorem vw_le : Ex (vw A M μ H) H := fun _ _ h => (vw_some h).2
theorem vw_ex (e : Ex H H') : Ex (vw A M μ H) (vw A M μ H') := fun a o h => vw_of (vw_some h).1 (e a o (vw_some h).2)
def CT (K : PySem.W.Frag) (H : Hp) (M : List Addr) (p : Addr) (o : HO) : C → Prop
  | .lst ws => ∃ vs, o = .lst vs ∧ VRs K H M vs ws
  | .xd d w => p = d ∧ ∃ v, o = .xd [(("value" : PySem.Str), v)] ∧ VR K H M v w
structure MOk (K : PySem.W.Frag) (A : Addr → Prop) (M : List Addr) (H : Hp) (μ : Mu) : Prop where
  len : M.length = μ.length
  nd : M.Nodup
  nA : ∀ a ∈ M, ¬ A a
  al : ∀ a ∈ M, H a ≠ none
  aA : ∀ a, A a → H a ≠ none
  ct : ∀ (k : Nat) a c, M[k]? = some a → μ[k]? = some (some c) → ∃ o, H a = some o ∧ CT K (vw A M μ H) M a o c
def GR (K : PySem.W.Frag) (H : Hp) (M : List Addr) (σ : L2.St) (Γ : G) : Prop := σ.length = Γ.length ∧ ∀ (i : Nat) w, Γ[i]? = some (some w) → ∃ v, σ[i]? = some (some v) ∧ VR K H M v w
structure Cn (K : PySem.W.Frag) (A : Addr → Prop) (M : List Addr) (σ : L2.St) (H : Hp) (Γ : G) (μ : Mu) : Prop where
  mo : MOk K A M H μ
  gr : GR K (vw A M μ H) M σ Γ
structure Eff (A : Addr → Prop) (M : List Addr) (μ : Mu) (H : Hp) (M' : List Addr) (μ' : Mu) (H' : Hp) : Prop where
  pre : Pre M M'
  own : ∀ a o, A a → H a = some o → H' a = some o
  ex : Ex (vw A M μ H) (vw A M' μ' H')
theorem Eff.refl : Eff A M μ H M μ H := ⟨Pre.refl _, fun _ _ _ h => h, Ex.refl _⟩
theorem Eff.trans {M'' : List Addr} {μ'' : Mu} {H'' : Hp} (a : Eff A M μ H M' μ' H') (b : Eff A M' μ' H' M'' μ'' H'') : Eff A M μ H M'' μ'' H'' :=
  ⟨a.pre.trans b.pre, fun x o h e => b.own x o h (a.own x o h e), a.ex.trans b.ex⟩
theorem Eff.of_ex (e : Ex H H') : Eff A M μ H M μ H' := ⟨Pre.refl _, fun a o _ h => e a o h, vw_ex e⟩
theorem CT.mono {c : C} {x : Addr} (e : Ex H H') (p : Pre M M') (h : CT K H M x o c) : CT K H' M' x o c := by
  cases c with
  | lst ws =>
    obtain ⟨vs, h1, h2⟩ := h
    exact ⟨vs, h1, h2.mono e p⟩
  | xd d w =>
    obtain ⟨h0, v, h1, h2⟩ := h
    exact ⟨h0, v, h1, h2.mono e p⟩
theorem MOk.ex (h : MOk K A M H μ) (e : Ex H H') : MOk K A M H' μ := by
  have nn : ∀ a, H a ≠ none → H' a ≠ none := fun a hn => by
    cases q : H a with
    | none => exact absurd q hn
    | some o => rw [e a o q]; intro z; cases z
  exact ⟨h.len, h.nd, h.nA, fun a m => nn a (h.al a m), fun a m => nn a (h.aA a m), fun k a c h1 h2 => by
    obtain ⟨o, q1, q2⟩ := h.ct k a c h1 h2
    exact ⟨o, e a o q1, q2.mono (vw_ex e) (Pre.refl _)⟩⟩
theorem GR.mono {σ : L2.St} {Γ : G} (h : GR K H M σ Γ) (e : Ex H H') (p : Pre M M') : GR K H' M' σ Γ :=
  ⟨h.1, fun i w hw => let ⟨v, h1, h2⟩ := h.2 i w hw; ⟨v, h1, h2.mono e p⟩⟩
theorem GR.set {σ : L2.St} {Γ : G} {i : Nat} {v : V} {w : W} (h : GR K H M σ Γ) (r : VR K H M v w) : GR K H M (σ.set i (some v)) (Γ.set i (some w)) := by
  refine ⟨by rw [List.length_set, List.length_set]; exact h.1, fun j u hu => ?_⟩
  by_cases hj : i = j
  · subst hj
    rw [List.getElem?_set] at hu
    rw [if_pos rfl] at hu
    split at hu
    · have : w = u := by simpa using hu
      subst this
      refine ⟨v, ?_, r⟩
      rw [List.getElem?_set, if_pos rfl, if_pos (by rw [h.1]; assumption)]
    · cases hu
  · rw [List.getElem?_set, if_neg hj] at hu
    obtain ⟨z, h1, h2⟩ := h.2 j u hu
    exact ⟨z, by rw [List.getElem?_set, if_neg hj]; exact h1, h2⟩
theorem GR.drop {σ : L2.St} {Γ : G} {i : Nat} (h : GR K H M σ Γ) : GR K H M (σ.set i none) (Γ.set i none) := by
  refine ⟨by rw [List.length_set, List.length_set]; exact h.1, fun j u hu => ?_⟩
  by_cases hj : i = j
  · subst hj
    rw [List.getElem?_set, if_pos rfl] at hu
    split at hu
    · cases hu
    · cases hu
  · rw [List.getElem?_set, if_neg hj] at hu
    obtain ⟨z, h1, h2⟩ := h.2 j u hu
    exact ⟨z, by rw [List.getElem?_set, if_neg hj]; exact h1, h2⟩
theorem Cn.ex {σ : L2.St} {Γ : G} (h : Cn K A M σ H Γ μ) (e : Ex H H') : Cn K A M σ H' Γ μ := ⟨h.mo.ex e, h.gr.mono (vw_ex e) (Pre.refl _)⟩
/-- the slots behind a change of the cells -/
theorem Cn.eff {σ : L2.St} {Γ : G} (h : Cn K A M σ H Γ μ) (e : Eff A M μ H M' μ' H') (mo : MOk K A M' H' μ') : Cn K A M' σ H' Γ μ' := ⟨mo, h.gr.mono e.ex e.pre⟩
theorem GR.wipe {σ : L2.St} {Γ : G} (h : GR K H M σ Γ) : ∀ vs : List Nat, GR K H M (wipe σ vs) (vs.foldr (fun v g => g.set v none) Γ)
  | [] => h
  | v :: vs => (h.wipe vs).drop
/-! ### changing a cell, adding one, taking one away -/
theorem MOk.ne_hid (h : MOk K A M H μ) {p : Addr} (hp : H p = none) : ¬ hid A M μ p := fun z => by
  rcases z with z | ⟨k, c, h1, _⟩
  · exact h.aA p z hp
  · exact h.al p (List.mem_of_getElem? h1) hp
theorem hid_set {k : Nat} {c c' : C} (hk : μ[k]? = some (some c)) : hid A M (μ.set k (some c')) a ↔ hid A M μ a := by
  constructor
  · rintro (z | ⟨j, d, h1, h2⟩)
    · exact .inl z
    · by_cases hj : k = j
      · subst hj
        exact .inr ⟨k, c, h1, hk⟩
      · rw [List.getElem?_set, if_neg hj] at h2
        exact .inr ⟨j, d, h1, h2⟩
  · rintro (z | ⟨j, d, h1, h2⟩)
    · exact .inl z
    · by_cases hj : k = j
      · subst hj
        refine .inr ⟨k, c', h1, ?_⟩
        rw [List.getElem?_set, if_pos rfl, if_pos ((List.getElem?_eq_some_iff.mp h2).1)]
      · exact .inr ⟨j, d, h1, by rw [List.getElem?_set, if_neg hj]; exact h2⟩
theorem vw_set {k : Nat} {c c' : C} {p : Addr} (hp : M[k]? = some p) (hk : μ[k]? = some (some c)) : vw A M (μ.set k (some c')) (upd H p o) = vw A M μ H := by
  funext b
  unfold vw
  by_cases hb : hid A M μ b
  · rw [if_pos hb, if_pos ((hid_set hk).mpr hb)]
  · rw [if_neg hb, if_neg fun z => hb ((hid_set hk).mp z)]
    refine upd_ne fun z => hb ?_
    subst z
    exact .inr ⟨k, c, hp, hk⟩
theorem MOk.write {k : Nat} {c c' : C} {p : Addr} (h : MOk K A M H μ) (hp : M[k]? = some p) (hk : μ[k]? = some (some c)) (hc : CT K (vw A M μ H) M p o c') : MOk K A M (upd H p o) (μ.set k (some c')) := by
  have ev := vw_set (A := A) (H := H) (o := o) (c' := c') hp hk
  have nn : ∀ a, H a ≠ none → upd H p o a ≠ none := fun a hn => by
    by_cases e : a = p
    · subst e; rw [upd_same]; intro z; cases z
    · rw [upd_ne e]; exact hn
  refine ⟨by rw [List.length_set]; exact h.len, h.nd, h.nA, fun a m => nn a (h.al a m), fun a m => nn a (h.aA a m), fun j b d h1 h2 => ?_⟩
  rw [ev]
  by_cases hj : k = j
  · subst hj
    rw [hp] at h1
    cases h1
    rw [List.getElem?_set, if_pos rfl] at h2
    split at h2
    · have : c' = d := by simpa using h2
      subst this
      exact ⟨o, upd_same, hc⟩
    · cases h2
  · rw [List.getElem?_set, if_neg hj] at h2
    obtain ⟨u, q1, q2⟩ := h.ct j b d h1 h2
    refine ⟨u, ?_, q2⟩
    rw [upd_ne ?_]
    · exact q1
    · rintro rfl
      have l1 := (List.getElem?_eq_some_iff.mp h1)
      have l2 := (List.getElem?_eq_some_iff.mp hp)
      exact hj ((List.getElem_inj h.nd).mp (l2.2.trans l1.2.symm))
theorem Eff.write {k : Nat} {c c' : C} {p : Addr} (h : MOk K A M H μ) (hp : M[k]? = some p) (hk : μ[k]? = some (some c)) : Eff A M μ H M (μ.set k (some c')) (upd H p o) := by
  refine ⟨Pre.refl _, fun a u ha e => ?_, by rw [vw_set hp hk]; exact Ex.refl _⟩
  rw [upd_ne ?_]
  · exact e
  · rintro rfl
    exact h.nA a (List.mem_of_getElem? hp) ha
theorem pre_snoc {M : List Addr} {p : Addr} : Pre M (M ++ [p]) := fun k a h => by
  rw [List.getElem?_append_left (List.getElem?_eq_some_iff.mp h).1]
  exact h
theorem hid_new {p : Addr} {c : C} (h : M.length = μ.length) : hid A (M ++ [p]) (μ ++ [some c]) a ↔ hid A M μ a ∨ a = p := by
  constructor
  · rintro (z | ⟨j, d, h1, h2⟩)
    · exact .inl (.inl z)
    · by_cases hj : j < M.length
      · rw [List.getElem?_append_left hj] at h1
        rw [List.getElem?_append_left (by omega)] at h2
        exact .inl (.inr ⟨j, d, h1, h2⟩)
      · have hj2 : j = M.length := by
          have := (List.getElem?_eq_some_iff.mp h1).1
          simp at this
          omega
        subst hj2
        rw [List.getElem?_append_right (Nat.le_refl _)] at h1
        simp at h1
        exact .inr h1.symm
  · rintro ((z | ⟨j, d, h1, h2⟩) | z)
    · exact .inl z
    · refine .inr ⟨j, d, ?_, ?_⟩
      · rw [List.getElem?_append_left (List.getElem?_eq_some_iff.mp h1).1]; exact h1
      · rw [List.getElem?_append_left (List.getElem?_eq_some_iff.mp h2).1]; exact h2
    · subst z
      refine .inr ⟨M.length, c, ?_, ?_⟩
      · rw [List.getElem?_append_right (Nat.le_refl _)]; simp
      · rw [h, List.getElem?_append_right (Nat.le_refl _)]; simp
theorem vw_new {p : Addr} {c : C} (h : M.length = μ.length) (hp : H p = none) : vw A (M ++ [p]) (μ ++ [some c]) (upd H p o) = vw A M μ H := by
  funext b
  unfold vw
  by_cases hb : hid A M μ b
  · rw [if_pos hb, if_pos ((hid_new h).mpr (.inl hb))]
  · rw [if_neg hb]
    by_cases e : b = p
    · subst e
      rw [if_pos ((hid_new h).mpr (.inr rfl)), hp]
    · rw [if_neg fun z => (((hid_new h).mp z).elim hb e), upd_ne e]
theorem MOk.new {c : C} {p : Addr} (h : MOk K A M H μ) (hp : H p = none) (hc : CT K (vw A M μ H) M p o c) : MOk K A (M ++ [p]) (upd H p o) (μ ++ [some c]) := by
  have ev := vw_new (A := A) (o := o) (c := c) h.len hp
  have nn : ∀ a, H a ≠ none → upd H p o a ≠ none := fun a hn => by
    rw [upd_ne fun z => hn (by rw [z]; exact hp)]
    exact hn
  have np : p ∉ M := fun m => h.al p m hp
  refine ⟨by simp [h.len], ?_, fun a m => ?_, fun a m => ?_, fun a m => nn a (h.aA a m), fun j b d h1 h2 => ?_⟩
  · rw [List.nodup_append]
    refine ⟨h.nd, by simp, fun a m b mb z => ?_⟩
    have : b = p := by simpa using mb
    subst this
    subst z
    exact np m
  · rcases List.mem_append.mp m with m | m
    · exact h.nA a m
    · have : a = p := by simpa using m
      subst this
      exact fun z => h.aA a z hp
  · rcases List.mem_append.mp m with m | m
    · exact nn a (h.al a m)
    · have : a = p := by simpa using m
      subst this
      rw [upd_same]
      intro z
      cases z
  · rw [ev]
    by_cases hj : j < M.length
    · rw [List.getElem?_append_left hj] at h1
      rw [List.getElem?_append_left (by have := h.len; omega)] at h2
      obtain ⟨u, q1, q2⟩ := h.ct j b d h1 h2
      refine ⟨u, ?_, q2.mono (Ex.refl _) pre_snoc⟩
      rw [upd_ne fun z => np (by rw [← z]; exact List.mem_of_getElem? h1)]
      exact q1
    · have hj2 : j = M.length := by
        have := (List.getElem?_eq_some_iff.mp h1).1
        simp at this
        omega
      subst hj2
      rw [List.getElem?_append_right (Nat.le_refl _)] at h1
      rw [h.len, List.getElem?_append_right (Nat.le_refl _)] at h2
      simp at h1 h2
      subst h1 h2
      exact ⟨o, upd_same, hc.mono (Ex.refl _) pre_snoc⟩
theorem Eff.new {c : C} {p : Addr} (h : MOk K A M H μ) (hp : H p = none) : Eff A M μ H (M ++ [p]) (μ ++ [some c]) (upd H p o) :=
  ⟨pre_snoc, fun a u ha e => by rw [upd_ne (ne_of_none e hp)]; exact e, by rw [vw_new h.len hp]; exact Ex.refl _⟩
end view
end Pd

namespace Pd
open PySem L2
open Evl (Ex)
section judgements
variable (K : PySem.W.Frag)
def AX (te : TE) (Γ : G) (μ : Mu) (R : W → Mu → Prop) : Prop := ∀ (A : Addr → Prop) (M : List Addr) (σ : L2.St) (H : Hp), Cn K A M σ H Γ μ → ∀ Q : VK,
  (∀ M' H' v w μ', MOk K A M' H' μ' → Eff A M μ H M' μ' H' → VR K (vw A M' μ' H') M' v w → R w μ' → Q v H') → te σ H Q
def AXA (ta : TA) (Γ : G) (μ : Mu) (R : List W → Mu → Prop) : Prop := ∀ (A : Addr → Prop) (M : List Addr) (σ : L2.St) (H : Hp), Cn K A M σ H Γ μ → ∀ Q : List V → Hp → Prop,
  (∀ M' H' vs ws μ', MOk K A M' H' μ' → Eff A M μ H M' μ' H' → VRs K (vw A M' μ' H') M' vs ws → R ws μ' → Q vs H') → ta σ H Q
def AXT (tt : TT) (Γ : G) (μ : Mu) (R : Bool → Mu → Prop) : Prop := ∀ (A : Addr → Prop) (M : List Addr) (σ : L2.St) (H : Hp), Cn K A M σ H Γ μ → ∀ Q : Bool → Hp → Prop,
  (∀ M' H' b μ', MOk K A M' H' μ' → Eff A M μ H M' μ' H' → R b μ' → Q b H') → tt σ H Q
def AXO (to : TO) (Γ : G) (μ : Mu) (R : Option Int → Mu → Prop) : Prop := ∀ (A : Addr → Prop) (M : List Addr) (σ : L2.St) (H : Hp), Cn K A M σ H Γ μ → ∀ Q : Option Int → Hp → Prop,
  (∀ M' H' b μ', MOk K A M' H' μ' → Eff A M μ H M' μ' H' → R b μ' → Q b H') → to σ H Q
def AO (r : R2) (x y : W) (μ : Mu) (R : W → Mu → Prop) : Prop := ∀ (A : Addr → Prop) (M : List Addr) (H : Hp) (v u : V), MOk K A M H μ → VR K (vw A M μ H) M v x → VR K (vw A M μ H) M u y → ∀ Q : VK,
  (∀ M' H' z w μ', MOk K A M' H' μ' → Eff A M μ H M' μ' H' → VR K (vw A M' μ' H') M' z w → R w μ' → Q z H') → r v u H Q
def AU (r : V → Hp → VK → Prop) (x : W) (μ : Mu) (R : W → Mu → Prop) : Prop := ∀ (A : Addr → Prop) (M : List Addr) (H : Hp) (v : V), MOk K A M H μ → VR K (vw A M μ H) M v x → ∀ Q : VK,
  (∀ M' H' z w μ', MOk K A M' H' μ' → Eff A M μ H M' μ' H' → VR K (vw A M' μ' H') M' z w → R w μ' → Q z H') → r v H Q
def AC (r : List V → Hp → VK → Prop) (ws : List W) (μ : Mu) (R : W → Mu → Prop) : Prop := ∀ (A : Addr → Prop) (M : List Addr) (H : Hp) (vs : List V), MOk K A M H μ → VRs K (vw A M μ H) M vs ws → ∀ Q : VK,
  (∀ M' H' z w μ', MOk K A M' H' μ' → Eff A M μ H M' μ' H' → VR K (vw A M' μ' H') M' z w → R w μ' → Q z H') → r vs H Q
def AM (r : V → List V → Hp → VK → Prop) (x : W) (ws : List W) (μ : Mu) (R : W → Mu → Prop) : Prop := ∀ (A : Addr → Prop) (M : List Addr) (H : Hp) (v : V) (vs : List V), MOk K A M H μ → VR K (vw A M μ H) M v x → VRs K (vw A M μ H) M vs ws → ∀ Q : VK,
  (∀ M' H' z w μ', MOk K A M' H' μ' → Eff A M μ H M' μ' H' → VR K (vw A M' μ' H') M' z w → R w μ' → Q z H') → r v vs H Q
def AG (g : TG) (w : W) (Γ : G) (μ : Mu) (R : G → Mu → Prop) : Prop := ∀ (A : Addr → Prop) (M : List Addr) (σ : L2.St) (H : Hp) (v : V), Cn K A M σ H Γ μ → VR K (vw A M μ H) M v w → ∀ Q : L2.St → Hp → Prop,
  (∀ M' σ' H' Γ' μ', Cn K A M' σ' H' Γ' μ' → Eff A M μ H M' μ' H' → R Γ' μ' → Q σ' H') → g v σ H Q
def AGs (g : TGs) (ws : List W) (Γ : G) (μ : Mu) (R : G → Mu → Prop) : Prop := ∀ (A : Addr → Prop) (M : List Addr) (σ : L2.St) (H : Hp) (vs : List V), Cn K A M σ H Γ μ → VRs K (vw A M μ H) M vs ws → ∀ Q : L2.St → Hp → Prop,
  (∀ M' σ' H' Γ' μ', Cn K A M' σ' H' Γ' μ' → Eff A M μ H M' μ' H' → R Γ' μ' → Q σ' H') → g vs σ H Q
structure AEn where
  nx : G → Mu → Prop
  rt : W → Mu → Prop
  bk : G → Mu → Prop := fun _ _ => False
  ct : G → Mu → Prop := fun _ _ => False
  xw : L2.WX := fun _ _ _ _ => False
  xc : PySem.Str → W → G → Mu → Prop := fun _ _ _ _ => False
/-- the class of errors that the text calls x -/
def clA (x : PySem.Str) (a : Addr) : Prop := PySem.W.nsIn K PySem.mainGlobals x = some (some (.ref a))
/-- the wish about errors, by the errors' names and values; the error's dict stands as the last cell -/
def XW (A : Addr → Prop) (M : List Addr) (μ : Mu) (H : Hp) (xw : L2.WX) (xc : PySem.Str → W → G → Mu → Prop) : Prop := ∀ M' σ' H' Γ' x a d w μ', clA K x a → Cn K A (M' ++ [d]) σ' H' Γ' (μ' ++ [some (.xd d w)]) →
  Eff A M μ H (M' ++ [d]) (μ' ++ [some (.xd d w)]) H' → xc x w Γ' μ' → xw (.ref a) (some d) σ' H'
structure Hd (A : Addr → Prop) (M : List Addr) (μ : Mu) (H : Hp) (D : AEn) (E : Ends) : Prop where
  nx : ∀ M' σ' H' Γ' μ', Cn K A M' σ' H' Γ' μ' → Eff A M μ H M' μ' H' → D.nx Γ' μ' → E.nx σ' H'
  rt : ∀ M' H' v w μ', MOk K A M' H' μ' → Eff A M μ H M' μ' H' → VR K (vw A M' μ' H') M' v w → D.rt w μ' → E.rt v H'
  bk : ∀ M' σ' H' Γ' μ', Cn K A M' σ' H' Γ' μ' → Eff A M μ H M' μ' H' → D.bk Γ' μ' → E.bk σ' H'
  ct : ∀ M' σ' H' Γ' μ', Cn K A M' σ' H' Γ' μ' → Eff A M μ H M' μ' H' → D.ct Γ' μ' → E.ct σ' H'
  xx : XW K A M μ H D.xw D.xc
def AS (t : TS) (D : AEn) (Γ : G) (μ : Mu) : Prop := ∀ (A : Addr → Prop) (M : List Addr) (σ : L2.St) (H : Hp), Cn K A M σ H Γ μ → ∀ E : Ends, Hd K A M μ H D E → t E σ H
end judgements
section
variable {K : PySem.W.Frag} {A : Addr → Prop} {M M' : List Addr} {μ μ' : Mu} {H H' : Hp} {D : AEn} {E : Ends} {Γ : G}
theorem XW.after {xw : L2.WX} {xc : PySem.Str → W → G → Mu → Prop} (h : XW K A M μ H xw xc) (e : Eff A M μ H M' μ' H') : XW K A M' μ' H' xw xc := fun _ _ _ _ _ _ _ _ _ h1 h2 h3 h4 => h _ _ _ _ _ _ _ _ _ h1 h2 (e.trans h3) h4
theorem Hd.after (h : Hd K A M μ H D E) (e : Eff A M μ H M' μ' H') : Hd K A M' μ' H' D E :=
  ⟨fun _ _ _ _ _ c e' => h.nx _ _ _ _ _ c (e.trans e'), fun _ _ _ _ _ m e' => h.rt _ _ _ _ _ m (e.trans e'), fun _ _ _ _ _ c e' => h.bk _ _ _ _ _ c (e.trans e'), fun _ _ _ _ _ c e' => h.ct _ _ _ _ _ c (e.trans e'), h.xx.after e⟩

/-! ### data as a whole: what a value comes to with the cells as they stand -/
mutual
inductive Rs (μ : Mu) : W → PyData → Prop
  | d (x : PyData) : Rs μ (.d x) x
  | m {k : Nat} {ws : List W} {xs : List PyData} : μ[k]? = some (some (.lst ws)) → Rss μ ws xs → Rs μ (.m k) (.list xs)
  | t {ws : List W} {xs : List PyData} : Rss μ ws xs → Rs μ (.t ws) (.tuple xs)
  | f {ws : List W} {xs : List PyData} : Rss μ ws xs → Rs μ (.f ws) (.list xs)
inductive Rss (μ : Mu) : List W → List PyData → Prop
  | nil : Rss μ [] []
  | cons {w : W} {x : PyData} {ws : List W} {xs : List PyData} : Rs μ w x → Rss μ ws xs → Rss μ (w :: ws) (x :: xs)
end
theorem Rss.ds : ∀ xs : List PyData, Rss μ (xs.map W.d) xs
  | [] => .nil
  | x :: xs => .cons (.d x) (Rss.ds xs)
mutual
theorem Rs.dp (mo : MOk K A M H μ) : ∀ {w : W} {x : PyData} {v : V}, Rs μ w x → VR K (vw A M μ H) M v w → Dp K H v x
  | _, _, _, .d x, h => by
    cases h with
    | d h => exact (dp_mono vw_le h).dp
  | _, _, _, .m h1 h2, h => by
    cases h with
    | m hm =>
      obtain ⟨o, e, c⟩ := mo.ct _ _ _ hm h1
      obtain ⟨vs, rfl, r⟩ := c
      exact .lst (SqL.of e) (Rss.dp mo h2 r)
  | _, _, _, .t h1, h => by
    cases h with
    | t hs r => exact .tup (Evl.ex_t vw_le hs) (Rss.dp mo h1 r)
  | _, _, _, .f h1, h => by
    cases h with
    | f hs r => exact .lst (Evl.ex_l vw_le hs) (Rss.dp mo h1 r)
theorem Rss.dp (mo : MOk K A M H μ) : ∀ {ws : List W} {xs : List PyData} {vs : List V}, Rss μ ws xs → VRs K (vw A M μ H) M vs ws → DpAll K H vs xs
  | _, _, _, .nil, h => by cases h; exact .nil
  | _, _, _, .cons h1 h2, h => by
    cases h with
    | cons r1 r2 => exact .cons (Rs.dp mo h1 r1) (Rss.dp mo h2 r2)
end
/-- a list's items; a tuple's -/
inductive LW (μ : Mu) : W → List W → Prop
  | d (xs : List PyData) : LW μ (.d (.list xs)) (xs.map W.d)
  | m {k : Nat} {ws : List W} : μ[k]? = some (some (.lst ws)) → LW μ (.m k) ws
  | f (ws : List W) : LW μ (.f ws) ws
/-- .. of a list that was made here -/
inductive LN (μ : Mu) : W → List W → Prop
  | d (xs : List PyData) : LN μ (.d (.list xs)) (xs.map W.d)
  | m {k : Nat} {ws : List W} : μ[k]? = some (some (.lst ws)) → LN μ (.m k) ws
inductive TW : W → List W → Prop
  | d (xs : List PyData) : TW (.d (.tuple xs)) (xs.map W.d)
  | t (ws : List W) : TW (.t ws) ws
theorem LW.get (mo : MOk K A M H μ) {v : V} {w : W} {ws : List W} (r : VR K (vw A M μ H) M v w) (h : LW μ w ws) : ∃ a vs, v = .ref a ∧ SqL K H a vs ∧ VRs K (vw A M μ H) M vs ws := by
  cases h with
  | d xs =>
    cases r with
    | d r =>
      cases r with
      | lst h1 h2 => exact ⟨_, _, rfl, SqL.of (vw_le _ _ h1), VRs.of_dp h2⟩
  | m hk =>
    cases r with
    | m hm =>
      obtain ⟨o, e, vs, rfl, r⟩ := mo.ct _ _ _ hm hk
      exact ⟨_, vs, rfl, SqL.of e, r⟩
  | f ws =>
    cases r with
    | f h1 h2 => exact ⟨_, _, rfl, Evl.ex_l vw_le h1, h2⟩
theorem LN.get (mo : MOk K A M H μ) {v : V} {w : W} {ws : List W} (r : VR K (vw A M μ H) M v w) (h : LN μ w ws) : ∃ a vs, v = .ref a ∧ H a = some (.lst vs) ∧ VRs K (vw A M μ H) M vs ws := by
  cases h with
  | d xs =>
    cases r with
    | d r =>
      cases r with
      | lst h1 h2 => exact ⟨_, _, rfl, vw_le _ _ h1, VRs.of_dp h2⟩
  | m hk =>
    cases r with
    | m hm =>
      obtain ⟨o, e, vs, rfl, r⟩ := mo.ct _ _ _ hm hk
      exact ⟨_, vs, rfl, e, r⟩
theorem TW.get {v : V} {w : W} {ws : List W} (r : VR K (vw A M μ H) M v w) (h : TW w ws) : ∃ a vs, v = .ref a ∧ SqT K (vw A M μ H) a vs ∧ VRs K (vw A M μ H) M vs ws := by
  cases h with
  | d xs =>
    cases r with
    | d r =>
      cases r with
      | tup h1 h2 => exact ⟨_, _, rfl, h1, VRs.of_dp h2⟩
  | t ws =>
    cases r with
    | t h1 h2 => exact ⟨_, _, rfl, h1, h2⟩
theorem map_d_inj : ∀ {xs ys : List PyData}, xs.map W.d = ys.map W.d → xs = ys
  | [], [], _ => rfl
  | [], _ :: _, h => by cases h
  | _ :: _, [], h => by cases h
  | x :: xs, y :: ys, h => by
    rw [List.map_cons, List.map_cons] at h
    injection h with h1 h2
    injection h1 with h1
    rw [h1, map_d_inj h2]
/-- scalars -/
theorem vr_int {v : V} {i : Int} {Hv : Hp} (h : VR K Hv M v (.d (.int i))) : v = .int i := by
  cases h with
  | d h => cases h; rfl
theorem vr_bool {v : V} {b : Bool} {Hv : Hp} (h : VR K Hv M v (.d (.bool b))) : v = .bl b := by
  cases h with
  | d h => cases h; rfl
theorem vr_str {v : V} {x : PySem.Str} {Hv : Hp} (h : VR K Hv M v (.d (.str x))) : v = .str x := by
  cases h with
  | d h => cases h; rfl
theorem vr_none {v : V} {Hv : Hp} (h : VR K Hv M v (.d .none)) : v = .non := by
  cases h with
  | d h => cases h; rfl
theorem vrs_int : ∀ {vs : List V} {ns : List Int} {Hv : Hp}, VRs K Hv M vs (ns.map fun n => W.d (.int n)) → vs = ns.map V.int
  | _, [], _, h => by cases h; rfl
  | _, n :: ns, _, h => by
    cases h with
    | cons h t => rw [vr_int h, vrs_int t]; rfl
theorem vrs_bool : ∀ {vs : List V} {ns : List Bool} {Hv : Hp}, VRs K Hv M vs (ns.map fun n => W.d (.bool n)) → vs = ns.map V.bl
  | _, [], _, h => by cases h; rfl
  | _, n :: ns, _, h => by
    cases h with
    | cons h t => rw [vr_bool h, vrs_bool t]; rfl

/-! ### a new list, a new tuple: plain data, or a new cell -/
def NL (ws : List W) (μ : Mu) (R : W → Mu → Prop) : Prop := (∃ xs, ws = xs.map W.d ∧ R (.d (.list xs)) μ) ∨ R (.m μ.length) (μ ++ [some (.lst ws)])
def NT (ws : List W) (μ : Mu) (R : W → Mu → Prop) : Prop := (∃ xs, ws = xs.map W.d ∧ R (.d (.tuple xs)) μ) ∨ R (.t ws) μ
theorem NL.d {xs : List PyData} {ws : List W} {R : W → Mu → Prop} (h : R (.d (.list xs)) μ) (e : ws = xs.map W.d := by first | rfl | simp) : NL ws μ R := .inl ⟨xs, e, h⟩
theorem NL.m {ws : List W} {R : W → Mu → Prop} (h : R (.m μ.length) (μ ++ [some (.lst ws)])) : NL ws μ R := .inr h
theorem NT.d {xs : List PyData} {ws : List W} {R : W → Mu → Prop} (h : R (.d (.tuple xs)) μ) (e : ws = xs.map W.d := by first | rfl | simp) : NT ws μ R := .inl ⟨xs, e, h⟩
theorem NT.t {ws : List W} {R : W → Mu → Prop} (h : R (.t ws) μ) : NT ws μ R := .inr h
theorem NL.use {ws : List W} {R : W → Mu → Prop} {vs : List V} {p : Addr} (h : NL ws μ R) (mo : MOk K A M H μ) (r : VRs K (vw A M μ H) M vs ws) (hp : H p = none) :
    ∃ M' μ' w, MOk K A M' (upd H p (.lst vs)) μ' ∧ Eff A M μ H M' μ' (upd H p (.lst vs)) ∧ VR K (vw A M' μ' (upd H p (.lst vs))) M' (.ref p) w ∧ R w μ' := by
  have e : Ex H (upd H p (.lst vs)) := Ex.new hp
  rcases h with ⟨xs, rfl, h⟩ | h
  · exact ⟨M, μ, _, mo.ex e, Eff.of_ex e,   .d (.lst (vw_of (mo.ne_hid hp) upd_same) (dpa_mono (vw_ex e) r.dp)), h⟩
  · refine ⟨M ++ [p], _, _, mo.new (c := .lst ws) hp ⟨vs, rfl, r⟩, Eff.new mo hp, .m ?_, h⟩
    rw [← mo.len, List.getElem?_append_right (Nat.le_refl _)]
    simp
theorem NT.use {ws : List W} {R : W → Mu → Prop} {vs : List V} {p : Addr} (h : NT ws μ R) (mo : MOk K A M H μ) (r : VRs K (vw A M μ H) M vs ws) (hp : H p = none) :
    ∃ w, MOk K A M (upd H p (.tup vs)) μ ∧ Eff A M μ H M μ (upd H p (.tup vs)) ∧ VR K (vw A M μ (upd H p (.tup vs))) M (.ref p) w ∧ R w μ := by
  have e : Ex H (upd H p (.tup vs)) := Ex.new hp
  have hs : SqT K (vw A M μ (upd H p (.tup vs))) p vs := SqT.of (vw_of (mo.ne_hid hp) upd_same)
  rcases h with ⟨xs, rfl, h⟩ | h
  · exact ⟨_, mo.ex e, Eff.of_ex e, .d (.tup hs (dpa_mono (vw_ex e) r.dp)), h⟩
  · exact ⟨_, mo.ex e, Eff.of_ex e, .t hs (r.mono (vw_ex e) (Pre.refl _)), h⟩
end

/-! ### expressions -/
section
variable {K : PySem.W.Frag} {Γ : G} {μ : Mu} {R : W → Mu → Prop} {ta tb te : TE} {t u : TT} {r : R2}
theorem ax_var {i : Nat} {w : W} (h : Γ[i]? = some (some w)) (k : R w μ) : AX K (tVar i) Γ μ R := fun A M σ H c Q q =>
  let ⟨v, e, r⟩ := c.gr.2 i w h
  ⟨v, e, q M H v w μ c.mo Eff.refl r k⟩
theorem ax_int {i : Int} (k : R (.d (.int i)) μ) : AX K (tC (.int i)) Γ μ R := fun A M σ H c Q q => q M H _ _ μ c.mo Eff.refl (.d (.int i)) k
theorem ax_bl {b : Bool} (k : R (.d (.bool b)) μ) : AX K (tC (.bl b)) Γ μ R := fun A M σ H c Q q => q M H _ _ μ c.mo Eff.refl (.d (.bl b)) k
theorem ax_str {x : PySem.Str} (k : R (.d (.str x)) μ) : AX K (tC (.str x)) Γ μ R := fun A M σ H c Q q => q M H _ _ μ c.mo Eff.refl (.d (.str x)) k
theorem ax_cV {v : V} (k : R (.k v) μ) : AX K (tC v) Γ μ R := fun A M σ H c Q q => q M H _ _ μ c.mo Eff.refl (.k v) k
theorem ax_non (k : R (.d .none) μ) : AX K (tC .non) Γ μ R := fun A M σ H c Q q => q M H _ _ μ c.mo Eff.refl (.d .non) k
theorem ax_op (h : AX K ta Γ μ fun x μ1 => AX K tb Γ μ1 fun y μ2 => AO K r x y μ2 R) : AX K (tOp r ta tb) Γ μ R := fun A M σ H c Q q =>
  h A M σ H c _ fun M1 H1 v x μ1 mo1 e1 r1 h1 => h1 A M1 σ H1 (c.eff e1 mo1) _ fun M2 H2 u y μ2 mo2 e2 r2 h2 =>
    h2 A M2 H2 v u mo2 (r1.mono e2.ex e2.pre) r2 Q fun M3 H3 z w μ3 mo3 e3 r3 hR => q M3 H3 z w μ3 mo3 ((e1.trans e2).trans e3) r3 hR
theorem ax_un {r : V → Hp → VK → Prop} (h : AX K ta Γ μ fun x μ1 => AU K r x μ1 R) : AX K (tUn r ta) Γ μ R := fun A M σ H c Q q =>
  h A M σ H c _ fun M1 H1 v x μ1 mo1 e1 r1 h1 => h1 A M1 H1 v mo1 r1 Q fun M3 H3 z w μ3 mo3 e3 r3 hR => q M3 H3 z w μ3 mo3 (e1.trans e3) r3 hR
theorem ax_weak {R' : W → Mu → Prop} (h : AX K te Γ μ R) (k : ∀ w μ', R w μ' → R' w μ') : AX K te Γ μ R' := fun A M σ H c Q q =>
  h A M σ H c Q fun M1 H1 v w μ1 mo e r hr => q M1 H1 v w μ1 mo e r (k _ _ hr)
/-! two ints, and the like -/
theorem ao_I0 {g : Int → Int → V} {d : PyData} {i j : Int} (hd : ∀ Hv, DQ K Hv (g i j) d) (k : R (.d d) μ) : AO K (rI0 g) (.d (.int i)) (.d (.int j)) μ R := fun A M H v u mo rv ru Q q => by
  rw [vr_int rv, vr_int ru]
  exact ⟨i, j, rfl, rfl, q M H _ _ μ mo Eff.refl (.d (hd _)) k⟩
theorem ao_I {P : Int → Int → Prop} {g : Int → Int → V} {d : PyData} {i j : Int} (hd : ∀ Hv, DQ K Hv (g i j) d) (hc : P i j) (k : R (.d d) μ) : AO K (rI P g) (.d (.int i)) (.d (.int j)) μ R := fun A M H v u mo rv ru Q q => by
  rw [vr_int rv, vr_int ru]
  exact ⟨i, j, rfl, rfl, hc, q M H _ _ μ mo Eff.refl (.d (hd _)) k⟩
theorem ao_iI {g : Int → Int → Int} {i j : Int} (k : R (.d (.int (g i j))) μ) : AO K (rI0 fun i j => .int (g i j)) (.d (.int i)) (.d (.int j)) μ R := ao_I0 (fun _ => .int _) k
theorem ao_iB {g : Int → Int → Bool} {i j : Int} (k : R (.d (.bool (g i j))) μ) : AO K (rI0 fun i j => .bl (g i j)) (.d (.int i)) (.d (.int j)) μ R := ao_I0 (fun _ => .bl _) k
theorem ao_cI {P : Int → Int → Prop} {g : Int → Int → Int} {i j : Int} (hc : P i j) (k : R (.d (.int (g i j))) μ) : AO K (rI P fun i j => .int (g i j)) (.d (.int i)) (.d (.int j)) μ R := ao_I (fun _ => .int _) hc k
theorem au_neg {i : Int} (k : R (.d (.int (-i))) μ) : AU K (rU fun i => .int (-i)) (.d (.int i)) μ R := fun A M H v mo rv Q q => by
  rw [vr_int rv]
  exact ⟨i, rfl, q M H _ _ μ mo Eff.refl (.d (.int _)) k⟩
/-- == and != of scalars -/
def sV : PyData → V
  | .bool b => .bl b
  | .int i => .int i
  | .str x => .str x
  | _ => .non
def isS : PyData → Bool
  | .none => true
  | .bool _ => true
  | .int _ => true
  | .str _ => true
  | _ => false
theorem vr_s {v : V} {x : PyData} {Hv : Hp} {M : List Addr} (h : VR K Hv M v (.d x)) (hx : isS x = true) : v = sV x := by
  cases h with
  | d h => cases h <;> first | rfl | cases hx
theorem ao_eq {x y : PyData} (hx : isS x = true) (hy : isS y = true) (hs : scal (sV x) (sV y) = true) (k : R (.d (.bool (decide (sV x = sV y)))) μ) : AO K rEq (.d x) (.d y) μ R := fun A M H v u mo rv ru Q q => by
  rw [vr_s rv hx, vr_s ru hy]
  exact ⟨hs, q M H _ _ μ mo Eff.refl (.d (.bl _)) k⟩
theorem ao_ne {x y : PyData} (hx : isS x = true) (hy : isS y = true) (hs : scal (sV x) (sV y) = true) (k : R (.d (.bool (!decide (sV x = sV y)))) μ) : AO K rNe (.d x) (.d y) μ R := fun A M H v u mo rv ru Q q => by
  rw [vr_s rv hx, vr_s ru hy]
  exact ⟨hs, q M H _ _ μ mo Eff.refl (.d (.bl _)) k⟩
theorem dec_V {i j : Int} : decide (V.int i = V.int j) = decide (i = j) := by
  by_cases h : i = j
  · subst h; simp
  · rw [decide_eq_false h, decide_eq_false fun z => h (V.int.inj z)]
theorem dec_Vb {i j : Bool} : decide (V.bl i = V.bl j) = decide (i = j) := by cases i <;> cases j <;> rfl
theorem dec_Vs {i j : PySem.Str} : decide (V.str i = V.str j) = decide (i = j) := by
  by_cases h : i = j
  · subst h; simp
  · rw [decide_eq_false h, decide_eq_false fun z => h (V.str.inj z)]
theorem ao_eqI {i j : Int} (k : R (.d (.bool (decide (i = j)))) μ) : AO K rEq (.d (.int i)) (.d (.int j)) μ R := ao_eq rfl rfl rfl (by show R (.d (.bool (decide (V.int i = V.int j)))) μ; rw [dec_V]; exact k)
theorem ao_neI {i j : Int} (k : R (.d (.bool (!decide (i = j)))) μ) : AO K rNe (.d (.int i)) (.d (.int j)) μ R := ao_ne rfl rfl rfl (by show R (.d (.bool (!decide (V.int i = V.int j)))) μ; rw [dec_V]; exact k)
theorem ao_eqB {i j : Bool} (k : R (.d (.bool (decide (i = j)))) μ) : AO K rEq (.d (.bool i)) (.d (.bool j)) μ R := ao_eq rfl rfl rfl (by show R (.d (.bool (decide (V.bl i = V.bl j)))) μ; rw [dec_Vb]; exact k)
theorem ao_neB {i j : Bool} (k : R (.d (.bool (!decide (i = j)))) μ) : AO K rNe (.d (.bool i)) (.d (.bool j)) μ R := ao_ne rfl rfl rfl (by show R (.d (.bool (!decide (V.bl i = V.bl j)))) μ; rw [dec_Vb]; exact k)
theorem ao_eqS {i j : PySem.Str} (k : R (.d (.bool (decide (i = j)))) μ) : AO K rEq (.d (.str i)) (.d (.str j)) μ R := ao_eq rfl rfl rfl (by show R (.d (.bool (decide (V.str i = V.str j)))) μ; rw [dec_Vs]; exact k)
theorem ao_neS {i j : PySem.Str} (k : R (.d (.bool (!decide (i = j)))) μ) : AO K rNe (.d (.str i)) (.d (.str j)) μ R := ao_ne rfl rfl rfl (by show R (.d (.bool (!decide (V.str i = V.str j)))) μ; rw [dec_Vs]; exact k)
/-- == and != of data -/
theorem ao_eqD {x y : W} {d e : PyData} (hx : Rs μ x d) (hy : Rs μ y e) (sd : SeqAt.shaped d = true) (se : SeqAt.shaped e = true) (k : R (.d (.bool (PyData.eqv d e))) μ) : AO K (rEqD K) x y μ R := fun A M H v u mo rv ru Q q =>
  ⟨d, e, hx.dp mo rv, hy.dp mo ru, sd, se, q M H _ _ μ mo Eff.refl (.d (.bl _)) k⟩
theorem ao_neD {x y : W} {d e : PyData} (hx : Rs μ x d) (hy : Rs μ y e) (sd : SeqAt.shaped d = true) (se : SeqAt.shaped e = true) (k : R (.d (.bool (!PyData.eqv d e))) μ) : AO K (rNeD K) x y μ R := fun A M H v u mo rv ru Q q =>
  ⟨d, e, hx.dp mo rv, hy.dp mo ru, sd, se, q M H _ _ μ mo Eff.refl (.d (.bl _)) k⟩
/-- is None -/
def isNon : W → Bool
  | .d .none => true
  | .k v => decide (v = .non)
  | _ => false
theorem vr_isN {v : V} {w : W} {Hv : Hp} {M : List Addr} (h : VR K Hv M v w) : decide (v = .non) = isNon w := by
  cases h with
  | d h => cases h <;> rfl
  | m h => rfl
  | t h1 h2 => rfl
  | f h1 h2 => rfl
  | k v => rfl
theorem ax_isN (h : AX K ta Γ μ fun x μ1 => R (.d (.bool (isNon x))) μ1) : AX K (tIsN ta) Γ μ R := fun A M σ H c Q q =>
  h A M σ H c _ fun M1 H1 v x μ1 mo1 e1 r1 h1 => by
    show Q (.bl (decide (v = .non))) H1
    rw [vr_isN r1]
    exact q M1 H1 _ _ μ1 mo1 e1 (.d (.bl _)) h1
theorem ax_notN (h : AX K ta Γ μ fun x μ1 => R (.d (.bool (!isNon x))) μ1) : AX K (tNotN ta) Γ μ R := fun A M σ H c Q q =>
  h A M σ H c _ fun M1 H1 v x μ1 mo1 e1 r1 h1 => by
    show Q (.bl (!decide (v = .non))) H1
    rw [vr_isN r1]
    exact q M1 H1 _ _ μ1 mo1 e1 (.d (.bl _)) h1
/-! tests -/
section
variable {RT : Bool → Mu → Prop}
theorem at_test (h : AX K te Γ μ fun w μ1 => ∃ b, w = .d (.bool b) ∧ RT b μ1) : AXT K (tTest te) Γ μ RT := fun A M σ H c Q q =>
  h A M σ H c _ fun M1 H1 v w μ1 mo1 e1 r1 ⟨b, hb, hR⟩ => by
    subst hb
    exact ⟨b, vr_bool r1, q M1 H1 b μ1 mo1 e1 hR⟩
theorem at_B (h : AX K te Γ μ fun w μ1 => ∃ b, w = .d (.bool b) ∧ RT b μ1) : AXT K (tB te) Γ μ RT := fun A M σ H c Q q =>
  h A M σ H c _ fun M1 H1 v w μ1 mo1 e1 r1 ⟨b, hb, hR⟩ => by
    subst hb
    exact ⟨b, vr_bool r1, q M1 H1 b μ1 mo1 e1 hR⟩
theorem at_and (h : AXT K t Γ μ fun a μ1 => if a = true then AXT K u Γ μ1 RT else RT false μ1) : AXT K (tAnd t u) Γ μ RT := fun A M σ H c Q q =>
  h A M σ H c _ fun M1 H1 a μ1 mo1 e1 h1 => by
    cases a with
    | true =>
      show u σ H1 Q
      exact h1 A M1 σ H1 (c.eff e1 mo1) Q fun M2 H2 b μ2 mo2 e2 h2 => q M2 H2 b μ2 mo2 (e1.trans e2) h2
    | false => exact q M1 H1 false μ1 mo1 e1 h1
theorem at_or (h : AXT K t Γ μ fun a μ1 => if a = true then RT true μ1 else AXT K u Γ μ1 RT) : AXT K (tOr t u) Γ μ RT := fun A M σ H c Q q =>
  h A M σ H c _ fun M1 H1 a μ1 mo1 e1 h1 => by
    cases a with
    | false =>
      show u σ H1 Q
      exact h1 A M1 σ H1 (c.eff e1 mo1) Q fun M2 H2 b μ2 mo2 e2 h2 => q M2 H2 b μ2 mo2 (e1.trans e2) h2
    | true => exact q M1 H1 true μ1 mo1 e1 h1
theorem at_not (h : AXT K t Γ μ fun a μ1 => RT (!a) μ1) : AXT K (tNot t) Γ μ RT := fun A M σ H c Q q =>
  h A M σ H c _ fun M1 H1 a μ1 mo1 e1 h1 => q M1 H1 (!a) μ1 mo1 e1 h1
theorem at_yes (h : RT true μ) : AXT K tYes Γ μ RT := fun A M σ H c Q q => q M H true μ c.mo Eff.refl h
theorem at_weak {RT' : Bool → Mu → Prop} (h : AXT K t Γ μ RT) (k : ∀ w μ', RT w μ' → RT' w μ') : AXT K t Γ μ RT' := fun A M σ H c Q q =>
  h A M σ H c Q fun M1 H1 w μ1 mo e hr => q M1 H1 w μ1 mo e (k _ _ hr)
end
theorem ax_andV (h : AX K ta Γ μ fun x μ1 => ∃ b, x = .d (.bool b) ∧ if b = true then AX K tb Γ μ1 R else R (.d (.bool false)) μ1) : AX K (tAndV ta tb) Γ μ R := fun A M σ H c Q q =>
  h A M σ H c _ fun M1 H1 v x μ1 mo1 e1 r1 ⟨b, hb, h1⟩ => by
    subst hb
    refine ⟨b, vr_bool r1, ?_⟩
    cases b with
    | true =>
      show tb σ H1 Q
      exact h1 A M1 σ H1 (c.eff e1 mo1) Q fun M2 H2 z w μ2 mo2 e2 r2 h2 => q M2 H2 z w μ2 mo2 (e1.trans e2) r2 h2
    | false => exact q M1 H1 _ _ μ1 mo1 e1 (.d (.bl false)) h1
theorem ax_orV (h : AX K ta Γ μ fun x μ1 => ∃ b, x = .d (.bool b) ∧ if b = true then R (.d (.bool true)) μ1 else AX K tb Γ μ1 R) : AX K (tOrV ta tb) Γ μ R := fun A M σ H c Q q =>
  h A M σ H c _ fun M1 H1 v x μ1 mo1 e1 r1 ⟨b, hb, h1⟩ => by
    subst hb
    refine ⟨b, vr_bool r1, ?_⟩
    cases b with
    | false =>
      show tb σ H1 Q
      exact h1 A M1 σ H1 (c.eff e1 mo1) Q fun M2 H2 z w μ2 mo2 e2 r2 h2 => q M2 H2 z w μ2 mo2 (e1.trans e2) r2 h2
    | true => exact q M1 H1 _ _ μ1 mo1 e1 (.d (.bl true)) h1
theorem ax_notV (h : AX K ta Γ μ fun x μ1 => ∃ b, x = .d (.bool b) ∧ R (.d (.bool (!b))) μ1) : AX K (tNotV ta) Γ μ R := fun A M σ H c Q q =>
  h A M σ H c _ fun M1 H1 v x μ1 mo1 e1 r1 ⟨b, hb, h1⟩ => by
    subst hb
    exact ⟨b, vr_bool r1, q M1 H1 _ _ μ1 mo1 e1 (.d (.bl _)) h1⟩
theorem ax_if (h : AXT K t Γ μ fun a μ1 => if a = true then AX K ta Γ μ1 R else AX K tb Γ μ1 R) : AX K (tIf t ta tb) Γ μ R := fun A M σ H c Q q =>
  h A M σ H c _ fun M1 H1 a μ1 mo1 e1 h1 => by
    cases a with
    | true =>
      show ta σ H1 Q
      exact h1 A M1 σ H1 (c.eff e1 mo1) Q fun M2 H2 z w μ2 mo2 e2 r2 h2 => q M2 H2 z w μ2 mo2 (e1.trans e2) r2 h2
    | false =>
      show tb σ H1 Q
      exact h1 A M1 σ H1 (c.eff e1 mo1) Q fun M2 H2 z w μ2 mo2 e2 r2 h2 => q M2 H2 z w μ2 mo2 (e1.trans e2) r2 h2
/-! arguments -/
section
variable {RA : List W → Mu → Prop} {tr : TA}
theorem aa_nil (k : RA [] μ) : AXA K tNil Γ μ RA := fun A M σ H c Q q => q M H _ _ μ c.mo Eff.refl .nil k
theorem aa_cons (h : AX K ta Γ μ fun x μ1 => AXA K tr Γ μ1 fun ws μ2 => RA (x :: ws) μ2) : AXA K (tCons ta tr) Γ μ RA := fun A M σ H c Q q =>
  h A M σ H c _ fun M1 H1 v x μ1 mo1 e1 r1 h1 => h1 A M1 σ H1 (c.eff e1 mo1) _ fun M2 H2 vs ws μ2 mo2 e2 r2 h2 =>
    q M2 H2 (v :: vs) (x :: ws) μ2 mo2 (e1.trans e2) (.cons (r1.mono e2.ex e2.pre) r2) h2
end
theorem ax_tup {tr : TA} (h : AXA K tr Γ μ fun ws μ1 => ws.length ≤ sizeLine ∧ NT ws μ1 R) : AX K (tTup tr) Γ μ R := fun A M σ H c Q q =>
  h A M σ H c _ fun M1 H1 vs ws μ1 mo1 e1 r1 ⟨hl, hn⟩ => ⟨by rw [r1.length]; exact hl, fun p hp => by
    obtain ⟨w, m2, e2, r2, hR⟩ := hn.use mo1 r1 hp
    exact q M1 _ _ w μ1 m2 (e1.trans e2) r2 hR⟩
theorem ax_lst {tr : TA} (h : AXA K tr Γ μ fun ws μ1 => ws.length ≤ sizeLine ∧ NL ws μ1 R) : AX K (tLst tr) Γ μ R := fun A M σ H c Q q =>
  h A M σ H c _ fun M1 H1 vs ws μ1 mo1 e1 r1 ⟨hl, hn⟩ => ⟨by rw [r1.length]; exact hl, fun p hp => by
    obtain ⟨M2, μ2, w, m2, e2, r2, hR⟩ := hn.use mo1 r1 hp
    exact q M2 _ _ w μ2 m2 (e1.trans e2) r2 hR⟩
theorem ax_cb {r : List V → Hp → VK → Prop} {tr : TA} (h : AXA K tr Γ μ fun ws μ1 => AC K r ws μ1 R) : AX K (tCB r tr) Γ μ R := fun A M σ H c Q q =>
  h A M σ H c _ fun M1 H1 vs ws μ1 mo1 e1 r1 h1 => h1 A M1 H1 vs mo1 r1 Q fun M3 H3 z w μ3 mo3 e3 r3 hR => q M3 H3 z w μ3 mo3 (e1.trans e3) r3 hR
/-- a method of a built-in type -/
def tyW (T : String) (μ : Mu) : W → Prop
  | .m k => T = "list" ∧ ∃ ws, μ[k]? = some (some (.lst ws))
  | .d (.list _) => T = "list"
  | .f _ => T = "list"
  | .d (.str _) => T = "str"
  | .d (.int _) => T = "int"
  | _ => False
end
end Pd

namespace Pd
open PySem L2
open Evl (Ex)
section
variable {K : PySem.W.Frag} {A : Addr → Prop} {M : List Addr} {H : Hp} {Γ : G} {μ : Mu} {R : W → Mu → Prop} {ta tb te : TE} {t u : TT} {r : R2}
theorem tyW_ok {T : String} {w : W} {v : V} (mo : MOk K A M H μ) (rv : VR K (vw A M μ H) M v w) (h : tyW T μ w) : tyV K T v H := by
  cases rv with
  | d rv =>
    cases rv with
    | non => cases h
    | bl _ => cases h
    | int _ => exact h
    | str _ => exact h
    | lst h1 h2 => exact .inl ⟨h, _, SqL.of (vw_le _ _ h1)⟩
    | tup _ _ => cases h
  | m hm =>
    obtain ⟨e, ws, hk⟩ := h
    obtain ⟨o, e2, vs, rfl, _⟩ := mo.ct _ _ _ hm hk
    exact .inl ⟨e, _, SqL.of e2⟩
  | t _ _ => cases h
  | f h1 h2 => exact .inl ⟨h, _, Evl.ex_l vw_le h1⟩
  | k v => cases h
theorem ax_bm {T : String} {rm : V → List V → Hp → VK → Prop} {tr : TA} (h : AX K ta Γ μ fun x μ1 => tyW T μ1 x ∧ AXA K tr Γ μ1 fun ws μ2 => AM K rm x ws μ2 R) : AX K (tBM K T rm ta tr) Γ μ R := fun A M σ H c Q q =>
  h A M σ H c _ fun M1 H1 v x μ1 mo1 e1 r1 ⟨ty, h1⟩ => ⟨tyW_ok mo1 r1 ty, h1 A M1 σ H1 (c.eff e1 mo1) _ fun M2 H2 vs ws μ2 mo2 e2 r2 h2 =>
    h2 A M2 H2 v vs mo2 (r1.mono e2.ex e2.pre) r2 Q fun M3 H3 z w μ3 mo3 e3 r3 hR => q M3 H3 z w μ3 mo3 ((e1.trans e2).trans e3) r3 hR⟩
theorem ax_bm0 {T : String} {rm : V → List V → Hp → VK → Prop} (h : AX K ta Γ μ fun x μ1 => tyW T μ1 x ∧ AM K rm x [] μ1 R) : AX K (tBM0 K T rm ta) Γ μ R := fun A M σ H c Q q =>
  h A M σ H c _ fun M1 H1 v x μ1 mo1 e1 r1 ⟨ty, h1⟩ => ⟨tyW_ok mo1 r1 ty, h1 A M1 H1 v [] mo1 r1 .nil Q fun M3 H3 z w μ3 mo3 e3 r3 hR => q M3 H3 z w μ3 mo3 (e1.trans e3) r3 hR⟩
/-! lists that change -/
theorem cell_get {k : Nat} {ws : List W} {v : V} (mo : MOk K A M H μ) (rv : VR K (vw A M μ H) M v (.m k)) (hk : μ[k]? = some (some (.lst ws))) : ∃ a vs, v = .ref a ∧ M[k]? = some a ∧ H a = some (.lst vs) ∧ VRs K (vw A M μ H) M vs ws := by
  cases rv with
  | m hm =>
    obtain ⟨o, e, vs, rfl, r⟩ := mo.ct _ _ _ hm hk
    exact ⟨_, vs, rfl, hm, e, r⟩
theorem am_append {k : Nat} {ws : List W} {w : W} (hk : μ[k]? = some (some (.lst ws))) (hl : ws.length < sizeLine) (q : R (.d .none) (μ.set k (some (.lst (ws ++ [w]))))) : AM K rAppend (.m k) [w] μ R := fun A M H v vs mo rv rs Q h => by
  obtain ⟨a, us, rfl, hm, e, ru⟩ := cell_get mo rv hk
  cases rs with
  | cons rw rn =>
    cases rn
    refine ⟨a, us, _, rfl, rfl, e, by rw [ru.length]; exact hl, ?_⟩
    have mo' : MOk K A M (upd H a (.lst (us ++ [_]))) (μ.set k (some (.lst (ws ++ [w])))) := mo.write hm hk ⟨_, rfl, ru.snoc rw⟩
    exact h M _ _ _ _ mo' (Eff.write mo hm hk) (.d .non) q
theorem am_pop {k : Nat} {ws : List W} {w : W} (hk : μ[k]? = some (some (.lst ws))) (hw : ws[ws.length - 1]? = some w) (q : R w (μ.set k (some (.lst ws.dropLast)))) : AM K rPop (.m k) [] μ R := fun A M H v vs mo rv rs Q h => by
  obtain ⟨a, us, rfl, hm, e, ru⟩ := cell_get mo rv hk
  cases rs
  obtain ⟨y, hy, ry⟩ := ru.getW hw
  refine ⟨a, us, y, rfl, rfl, e, by rw [ru.length]; exact hy, ?_⟩
  have mo' : MOk K A M (upd H a (.lst us.dropLast)) (μ.set k (some (.lst ws.dropLast))) := mo.write hm hk ⟨_, rfl, ru.dropLast⟩
  have e' : Eff A M μ H M (μ.set k (some (.lst ws.dropLast))) (upd H a (.lst us.dropLast)) := Eff.write mo hm hk
  exact h M _ _ _ _ mo' e' (ry.mono e'.ex e'.pre) q
theorem am_popAt {k : Nat} {ws : List W} {w : W} {i : Int} {j : Nat} (hk : μ[k]? = some (some (.lst ws))) (hi : -(2 ^ 63) ≤ i ∧ i < 2 ^ 63) (hj : seqIndex? i ws.length = some j) (hw : ws[j]? = some w) (q : R w (μ.set k (some (.lst (ws.eraseIdx j))))) : AM K rPopAt (.m k) [.d (.int i)] μ R := fun A M H v vs mo rv rs Q h => by
  obtain ⟨a, us, rfl, hm, e, ru⟩ := cell_get mo rv hk
  cases rs with
  | cons rw rn =>
    cases rn
    rw [vr_int rw]
    obtain ⟨y, hy, ry⟩ := ru.getW hw
    refine ⟨a, us, i, j, y, rfl, rfl, e, hi.1, hi.2, by rw [ru.length]; exact hj, hy, ?_⟩
    have mo' : MOk K A M (upd H a (.lst (us.eraseIdx j))) (μ.set k (some (.lst (ws.eraseIdx j)))) := mo.write hm hk ⟨_, rfl, ru.eraseIdx j⟩
    have e' : Eff A M μ H M (μ.set k (some (.lst (ws.eraseIdx j)))) (upd H a (.lst (us.eraseIdx j))) := Eff.write mo hm hk
    exact h M _ _ _ _ mo' e' (ry.mono e'.ex e'.pre) q
theorem am_extend {k : Nat} {ws zs : List W} {w : W} (hk : μ[k]? = some (some (.lst ws))) (hw : LN μ w zs) (hl : ws.length + zs.length ≤ sizeLine) (q : R (.d .none) (μ.set k (some (.lst (ws ++ zs))))) : AM K rExtend (.m k) [w] μ R := fun A M H v vs mo rv rs Q h => by
  obtain ⟨a, us, rfl, hm, e, ru⟩ := cell_get mo rv hk
  cases rs with
  | cons rw rn =>
    cases rn
    obtain ⟨b, ys, rfl, eb, rb⟩ := hw.get mo rw
    refine ⟨a, b, us, ys, rfl, rfl, e, eb, by rw [ru.length, rb.length]; exact hl, ?_⟩
    have mo' : MOk K A M (upd H a (.lst (us ++ ys))) (μ.set k (some (.lst (ws ++ zs)))) := mo.write hm hk ⟨_, rfl, ru.append rb⟩
    exact h M _ _ _ _ mo' (Eff.write mo hm hk) (.d .non) q
/-! items, slices, sums of lists -/
theorem atI_map {ws : List W} {vs : List V} {i : Int} {w : W} {Hv : Hp} (ru : VRs K Hv M vs ws) (h : atI ws i = some w) : ∃ v, atI vs i = some v ∧ VR K Hv M v w := by
  unfold atI at h ⊢
  rw [ru.length]
  cases e : ixN ws.length i with
  | none => rw [e] at h; cases h
  | some j =>
    rw [e] at h
    exact ru.getW h
theorem ao_ixL {x z : W} {ws : List W} {i : Int} (hx : LW μ x ws) (hz : atI ws i = some z) (q : R z μ) : AO K (rIxL K) x (.d (.int i)) μ R := fun A M H v u mo rv ru Q h => by
  obtain ⟨a, vs, rfl, hs, rs⟩ := hx.get mo rv
  rw [vr_int ru]
  obtain ⟨y, hy, ry⟩ := atI_map rs hz
  exact ⟨a, vs, i, y, rfl, rfl, hs, hy, h M H y z μ mo Eff.refl ry q⟩
theorem ao_ixT {x z : W} {ws : List W} {i : Int} (hx : TW x ws) (hz : atI ws i = some z) (q : R z μ) : AO K (rIxT K) x (.d (.int i)) μ R := fun A M H v u mo rv ru Q h => by
  obtain ⟨a, vs, rfl, hs, rs⟩ := hx.get rv
  rw [vr_int ru]
  obtain ⟨y, hy, ry⟩ := atI_map rs hz
  exact ⟨a, vs, i, y, rfl, rfl, Evl.ex_t vw_le hs, hy, h M H y z μ mo Eff.refl ry q⟩
theorem ao_ixS {x : PySem.Str} {i : Int} {c : Nat} (hl : x.length ≤ sizeLine) (hc : atI x.cps.toList i = some c) (q : R (.d (.str ⟨#[c]⟩)) μ) : AO K rIxS (.d (.str x)) (.d (.int i)) μ R := fun A M H v u mo rv ru Q h => by
  rw [vr_int ru, vr_str rv]
  exact ⟨x, i, c, rfl, rfl, hl, hc, h M H _ _ μ mo Eff.refl (.d (.str _)) q⟩
theorem ao_cat {x y : W} {ws zs : List W} (hx : LN μ x ws) (hy : LN μ y zs) (hl : ws.length + zs.length ≤ sizeLine) (q : NL (ws ++ zs) μ R) : AO K rCat x y μ R := fun A M H v u mo rv ru Q h => by
  obtain ⟨a, vs, rfl, ha, ra⟩ := hx.get mo rv
  obtain ⟨b, us, rfl, hb, rb⟩ := hy.get mo ru
  refine ⟨a, b, vs, us, rfl, rfl, ha, hb, by rw [ra.length, rb.length]; exact hl, fun p hp => ?_⟩
  obtain ⟨M2, μ2, w, m2, e2, r2, hR⟩ := q.use mo (ra.append rb) hp
  exact h M2 _ _ w μ2 m2 e2 r2 hR
theorem vrs_rep {vs : List V} {ws : List W} {Hv : Hp} (h : VRs K Hv M vs ws) : ∀ n : Nat, VRs K Hv M (List.replicate n vs).flatten (List.replicate n ws).flatten
  | 0 => .nil
  | n + 1 => by
    rw [List.replicate_succ, List.replicate_succ, List.flatten_cons, List.flatten_cons]
    exact h.append (vrs_rep h n)
theorem ao_rep {x : W} {ws : List W} {k : Int} (hx : LN μ x ws) (hk : -(2 ^ 63) ≤ k ∧ k < 2 ^ 63) (hl : ws.length * k.toNat ≤ sizeLine) (q : NL (List.replicate k.toNat ws).flatten μ R) : AO K rRep x (.d (.int k)) μ R := fun A M H v u mo rv ru Q h => by
  obtain ⟨a, vs, rfl, ha, ra⟩ := hx.get mo rv
  rw [vr_int ru]
  refine ⟨a, k, vs, rfl, rfl, ha, hk.1, hk.2, by rw [ra.length]; exact hl, fun p hp => ?_⟩
  obtain ⟨M2, μ2, w, m2, e2, r2, hR⟩ := q.use mo (vrs_rep ra k.toNat) hp
  exact h M2 _ _ w μ2 m2 e2 r2 hR
def cutW (xs : List W) (lo hi : Option Int) : List W := (xs.drop (HT.sIx xs.length 0 lo)).take (HT.sIx xs.length xs.length hi - HT.sIx xs.length 0 lo)
theorem vrs_cut {vs : List V} {ws : List W} {Hv : Hp} (h : VRs K Hv M vs ws) (lo hi : Option Int) : VRs K Hv M (cutV vs lo hi) (cutW ws lo hi) := by
  unfold cutV cutW
  rw [h.length]
  exact (h.drop _).take _
section
variable {RO : Option Int → Mu → Prop}
theorem xo_no (q : RO none μ) : AXO K tNoPart Γ μ RO := fun A M σ H c Q h => h M H none μ c.mo Eff.refl q
theorem xo_some (h : AX K te Γ μ fun w μ1 => ∃ i, w = .d (.int i) ∧ RO (some i) μ1) : AXO K (tPart te) Γ μ RO := fun A M σ H c Q q =>
  h A M σ H c _ fun M1 H1 v w μ1 mo1 e1 r1 ⟨i, hi, hR⟩ => by
    subst hi
    exact ⟨i, vr_int r1, q M1 H1 (some i) μ1 mo1 e1 hR⟩
end
def ASl (K : PySem.W.Frag) (r : V → Option Int → Option Int → Hp → VK → Prop) (x : W) (lo hi : Option Int) (μ : Mu) (R : W → Mu → Prop) : Prop := AU K (fun v H Q => r v lo hi H Q) x μ R
theorem ax_sl {r : V → Option Int → Option Int → Hp → VK → Prop} {tl th : TO} (h : AX K te Γ μ fun x μ1 => AXO K tl Γ μ1 fun lo μ2 => AXO K th Γ μ2 fun hi μ3 => ASl K r x lo hi μ3 R) : AX K (tSl r te tl th) Γ μ R := fun A M σ H c Q q =>
  h A M σ H c _ fun M1 H1 v x μ1 mo1 e1 r1 h1 => h1 A M1 σ H1 (c.eff e1 mo1) _ fun M2 H2 lo μ2 mo2 e2 h2 => h2 A M2 σ H2 (c.eff (e1.trans e2) mo2) _ fun M3 H3 hi μ3 mo3 e3 h3 =>
    h3 A M3 H3 v mo3 (r1.mono (e2.trans e3).ex (e2.trans e3).pre) Q fun M4 H4 z w μ4 mo4 e4 r4 hR => q M4 H4 z w μ4 mo4 (((e1.trans e2).trans e3).trans e4) r4 hR
theorem as_slL {x : W} {ws : List W} {lo hi : Option Int} (hx : LW μ x ws) (q : NL (cutW ws lo hi) μ R) : ASl K (rSlL K) x lo hi μ R := fun A M H v mo rv Q h => by
  obtain ⟨a, vs, rfl, hs, rs⟩ := hx.get mo rv
  refine ⟨a, vs, rfl, hs, fun p hp => ?_⟩
  obtain ⟨M2, μ2, w, m2, e2, r2, hR⟩ := q.use mo (vrs_cut rs lo hi) hp
  exact h M2 _ _ w μ2 m2 e2 r2 hR
theorem as_slS {x : PySem.Str} {lo hi : Option Int} (hl : x.length ≤ sizeLine) (q : R (.d (.str (cutS x lo hi))) μ) : ASl K rSlS (.d (.str x)) lo hi μ R := fun A M H v mo rv Q h => by
  rw [vr_str rv]
  exact ⟨x, rfl, hl, h M H _ _ μ mo Eff.refl (.d (.str _)) q⟩
theorem ax_revL (h : AX K te Γ μ fun x μ1 => ∃ ws, LW μ1 x ws ∧ NL ws.reverse μ1 R) : AX K (tRevL K te) Γ μ R := fun A M σ H c Q q =>
  h A M σ H c _ fun M1 H1 v x μ1 mo1 e1 r1 ⟨ws, hx, hn⟩ => by
    obtain ⟨a, vs, rfl, hs, rs⟩ := hx.get mo1 r1
    refine ⟨a, vs, rfl, hs, fun p hp => ?_⟩
    obtain ⟨M2, μ2, w, m2, e2, r2, hR⟩ := hn.use mo1 rs.reverse hp
    exact q M2 _ _ w μ2 m2 (e1.trans e2) r2 hR
/-! built-ins by values -/
/-- a reading that wants a list's address and items -/
theorem ac_len {x : W} {ws : List W} (hx : LW μ x ws) (q : R (.d (.int ws.length)) μ) : AC K (fun xs H Q => ∃ p ys, xs = [.ref p] ∧ (SqL K H p ys ∨ SqT K H p ys) ∧ Q (.int ys.length) H) [x] μ R := fun A M H vs mo rs Q h => by
  cases rs with
  | cons rw rn =>
    cases rn
    obtain ⟨a, us, rfl, hs, ru⟩ := hx.get mo rw
    refine ⟨a, us, rfl, .inl hs, ?_⟩
    rw [ru.length]
    exact h M H _ _ μ mo Eff.refl (.d (.int _)) q
theorem ac_lenT {x : W} {ws : List W} (hx : TW x ws) (q : R (.d (.int ws.length)) μ) : AC K (fun xs H Q => ∃ p ys, xs = [.ref p] ∧ (SqL K H p ys ∨ SqT K H p ys) ∧ Q (.int ys.length) H) [x] μ R := fun A M H vs mo rs Q h => by
  cases rs with
  | cons rw rn =>
    cases rn
    obtain ⟨a, us, rfl, hs, ru⟩ := hx.get rw
    refine ⟨a, us, rfl, .inr (Evl.ex_t vw_le hs), ?_⟩
    rw [ru.length]
    exact h M H _ _ μ mo Eff.refl (.d (.int _)) q
theorem ac_list {x : W} {ws : List W} (hx : LW μ x ws) (q : NL ws μ R) : AC K (fun xs H Q => ∃ p ys, xs = [.ref p] ∧ (SqL K H p ys ∨ SqT K H p ys) ∧ ∀ l, H l = none → Q (.ref l) (upd H l (.lst ys))) [x] μ R := fun A M H vs mo rs Q h => by
  cases rs with
  | cons rw rn =>
    cases rn
    obtain ⟨a, us, rfl, hs, ru⟩ := hx.get mo rw
    refine ⟨a, us, rfl, .inl hs, fun p hp => ?_⟩
    obtain ⟨M2, μ2, w, m2, e2, r2, hR⟩ := q.use mo ru hp
    exact h M2 _ _ w μ2 m2 e2 r2 hR
theorem ac_listT {x : W} {ws : List W} (hx : TW x ws) (q : NL ws μ R) : AC K (fun xs H Q => ∃ p ys, xs = [.ref p] ∧ (SqL K H p ys ∨ SqT K H p ys) ∧ ∀ l, H l = none → Q (.ref l) (upd H l (.lst ys))) [x] μ R := fun A M H vs mo rs Q h => by
  cases rs with
  | cons rw rn =>
    cases rn
    obtain ⟨a, us, rfl, hs, ru⟩ := hx.get rw
    refine ⟨a, us, rfl, .inr (Evl.ex_t vw_le hs), fun p hp => ?_⟩
    obtain ⟨M2, μ2, w, m2, e2, r2, hR⟩ := q.use mo (ru) hp
    exact h M2 _ _ w μ2 m2 e2 r2 hR
theorem ac_tupleL {x : W} {ws : List W} (hx : LW μ x ws) (q : NT ws μ R) : AC K (fun xs H Q => ∃ p ys, xs = [.ref p] ∧ ((SqL K H p ys ∧ ∀ l, H l = none → Q (.ref l) (upd H l (.tup ys))) ∨ (SqT K H p ys ∧ Q (.ref p) H))) [x] μ R := fun A M H vs mo rs Q h => by
  cases rs with
  | cons rw rn =>
    cases rn
    obtain ⟨a, us, rfl, hs, ru⟩ := hx.get mo rw
    refine ⟨a, us, rfl, .inl ⟨hs, fun p hp => ?_⟩⟩
    obtain ⟨w, m2, e2, r2, hR⟩ := q.use mo ru hp
    exact h M _ _ w μ m2 e2 r2 hR
theorem ac_1 {g : Int → Int} {i : Int} (q : R (.d (.int (g i))) μ) : AC K (fun xs H Q => ∃ i, xs = [.int i] ∧ Q (.int (g i)) H) [.d (.int i)] μ R := fun A M H vs mo rs Q h => by
  cases rs with
  | cons rw rn =>
    cases rn
    exact ⟨i, by rw [vr_int rw], h M H _ _ μ mo Eff.refl (.d (.int _)) q⟩
theorem ac_2 {g : Int → Int → Int} {i j : Int} (q : R (.d (.int (g i j))) μ) : AC K (fun xs H Q => ∃ i j, xs = [.int i, .int j] ∧ Q (.int (g i j)) H) [.d (.int i), .d (.int j)] μ R := fun A M H vs mo rs Q h => by
  cases rs with
  | cons rw rn =>
    cases rn with
    | cons rw2 rn =>
      cases rn
      exact ⟨i, j, by rw [vr_int rw, vr_int rw2], h M H _ _ μ mo Eff.refl (.d (.int _)) q⟩
theorem ac_int {i : Int} (q : R (.d (.int i)) μ) : AC K (fun xs H Q => (∃ i, xs = [.int i] ∧ Q (.int i) H) ∨ ∃ k, xs = [.bl k] ∧ Q (.int (if k then 1 else 0)) H) [.d (.int i)] μ R := fun A M H vs mo rs Q h => by
  cases rs with
  | cons rw rn =>
    cases rn
    exact .inl ⟨i, by rw [vr_int rw], h M H _ _ μ mo Eff.refl (.d (.int _)) q⟩
theorem ac_intB {i : Bool} (q : R (.d (.int (if i then 1 else 0))) μ) : AC K (fun xs H Q => (∃ i, xs = [.int i] ∧ Q (.int i) H) ∨ ∃ k, xs = [.bl k] ∧ Q (.int (if k then 1 else 0)) H) [.d (.bool i)] μ R := fun A M H vs mo rs Q h => by
  cases rs with
  | cons rw rn =>
    cases rn
    exact .inr ⟨i, by rw [vr_bool rw], h M H _ _ μ mo Eff.refl (.d (.int _)) q⟩
theorem ac_sum {x : W} {ns : List Int} (hx : LW μ x (ns.map fun n => W.d (.int n))) (q : R (.d (.int ns.sum)) μ) : AC K (rSum K) [x] μ R := fun A M H vs mo rs Q h => by
  cases rs with
  | cons rw rn =>
    cases rn
    obtain ⟨a, us, rfl, hs, ru⟩ := hx.get mo rw
    rw [vrs_int ru] at hs
    exact ⟨a, ns, rfl, hs, h M H _ _ μ mo Eff.refl (.d (.int _)) q⟩
theorem ac_max {x : W} {ns : List Int} (hx : LW μ x (ns.map fun n => W.d (.int n))) (h0 : 0 < ns.length) (q : ∀ m, m ∈ ns → (∀ y, y ∈ ns → y ≤ m) → R (.d (.int m)) μ) : AC K (rMax K) [x] μ R := fun A M H vs mo rs Q h => by
  cases rs with
  | cons rw rn =>
    cases rn
    obtain ⟨a, us, rfl, hs, ru⟩ := hx.get mo rw
    rw [vrs_int ru] at hs
    exact ⟨a, ns, rfl, hs, h0, fun m m1 m2 => h M H _ _ μ mo Eff.refl (.d (.int _)) (q m m1 m2)⟩
theorem ac_min {x : W} {ns : List Int} (hx : LW μ x (ns.map fun n => W.d (.int n))) (h0 : 0 < ns.length) (q : ∀ m, m ∈ ns → (∀ y, y ∈ ns → m ≤ y) → R (.d (.int m)) μ) : AC K (rMin K) [x] μ R := fun A M H vs mo rs Q h => by
  cases rs with
  | cons rw rn =>
    cases rn
    obtain ⟨a, us, rfl, hs, ru⟩ := hx.get mo rw
    rw [vrs_int ru] at hs
    exact ⟨a, ns, rfl, hs, h0, fun m m1 m2 => h M H _ _ μ mo Eff.refl (.d (.int _)) (q m m1 m2)⟩
theorem ac_all {x : W} {bs : List Bool} (hx : LW μ x (bs.map fun n => W.d (.bool n))) (q : R (.d (.bool (bs.all id))) μ) : AC K (rAll K) [x] μ R := fun A M H vs mo rs Q h => by
  cases rs with
  | cons rw rn =>
    cases rn
    obtain ⟨a, us, rfl, hs, ru⟩ := hx.get mo rw
    rw [vrs_bool ru] at hs
    exact ⟨a, bs, rfl, hs, h M H _ _ μ mo Eff.refl (.d (.bl _)) q⟩
end
/-! ### targets, statements -/
section
variable {K : PySem.W.Frag} {A : Addr → Prop} {M M' : List Addr} {H H' : Hp} {Γ : G} {μ μ' : Mu} {ta te tl : TE} {c : TT} {t u tb : TS} {g : TG} {D : AEn}
theorem ag_name {i : Nat} {w : W} {R : G → Mu → Prop} (q : R (Γ.set i (some w)) μ) : AG K (gName i) w Γ μ R := fun A M σ H v c rv Q h => h M _ H _ μ ⟨c.mo, c.gr.set rv⟩ Eff.refl q
theorem ags_nil {R : G → Mu → Prop} (q : R Γ μ) : AGs K gNil [] Γ μ R := fun A M σ H vs c rs Q h => by
  cases rs
  exact ⟨rfl, h M σ H Γ μ c Eff.refl q⟩
theorem ags_cons {g : TG} {gs : TGs} {w : W} {ws : List W} {R : G → Mu → Prop} (h : AG K g w Γ μ fun Γ1 μ1 => AGs K gs ws Γ1 μ1 R) : AGs K (gCons g gs) (w :: ws) Γ μ R := fun A M σ H vs c rs Q q => by
  cases rs with
  | cons r1 r2 =>
    refine ⟨_, _, rfl, h A M σ H _ c r1 _ fun M1 σ1 H1 Γ1 μ1 c1 e1 h1 => ?_⟩
    exact h1 A M1 σ1 H1 _ c1 (r2.mono e1.ex e1.pre) Q fun M2 σ2 H2 Γ2 μ2 c2 e2 h2 => q M2 σ2 H2 Γ2 μ2 c2 (e1.trans e2) h2
theorem ag_tup {gs : TGs} {n : Nat} {w : W} {ws : List W} {R : G → Mu → Prop} (hw : TW w ws) (hn : ws.length = n) (h : AGs K gs ws Γ μ R) : AG K (gTup K n gs) w Γ μ R := fun A M σ H v c rv Q q => by
  obtain ⟨a, vs, rfl, hs, rs⟩ := hw.get rv
  exact ⟨a, vs, rfl, Evl.ex_t vw_le hs, by rw [rs.length]; exact hn, h A M σ H vs c rs Q q⟩
theorem as_asg (h : AX K te Γ μ fun w μ1 => AG K g w Γ μ1 D.nx) : AS K (tAsg te g) D Γ μ := fun A M σ H cn E hd =>
  h A M σ H cn _ fun M1 H1 v w μ1 mo1 e1 r1 h1 => h1 A M1 σ H1 v (cn.eff e1 mo1) r1 _ fun M2 σ2 H2 Γ2 μ2 c2 e2 h2 => hd.nx M2 σ2 H2 Γ2 μ2 c2 (e1.trans e2) h2
theorem as_par {i j : Nat} {tr : TA} (h : AXA K tr Γ μ fun ws μ1 => ∃ x y, ws = [x, y] ∧ D.nx ((Γ.set i (some x)).set j (some y)) μ1) : AS K (tPar i j tr) D Γ μ := fun A M σ H cn E hd =>
  h A M σ H cn _ fun M1 H1 vs ws μ1 mo1 e1 r1 ⟨x, y, hw, h1⟩ => by
    subst hw
    cases r1 with
    | cons ra r2 =>
      cases r2 with
      | cons rb r3 =>
        cases r3
        exact ⟨_, _, rfl, hd.nx M1 _ H1 _ μ1 ⟨mo1, ((cn.gr.mono e1.ex e1.pre).set ra).set rb⟩ e1 h1⟩
theorem as_par3 {i j l : Nat} {tr : TA} (h : AXA K tr Γ μ fun ws μ1 => ∃ x y z, ws = [x, y, z] ∧ D.nx (((Γ.set i (some x)).set j (some y)).set l (some z)) μ1) : AS K (tPar3 i j l tr) D Γ μ := fun A M σ H cn E hd =>
  h A M σ H cn _ fun M1 H1 vs ws μ1 mo1 e1 r1 ⟨x, y, z, hw, h1⟩ => by
    subst hw
    cases r1 with
    | cons ra r2 =>
      cases r2 with
      | cons rb r3 =>
        cases r3 with
        | cons rc r4 =>
          cases r4
          exact ⟨_, _, _, rfl, hd.nx M1 _ H1 _ μ1 ⟨mo1, (((cn.gr.mono e1.ex e1.pre).set ra).set rb).set rc⟩ e1 h1⟩
theorem as_seq (h : AS K t { D with nx := fun Γ1 μ1 => AS K u D Γ1 μ1 } Γ μ) : AS K (tSeq t u) D Γ μ := fun A M σ H cn E hd =>
  h A M σ H cn { E with nx := u E } ⟨fun M1 σ1 H1 Γ1 μ1 c1 e1 h1 => h1 A M1 σ1 H1 c1 E (hd.after e1), hd.rt, hd.bk, hd.ct, hd.xx⟩
theorem as_next (h : D.nx Γ μ) : AS K tNext D Γ μ := fun A M σ H cn E hd => hd.nx M σ H Γ μ cn Eff.refl h
theorem as_break (h : D.bk Γ μ) : AS K tBreak D Γ μ := fun A M σ H cn E hd => hd.bk M σ H Γ μ cn Eff.refl h
theorem as_cont (h : D.ct Γ μ) : AS K tCont D Γ μ := fun A M σ H cn E hd => hd.ct M σ H Γ μ cn Eff.refl h
theorem as_drop (h : AX K te Γ μ fun _ μ1 => D.nx Γ μ1) : AS K (tDrop te) D Γ μ := fun A M σ H cn E hd =>
  h A M σ H cn _ fun M1 H1 v w μ1 mo1 e1 r1 h1 => hd.nx M1 σ H1 Γ μ1 (cn.eff e1 mo1) e1 h1
theorem as_ret (h : AX K te Γ μ D.rt) : AS K (tRet te) D Γ μ := fun A M σ H cn E hd => h A M σ H cn _ fun M1 H1 v w μ1 mo1 e1 r1 h1 => hd.rt M1 H1 v w μ1 mo1 e1 r1 h1
theorem as_retN (h : D.rt (.d .none) μ) : AS K tRetN D Γ μ := fun A M σ H cn E hd => hd.rt M H _ _ μ cn.mo Eff.refl (.d .non) h
theorem as_if (h : AXT K c Γ μ fun b μ1 => if b = true then AS K t D Γ μ1 else AS K u D Γ μ1) : AS K (tIfS c t u) D Γ μ := fun A M σ H cn E hd =>
  h A M σ H cn _ fun M1 H1 b μ1 mo1 e1 h1 => by
    cases b with
    | true => exact h1 A M1 σ H1 (cn.eff e1 mo1) E (hd.after e1)
    | false => exact h1 A M1 σ H1 (cn.eff e1 mo1) E (hd.after e1)
theorem as_aug {i : Nat} {x : W} {f : Int → Int → Int} {a : Int} (hx : Γ[i]? = some (some (.d (.int a)))) (h : AX K te Γ μ fun w μ1 => ∃ b, w = .d (.int b) ∧ D.nx (Γ.set i (some (.d (.int (f a b))))) μ1) : AS K (tAug i te (ipI f)) D Γ μ := fun A M σ H cn E hd => by
  obtain ⟨v, e, r⟩ := cn.gr.2 i _ hx
  refine ⟨v, e, h A M σ H cn _ fun M1 H1 u w μ1 mo1 e1 r1 ⟨b, hw, h1⟩ => ?_⟩
  subst hw
  exact ⟨a, b, vr_int r, vr_int r1, hd.nx M1 _ H1 _ μ1 ⟨mo1, (cn.gr.mono e1.ex e1.pre).set (.d (.int _))⟩ e1 h1⟩
/-- an operator's rule as an in-place one -/
theorem as_augR {i : Nat} {x : W} {r : R2} (hx : Γ[i]? = some (some x)) (h : AX K te Γ μ fun w μ1 => AO K r x w μ1 fun z μ2 => D.nx (Γ.set i (some z)) μ2) : AS K (tAug i te r) D Γ μ := fun A M σ H cn E hd => by
  obtain ⟨v, e, rx⟩ := cn.gr.2 i _ hx
  refine ⟨v, e, h A M σ H cn _ fun M1 H1 u w μ1 mo1 e1 r1 h1 => ?_⟩
  exact h1 A M1 H1 v u mo1 (rx.mono e1.ex e1.pre) r1 _ fun M2 H2 z w2 μ2 mo2 e2 r2 h2 => hd.nx M2 _ H2 _ μ2 ⟨mo2, (cn.gr.mono (e1.trans e2).ex (e1.trans e2).pre).set r2⟩ (e1.trans e2) h2
/-- xs[i] = e -/
def ASet (K : PySem.W.Frag) (ts : TSet) (o i w : W) (μ : Mu) (R : Mu → Prop) : Prop := ∀ (A : Addr → Prop) (M : List Addr) (H : Hp) (x y v : V), MOk K A M H μ → VR K (vw A M μ H) M x o → VR K (vw A M μ H) M y i → VR K (vw A M μ H) M v w → ∀ Q : Hp → Prop,
  (∀ M' H' μ', MOk K A M' H' μ' → Eff A M μ H M' μ' H' → R μ' → Q H') → ts x y v H Q
theorem ag_sub {to ti : TE} {ts : TSet} {w : W} {R : G → Mu → Prop} (h : AX K to Γ μ fun o μ1 => AX K ti Γ μ1 fun i μ2 => ASet K ts o i w μ2 fun μ3 => R Γ μ3) : AG K (gSub to ti ts) w Γ μ R := fun A M σ H v cn rv Q q =>
  h A M σ H cn _ fun M1 H1 x o μ1 mo1 e1 r1 h1 => h1 A M1 σ H1 (cn.eff e1 mo1) _ fun M2 H2 y i μ2 mo2 e2 r2 h2 =>
    h2 A M2 H2 x y v mo2 (r1.mono e2.ex e2.pre) r2 (rv.mono (e1.trans e2).ex (e1.trans e2).pre) _ fun M3 H3 μ3 mo3 e3 h3 => q M3 σ H3 Γ μ3 (cn.eff ((e1.trans e2).trans e3) mo3) ((e1.trans e2).trans e3) h3
theorem aset_L {k j : Nat} {ws : List W} {i : Int} {w : W} {R : Mu → Prop} (hk : μ[k]? = some (some (.lst ws))) (hj : ixN ws.length i = some j) (q : R (μ.set k (some (.lst (ws.set j w))))) : ASet K rSetL (.m k) (.d (.int i)) w μ R := fun A M H x y v mo rx ry rv Q h => by
  obtain ⟨a, us, rfl, hm, e, ru⟩ := cell_get mo rx hk
  rw [vr_int ry]
  refine ⟨a, us, i, j, rfl, rfl, e, by rw [ru.length]; exact hj, ?_⟩
  have mo' : MOk K A M (upd H a (.lst (us.set j v))) (μ.set k (some (.lst (ws.set j w)))) := mo.write hm hk ⟨_, rfl, VRs.set rv j ru⟩
  exact h M _ _ mo' (Eff.write mo hm hk) q
end
end Pd

namespace Pd
open PySem L2
open Evl (Ex)
/-! ### what is walked -/
def ItOk (K : PySem.W.Frag) (J : It) (Hv : Hp) (M1 : List Addr) (items : List W) (S : Mu → Prop) : Prop := ∀ (A' : Addr → Prop) (M' : List Addr) (H' : Hp) (μ' : Mu), MOk K A' M' H' μ' → Ex Hv (vw A' M' μ' H') → Pre M1 M' → S μ' → ∀ i,
  (∀ w, items[i]? = some w → J.go i H' ∧ ∀ x H2, J.yld i H' x H2 → Ex H' H2 ∧ VR K (vw A' M' μ' H2) M' x w) ∧ (items[i]? = none → J.stop i H')
def AI (K : PySem.W.Frag) (wi : TI) (Γ : G) (μ : Mu) (R : List W → (Mu → Prop) → Mu → Prop) : Prop := ∀ (A : Addr → Prop) (M : List Addr) (σ : L2.St) (H : Hp), Cn K A M σ H Γ μ → ∀ Q : It → Hp → Prop,
  (∀ M' H' J items S μ', MOk K A M' H' μ' → Eff A M μ H M' μ' H' → ItOk K J (vw A M' μ' H') M' items S → R items S μ' → Q J H') → wi σ H Q
section
variable {K : PySem.W.Frag} {Γ : G} {μ : Mu} {tl te : TE} {ta : TA} {R : List W → (Mu → Prop) → Mu → Prop}
theorem ai_list (h : AX K tl Γ μ fun w μ1 => ∃ ws, LW μ1 w ws ∧ R ws (fun μ' => LW μ' w ws) μ1) : AI K (iList K tl) Γ μ R := fun A M σ H c Q q =>
  h A M σ H c _ fun M1 H1 v w μ1 mo1 e1 r1 ⟨ws, hl, hR⟩ => by
    obtain ⟨a, vs, rfl, hs, rs⟩ := hl.get mo1 r1
    refine ⟨a, rfl, ⟨vs, hs⟩, q M1 H1 _ ws _ μ1 mo1 e1 (fun A' M' H' μ' mo' ex pr hS i => ?_) hR⟩
    obtain ⟨a2, us, ea, hu, ru⟩ := LW.get mo' (r1.mono ex pr) hS
    cases ea
    refine ⟨fun w' hw => ?_, fun hn => ⟨us, hu, ?_⟩⟩
    · obtain ⟨y, hy, ry⟩ := ru.getW hw
      refine ⟨⟨us, y, hu, hy⟩, fun x H2 hx => ?_⟩
      obtain ⟨rfl, hx⟩ := hx
      have : y = x := Option.some.inj (hy.symm.trans (hx us hu))
      subst this
      exact ⟨Ex.refl _, ry⟩
    · rw [ru.length]
      exact List.getElem?_eq_none_iff.mp hn
theorem ai_tup (h : AX K tl Γ μ fun w μ1 => ∃ ws, TW w ws ∧ R ws (fun _ => True) μ1) : AI K (iTup K tl) Γ μ R := fun A M σ H c Q q =>
  h A M σ H c _ fun M1 H1 v w μ1 mo1 e1 r1 ⟨ws, hl, hR⟩ => by
    obtain ⟨a, vs, rfl, hs, rs⟩ := hl.get r1
    refine ⟨a, rfl, ⟨vs, Evl.ex_t vw_le hs⟩, q M1 H1 _ ws _ μ1 mo1 e1 (fun A' M' H' μ' mo' ex pr hS i => ?_) hR⟩
    have hu : SqT K H' a vs := Evl.ex_t vw_le (Evl.ex_t ex hs)
    have ru := rs.mono ex pr
    refine ⟨fun w' hw => ?_, fun hn => ⟨vs, hu, ?_⟩⟩
    · obtain ⟨y, hy, ry⟩ := ru.getW hw
      refine ⟨⟨vs, y, hu, hy⟩, fun x H2 hx => ?_⟩
      obtain ⟨rfl, hx⟩ := hx
      have : y = x := Option.some.inj (hy.symm.trans (hx vs hu))
      subst this
      exact ⟨Ex.refl _, ry⟩
    · rw [ru.length]
      exact List.getElem?_eq_none_iff.mp hn
theorem it_rng (lo : Int) (n : Nat) (Hv : Hp) (M1 : List Addr) : ItOk K (Itr lo n) Hv M1 ((List.range n).map fun (i : Nat) => W.d (.int (lo + i))) (fun _ => True) := fun A' M' H' μ' mo' ex pr hS i => by
  by_cases hi : i < n
  · have e : ((List.range n).map fun (i : Nat) => W.d (.int (lo + i)))[i]? = some (W.d (.int (lo + i))) := by
      rw [List.getElem?_map, List.getElem?_range hi]
      rfl
    refine ⟨fun w hw => ⟨hi, fun x H2 hx => ?_⟩, fun hn => by rw [e] at hn; cases hn⟩
    obtain ⟨rfl, rfl⟩ := hx
    rw [e] at hw
    cases hw
    exact ⟨Ex.refl _, .d (.int _)⟩
  · have e : ((List.range n).map fun (i : Nat) => W.d (.int (lo + i)))[i]? = none := by
      rw [List.getElem?_map, List.getElem?_eq_none_iff.mpr (by rw [List.length_range]; omega)]
      rfl
    exact ⟨fun w hw => (by rw [e] at hw; cases hw), fun _ => Nat.le_of_not_lt hi⟩
theorem ai_rng1 (h : AXA K ta Γ μ fun ws μ1 => ∃ j : Int, ws = [.d (.int j)] ∧ (-(2 ^ 62) ≤ j ∧ j < 2 ^ 62) ∧ R ((List.range j.toNat).map fun (i : Nat) => W.d (.int (0 + i))) (fun _ => True) μ1) : AI K (iRng1 ta) Γ μ R := fun A M σ H c Q q =>
  h A M σ H c _ fun M1 H1 vs ws μ1 mo1 e1 r1 ⟨j, hj, ⟨b1, b2⟩, hR⟩ => by
    subst hj
    cases r1 with
    | cons ra rn =>
      cases rn
      exact ⟨j, by rw [vr_int ra], b1, b2, q M1 H1 _ _ _ μ1 mo1 e1 (it_rng 0 j.toNat _ _) hR⟩
theorem ai_rng2 (h : AXA K ta Γ μ fun ws μ1 => ∃ i j : Int, ws = [.d (.int i), .d (.int j)] ∧ (-(2 ^ 62) ≤ i ∧ i < 2 ^ 62 ∧ -(2 ^ 62) ≤ j ∧ j < 2 ^ 62) ∧ R ((List.range (j - i).toNat).map fun (k : Nat) => W.d (.int (i + k))) (fun _ => True) μ1) : AI K (iRng2 ta) Γ μ R := fun A M σ H c Q q =>
  h A M σ H c _ fun M1 H1 vs ws μ1 mo1 e1 r1 ⟨i, j, hj, b, hR⟩ => by
    subst hj
    cases r1 with
    | cons ra rn =>
      cases rn with
      | cons rb rn =>
        cases rn
        exact ⟨i, j, by rw [vr_int ra, vr_int rb], b, q M1 H1 _ _ _ μ1 mo1 e1 (it_rng i (j - i).toNat _ _) hR⟩
theorem ai_str (h : AX K te Γ μ fun w μ1 => ∃ x : PySem.Str, w = .d (.str x) ∧ R (x.cps.toList.map fun c => W.d (.str ⟨#[c]⟩)) (fun _ => True) μ1) : AI K (iStr te) Γ μ R := fun A M σ H c Q q =>
  h A M σ H c _ fun M1 H1 v w μ1 mo1 e1 r1 ⟨x, hx, hR⟩ => by
    subst hx
    refine ⟨x, vr_str r1, q M1 H1 _ _ _ μ1 mo1 e1 (fun A' M' H' μ' mo' ex pr hS i => ?_) hR⟩
    have hz : x.cps.toList[i]? = x.cps[i]? := by simp
    refine ⟨fun w hw => ?_, fun hn => ?_⟩
    · rw [List.getElem?_map, hz] at hw
      cases hc : x.cps[i]? with
      | none => rw [hc] at hw; cases hw
      | some cc =>
        rw [hc] at hw
        cases hw
        refine ⟨(Array.getElem?_eq_some_iff.mp hc).1, fun y H2 hy => ?_⟩
        obtain ⟨rfl, c2, h2, rfl⟩ := hy
        rw [hc] at h2
        cases h2
        exact ⟨Ex.refl _, .d (.str _)⟩
    · rw [List.getElem?_map, hz] at hn
      have : x.cps[i]? = none := by
        cases hc : x.cps[i]? with
        | none => rfl
        | some cc => rw [hc] at hn; cases hn
      exact Array.getElem?_eq_none_iff.mp this
/-- a pair that was made on the way -/
def pairW : W → W → W
  | .d x, .d y => .d (.tuple [x, y])
  | a, b => .t [a, b]
theorem vr_pair {A : Addr → Prop} {M : List Addr} {H : Hp} {T : Addr} {x y : V} {a b : W} (mo : MOk K A M H μ) (hT : H T = none) (rx : VR K (vw A M μ H) M x a) (ry : VR K (vw A M μ H) M y b) : VR K (vw A M μ (upd H T (.tup [x, y]))) M (.ref T) (pairW a b) := by
  have hs : SqT K (vw A M μ (upd H T (.tup [x, y]))) T [x, y] := SqT.of (vw_of (mo.ne_hid hT) upd_same)
  have ex : Ex (vw A M μ H) (vw A M μ (upd H T (.tup [x, y]))) := vw_ex (Ex.new hT)
  have g : VRs K (vw A M μ (upd H T (.tup [x, y]))) M [x, y] [a, b] := .cons (rx.mono ex (Pre.refl _)) (.cons (ry.mono ex (Pre.refl _)) .nil)
  cases a with
  | d a =>
    cases b with
    | d b => exact .d (.tup hs (VRs.dp (ds := [a, b]) g))
    | m _ => exact .t hs g
    | t _ => exact .t hs g
    | f _ => exact .t hs g
    | k _ => exact .t hs g
  | m _ => exact .t hs g
  | t _ => exact .t hs g
  | f _ => exact .t hs g
  | k _ => exact .t hs g
theorem tw_pair (a b : W) : TW (pairW a b) [a, b] := by
  cases a with
  | d a =>
    cases b with
    | d b => exact .d [a, b]
    | m _ => exact .t _
    | t _ => exact .t _
    | f _ => exact .t _
    | k _ => exact .t _
  | m _ => exact .t _
  | t _ => exact .t _
  | f _ => exact .t _
  | k _ => exact .t _
theorem ai_enum (h : AXA K ta Γ μ fun ws μ1 => ∃ w zs, ws = [w] ∧ LW μ1 w zs ∧ R (zs.mapIdx fun i z => pairW (.d (.int (i : Nat))) z) (fun μ' => LW μ' w zs) μ1) : AI K (iEnum K ta) Γ μ R := fun A M σ H c Q q =>
  h A M σ H c _ fun M1 H1 vs ws μ1 mo1 e1 r1 ⟨w, zs, hw, hl, hR⟩ => by
    subst hw
    cases r1 with
    | cons ra rn =>
      cases rn
      obtain ⟨a, us, rfl, hs, rs⟩ := hl.get mo1 ra
      refine ⟨a, us, rfl, hs, q M1 H1 _ _ _ μ1 mo1 e1 (fun A' M' H' μ' mo' ex pr hS i => ?_) hR⟩
      obtain ⟨a2, us2, ea, hu, ru⟩ := LW.get mo' (ra.mono ex pr) hS
      cases ea
      refine ⟨fun w' hw => ?_, fun hn => ⟨us2, hu, ?_⟩⟩
      · rw [List.getElem?_mapIdx] at hw
        cases hz : zs[i]? with
        | none => rw [hz] at hw; cases hw
        | some z =>
          rw [hz] at hw
          cases hw
          obtain ⟨y, hy, ry⟩ := ru.getW hz
          refine ⟨⟨us2, y, hu, hy⟩, fun x H2 hx => ?_⟩
          obtain ⟨T, x2, rfl, hT, rfl, hx⟩ := hx
          have : y = x2 := Option.some.inj (hy.symm.trans (hx us2 hu))
          subst this
          exact ⟨Ex.new hT, vr_pair mo' hT (.d (.int _)) ry⟩
      · rw [List.getElem?_mapIdx] at hn
        have : zs[i]? = none := by
          cases hz : zs[i]? with
          | none => rfl
          | some z => rw [hz] at hn; cases hn
        rw [ru.length]
        exact List.getElem?_eq_none_iff.mp this
theorem ai_zip (h : AXA K ta Γ μ fun ws μ1 => ∃ w1 w2 xs ys, ws = [w1, w2] ∧ LW μ1 w1 xs ∧ LW μ1 w2 ys ∧ R (List.zipWith pairW xs ys) (fun μ' => LW μ' w1 xs ∧ LW μ' w2 ys) μ1) : AI K (iZip K ta) Γ μ R := fun A M σ H c Q q =>
  h A M σ H c _ fun M1 H1 vs ws μ1 mo1 e1 r1 ⟨w1, w2, zs, zs2, hw, hl1, hl2, hR⟩ => by
    subst hw
    cases r1 with
    | cons ra rn =>
      cases rn with
      | cons rb rn =>
        cases rn
        obtain ⟨a, us, rfl, hs, rs⟩ := hl1.get mo1 ra
        obtain ⟨b, us2, rfl, hs2, rs2⟩ := hl2.get mo1 rb
        refine ⟨a, b, us, us2, rfl, hs, hs2, q M1 H1 _ _ _ μ1 mo1 e1 (fun A' M' H' μ' mo' ex pr hS i => ?_) hR⟩
        obtain ⟨a2, u1, ea, hu, ru⟩ := LW.get mo' (ra.mono ex pr) hS.1
        cases ea
        obtain ⟨b2, u2, eb, hu2, ru2⟩ := LW.get mo' (rb.mono ex pr) hS.2
        cases eb
        refine ⟨fun w' hw => ?_, fun hn => ⟨u1, u2, hu, hu2, ?_⟩⟩
        · rw [List.getElem?_zipWith] at hw
          cases hz : zs[i]? with
          | none => rw [hz] at hw; cases hw
          | some z =>
            cases hz2 : zs2[i]? with
            | none => rw [hz, hz2] at hw; cases hw
            | some z2 =>
              rw [hz, hz2] at hw
              cases hw
              obtain ⟨y, hy, ry⟩ := ru.getW hz
              obtain ⟨y2, hy2, ry2⟩ := ru2.getW hz2
              refine ⟨⟨u1, u2, y, y2, hu, hu2, hy, hy2⟩, fun x H2 hx => ?_⟩
              obtain ⟨T, x2, x3, rfl, hT, rfl, hx, hx3⟩ := hx
              have : y = x2 := Option.some.inj (hy.symm.trans (hx u1 hu))
              subst this
              have : y2 = x3 := Option.some.inj (hy2.symm.trans (hx3 u2 hu2))
              subst this
              exact ⟨Ex.new hT, vr_pair mo' hT ry ry2⟩
        · rw [List.getElem?_zipWith] at hn
          rw [ru.length, ru2.length]
          by_cases h1 : i < zs.length
          · by_cases h2 : i < zs2.length
            · rw [List.getElem?_eq_getElem h1, List.getElem?_eq_getElem h2] at hn
              cases hn
            · exact .inr (by omega)
          · exact .inl (by omega)
theorem ai_rev (h : AXA K ta Γ μ fun ws μ1 => ∃ w zs, ws = [w] ∧ LW μ1 w zs ∧ R zs.reverse (fun μ' => LW μ' w zs) μ1) : AI K (iRev K ta) Γ μ R := fun A M σ H c Q q =>
  h A M σ H c _ fun M1 H1 vs ws μ1 mo1 e1 r1 ⟨w, zs, hw, hl, hR⟩ => by
    subst hw
    cases r1 with
    | cons ra rn =>
      cases rn
      obtain ⟨a, us, rfl, hs, rs⟩ := hl.get mo1 ra
      refine ⟨a, us, rfl, hs, q M1 H1 _ _ _ μ1 mo1 e1 (fun A' M' H' μ' mo' ex pr hS i => ?_) hR⟩
      obtain ⟨a2, us2, ea, hu, ru⟩ := LW.get mo' (ra.mono ex pr) hS
      cases ea
      have hl2 : us.length = zs.length := rs.length
      refine ⟨fun w' hw => ?_, fun hn => ?_⟩
      · have hi : i < zs.length := by
          have := (List.getElem?_eq_some_iff.mp hw).1
          simpa using this
        rw [List.getElem?_reverse hi] at hw
        obtain ⟨y, hy, ry⟩ := ru.getW hw
        refine ⟨⟨by omega, us2, y, hu, by rw [hl2]; exact hy⟩, fun x H2 hx => ?_⟩
        obtain ⟨rfl, hx⟩ := hx
        have hx2 := hx us2 hu
        rw [hl2] at hx2
        have : y = x := Option.some.inj (hy.symm.trans hx2)
        subst this
        exact ⟨Ex.refl _, ry⟩
      · have := List.getElem?_eq_none_iff.mp hn
        show us.length ≤ i
        rw [hl2]
        simpa using this
end
/-! ### loops -/
theorem take_snoc {α : Type} {ns : List α} {i : Nat} {x : α} (h : ns[i]? = some x) : ns.take (i + 1) = ns.take i ++ [x] := by
  rw [List.take_add_one, h]
  rfl
theorem split_at {α : Type} {ns : List α} {i : Nat} {x : α} (h : ns[i]? = some x) : ns = ns.take i ++ x :: ns.drop (i + 1) := by
  obtain ⟨hi, e⟩ := List.getElem?_eq_some_iff.mp h
  rw [← e, ← List.drop_eq_getElem_cons hi, List.take_append_drop]
theorem as_for {K : PySem.W.Frag} {Γ : G} {μ : Mu} {wi : TI} {g : TG} {tb : TS} {D : AEn} {α : Type} (f : α → W) (ns : List α) (I : List α → G → Mu → Prop)
    (h : AI K wi Γ μ fun items S μ1 => items = ns.map f ∧ (∀ pre Γ' μ', I pre Γ' μ' → S μ') ∧ I [] Γ μ1)
    (hs : ∀ pre x post Γ' μ', ns = pre ++ x :: post → I pre Γ' μ' → AG K g (f x) Γ' μ' fun Γ2 μ2 => AS K tb { D with nx := I (pre ++ [x]), ct := I (pre ++ [x]), bk := D.nx } Γ2 μ2)
    (hd : ∀ Γ' μ', I ns Γ' μ' → D.nx Γ' μ') : AS K (tFor wi g tb) D Γ μ := fun A M σ H cn E hE =>
  h A M σ H cn _ fun M1 H1 J items S μ1 mo1 e1 hJ ⟨hi, hS, h0⟩ => by
    subst hi
    refine ⟨fun i m σ' H' => ∃ M' Γ' μ', Cn K A M' σ' H' Γ' μ' ∧ Eff A M1 μ1 H1 M' μ' H' ∧ i ≤ ns.length ∧ m = ns.length - i ∧ I (ns.take i) Γ' μ',
      ⟨ns.length, M1, Γ, μ1, cn.eff e1 mo1, Eff.refl, Nat.zero_le _, rfl, h0⟩, fun i m σ' H' hW => ?_⟩
    obtain ⟨M', Γ', μ', c', e', hi, rfl, hI⟩ := hW
    have hit := hJ A M' H' μ' c'.mo e'.ex e'.pre (hS _ _ _ hI) i
    by_cases hlt : i < ns.length
    · have hx : ns[i]? = some ns[i] := List.getElem?_eq_getElem hlt
      have hw : (ns.map f)[i]? = some (f ns[i]) := by rw [List.getElem?_map, hx]; rfl
      obtain ⟨hgo, hy⟩ := hit.1 _ hw
      refine .inr ⟨hgo, fun σ2 H2 => ∃ M2 Γ2 μ2, Cn K A M2 σ2 H2 Γ2 μ2 ∧ Eff A M1 μ1 H1 M2 μ2 H2 ∧ I (ns.take (i + 1)) Γ2 μ2,
        fun σ2 H2 ⟨M2, Γ2, μ2, c2, e2, hI2⟩ => ⟨ns.length - (i + 1), by omega, M2, Γ2, μ2, c2, e2, hlt, rfl, hI2⟩, fun x H2 hyld => ?_⟩
      obtain ⟨ex2, rx⟩ := hy x H2 hyld
      have e2' : Eff A M' μ' H' M' μ' H2 := Eff.of_ex ex2
      refine hs (ns.take i) ns[i] (ns.drop (i + 1)) Γ' μ' (split_at hx) hI A M' σ' H2 x (c'.ex ex2) rx _ fun M3 σ3 H3 Γ3 μ3 c3 e3 h3 => ?_
      have e13 : Eff A M1 μ1 H1 M3 μ3 H3 := (e'.trans e2').trans e3
      refine h3 A M3 σ3 H3 c3 _ ⟨fun M4 σ4 H4 Γ4 μ4 c4 e4 h4 => ?_, fun M4 H4 v w μ4 m4 e4 r4 h4 => hE.rt M4 H4 v w μ4 m4 ((e1.trans e13).trans e4) r4 h4, fun M4 σ4 H4 Γ4 μ4 c4 e4 h4 => hE.nx M4 σ4 H4 Γ4 μ4 c4 ((e1.trans e13).trans e4) h4, fun M4 σ4 H4 Γ4 μ4 c4 e4 h4 => ?_, hE.xx.after (e1.trans e13)⟩
      · refine ⟨M4, Γ4, μ4, c4, e13.trans e4, ?_⟩
        rw [take_snoc hx]
        exact h4
      · refine ⟨M4, Γ4, μ4, c4, e13.trans e4, ?_⟩
        rw [take_snoc hx]
        exact h4
    · have hei : i = ns.length := by omega
      subst hei
      refine .inl ⟨hit.2 (by simp), ?_⟩
      rw [List.take_length] at hI
      exact hE.nx M' σ' H' Γ' μ' c' (e1.trans e') (hd Γ' μ' hI)
theorem as_while {K : PySem.W.Frag} {Γ : G} {μ : Mu} {c : TT} {tb : TS} {D : AEn} (I : Nat → G → Mu → Prop) (m0 : Nat) (h0 : I m0 Γ μ)
    (hs : ∀ m Γ' μ', I m Γ' μ' → AXT K c Γ' μ' fun b μ1 => if b = true then AS K tb { D with nx := fun Γ2 μ2 => ∃ m', m' < m ∧ I m' Γ2 μ2, ct := fun Γ2 μ2 => ∃ m', m' < m ∧ I m' Γ2 μ2, bk := D.nx } Γ' μ1 else D.nx Γ' μ1) : AS K (tWhile c tb) D Γ μ := fun A M σ H cn E hE => by
  refine ⟨fun m σ' H' => ∃ M' Γ' μ', Cn K A M' σ' H' Γ' μ' ∧ Eff A M μ H M' μ' H' ∧ I m Γ' μ', ⟨m0, M, Γ, μ, cn, Eff.refl, h0⟩, fun m σ' H' ⟨M', Γ', μ', c', e', hI⟩ => ?_⟩
  refine hs m Γ' μ' hI A M' σ' H' c' _ fun M1 H1 b μ1 mo1 e1 h1 => ?_
  cases b with
  | true =>
    refine ⟨fun σ2 H2 => ∃ m', m' < m ∧ ∃ M2 Γ2 μ2, Cn K A M2 σ2 H2 Γ2 μ2 ∧ Eff A M μ H M2 μ2 H2 ∧ I m' Γ2 μ2, fun σ2 H2 h => h, ?_⟩
    have e2 := e'.trans e1
    have hb : AS K tb { D with nx := fun Γ2 μ2 => ∃ m', m' < m ∧ I m' Γ2 μ2, ct := fun Γ2 μ2 => ∃ m', m' < m ∧ I m' Γ2 μ2, bk := D.nx } Γ' μ1 := h1
    refine hb A M1 σ' H1 (c'.eff e1 mo1) _ ⟨fun M4 σ4 H4 Γ4 μ4 c4 e4 ⟨m', hm, h4⟩ => ⟨m', hm, M4, Γ4, μ4, c4, e2.trans e4, h4⟩, fun M4 H4 v w μ4 m4 e4 r4 h4 => hE.rt M4 H4 v w μ4 m4 (e2.trans e4) r4 h4, fun M4 σ4 H4 Γ4 μ4 c4 e4 h4 => hE.nx M4 σ4 H4 Γ4 μ4 c4 (e2.trans e4) h4, fun M4 σ4 H4 Γ4 μ4 c4 e4 ⟨m', hm, h4⟩ => ⟨m', hm, M4, Γ4, μ4, c4, e2.trans e4, h4⟩, hE.xx.after e2⟩
  | false => exact hE.nx M1 σ' H1 Γ' μ1 (c'.eff e1 mo1) (e'.trans e1) h1
/-! ### comprehensions -/
def wipeG (Γ : G) (vs : List Nat) : G := vs.foldr (fun v g => g.set v none) Γ
def WipeOk (g : TG) (vs : List Nat) : Prop := ∀ x σ H Q, g x (wipe σ vs) H Q → g x (wipe σ vs) H fun σ' H' => wipe σ' vs = wipe σ vs ∧ Q σ' H'
theorem wipe_get (σ : L2.St) : ∀ (vs : List Nat) (i : Nat), (wipe σ vs)[i]? = if i ∈ vs then (if i < σ.length then some none else none) else σ[i]?
  | [], i => by simp [wipe]
  | v :: vs, i => by
    unfold wipe
    rw [List.getElem?_set, wipe_length, wipe_get σ vs i]
    by_cases h : v = i
    · subst h
      simp
    · have h2 : ¬ i = v := fun z => h z.symm
      simp [h, h2]
theorem wipe_set {σ : L2.St} {vs : List Nat} {σ' : L2.St} (hl : σ'.length = σ.length) (h : ∀ i, i ∉ vs → σ'[i]? = (wipe σ vs)[i]?) : wipe σ' vs = wipe σ vs := by
  apply List.ext_getElem?
  intro i
  rw [wipe_get σ' vs i, hl]
  by_cases hi : i ∈ vs
  · rw [if_pos hi, wipe_get, if_pos hi]
  · rw [if_neg hi, h i hi]
theorem wk_name {j : Nat} {vs : List Nat} (hj : j ∈ vs) : WipeOk (gName j) vs := fun x σ H Q q => ⟨wipe_set (by rw [List.length_set, wipe_length]) (fun i hi => by
  rw [List.getElem?_set, if_neg fun z => hi (by rw [← z]; exact hj)]), q⟩
/-- the same for a list of targets, from any σ that differs at vs alone -/
def WipeGs (gs : TGs) (vs : List Nat) : Prop := ∀ xs σ σ0 H Q, σ.length = σ0.length → (∀ i, i ∉ vs → σ[i]? = (wipe σ0 vs)[i]?) → gs xs σ H Q → gs xs σ H fun σ' H' => wipe σ' vs = wipe σ0 vs ∧ Q σ' H'
theorem wks_nil {vs : List Nat} : WipeGs gNil vs := fun xs σ σ0 H Q hl hs ⟨e, q⟩ => ⟨e, wipe_set hl hs, q⟩
theorem wks_cons {j : Nat} {gs : TGs} {vs : List Nat} (hj : j ∈ vs) (h : WipeGs gs vs) : WipeGs (gCons (gName j) gs) vs := fun xs σ σ0 H Q hl hs ⟨v, r, e, q⟩ => ⟨v, r, e, h r _ σ0 H Q (by rw [List.length_set]; exact hl) (fun i hi => by
  rw [List.getElem?_set, if_neg fun z => hi (by rw [← z]; exact hj)]
  exact hs i hi) q⟩
theorem wk_tup {K : PySem.W.Frag} {n : Nat} {gs : TGs} {vs : List Nat} (h : WipeGs gs vs) : WipeOk (gTup K n gs) vs := fun x σ H Q ⟨a, xs, e, hs, hl, q⟩ => ⟨a, xs, e, hs, hl, h xs _ σ H Q (wipe_length _ _) (fun _ _ => rfl) q⟩
def delH (H : Hp) (a : Addr) : Hp := fun b => if b = a then none else H b
theorem delH_upd {H : Hp} {a : Addr} {o : HO} (h : H a = some o) : upd (delH H a) a o = H := by
  funext b
  unfold upd delH
  by_cases e : b = a
  · subst e; rw [if_pos rfl, h]
  · rw [if_neg e, if_neg e]
def addA (A : Addr → Prop) (p : Addr) : Addr → Prop := fun a => A a ∨ a = p
theorem vw_add {A : Addr → Prop} {M : List Addr} {μ : Mu} {H : Hp} {p : Addr} : vw (addA A p) M μ H = vw A M μ (delH H p) := by
  funext b
  unfold vw delH
  have hh : hid (addA A p) M μ b ↔ hid A M μ b ∨ b = p := by
    constructor
    · rintro ((z | z) | z)
      · exact .inl (.inl z)
      · exact .inr z
      · exact .inl (.inr z)
    · rintro ((z | z) | z)
      · exact .inl (.inl z)
      · exact .inr z
      · exact .inl (.inr z)
  by_cases e : b = p
  · subst e
    rw [if_pos (hh.mpr (.inr rfl)), if_pos rfl]
    split <;> rfl
  · rw [if_neg e]
    by_cases hb : hid A M μ b
    · rw [if_pos hb, if_pos (hh.mpr (.inl hb))]
    · rw [if_neg hb, if_neg fun z => (hh.mp z).elim hb e]
theorem MOk.add {K : PySem.W.Frag} {A : Addr → Prop} {M : List Addr} {μ : Mu} {H : Hp} {p : Addr} {o : HO} (h : MOk K A M H μ) (hp : H p = none) : MOk K (addA A p) M (upd H p o) μ := by
  have np : p ∉ M := fun m => h.al p m hp
  have nn : ∀ a, H a ≠ none → upd H p o a ≠ none := fun a hn => by
    rw [upd_ne fun z => hn (by rw [z]; exact hp)]
    exact hn
  have ed : delH (upd H p o) p = H := by
    funext b
    unfold delH upd
    by_cases e : b = p
    · subst e; rw [if_pos rfl, hp]
    · rw [if_neg e, if_neg e]
  refine ⟨h.len, h.nd, fun a m z => z.elim (h.nA a m) fun z => np (by rw [← z]; exact m), fun a m => nn a (h.al a m), fun a m => m.elim (fun m => nn a (h.aA a m)) fun z => (by subst z; rw [upd_same]; intro q; cases q), fun k a c h1 h2 => ?_⟩
  obtain ⟨u, q1, q2⟩ := h.ct k a c h1 h2
  refine ⟨u, by rw [upd_ne (ne_of_none q1 hp)]; exact q1, ?_⟩
  rw [vw_add, ed]
  exact q2
theorem MOk.del {K : PySem.W.Frag} {A : Addr → Prop} {M : List Addr} {μ : Mu} {H : Hp} {p : Addr} (h : MOk K (addA A p) M H μ) (hA : ¬ A p) : MOk K A M (delH H p) μ := by
  have np : p ∉ M := fun m => h.nA p m (.inr rfl)
  have dn : ∀ a, a ≠ p → delH H p a = H a := fun a e => by unfold delH; rw [if_neg e]
  refine ⟨h.len, h.nd, fun a m z => h.nA a m (.inl z), fun a m => by rw [dn a fun z => np (by rw [← z]; exact m)]; exact h.al a m, fun a z => by rw [dn a fun q => hA (by rw [← q]; exact z)]; exact h.aA a (.inl z), fun k a c h1 h2 => ?_⟩
  obtain ⟨u, q1, q2⟩ := h.ct k a c h1 h2
  refine ⟨u, by rw [dn a fun z => np (by rw [← z]; exact List.mem_of_getElem? h1)]; exact q1, ?_⟩
  rw [← vw_add]
  exact q2
theorem Eff.del {A : Addr → Prop} {M M' : List Addr} {μ μ' : Mu} {H H' : Hp} {p : Addr} {o : HO} (hp : H p = none) (h : Eff (addA A p) M μ (upd H p o) M' μ' H') : Eff A M μ H M' μ' (delH H' p) := by
  have ed : delH (upd H p o) p = H := by
    funext b
    unfold delH upd
    by_cases e : b = p
    · subst e; rw [if_pos rfl, hp]
    · rw [if_neg e, if_neg e]
  refine ⟨h.pre, fun a u ha e => ?_, ?_⟩
  · have ne : a ≠ p := ne_of_none e hp
    unfold delH
    rw [if_neg ne]
    exact h.own a u (.inl ha) (by rw [upd_ne ne]; exact e)
  · have := h.ex
    rw [vw_add, vw_add, ed] at this
    exact this
theorem delH_upd2 {H : Hp} {p : Addr} {o : HO} : delH (upd H p o) p = delH H p := by
  funext b
  unfold delH upd
  by_cases e : b = p
  · rw [if_pos e, if_pos e]
  · rw [if_neg e, if_neg e, if_neg e]
theorem delH_none {H : Hp} {p : Addr} (hp : H p = none) : delH H p = H := by
  funext b
  unfold delH
  by_cases e : b = p
  · subst e; rw [if_pos rfl, hp]
  · rw [if_neg e]
theorem Eff.del2 {A : Addr → Prop} {M M' : List Addr} {μ μ' : Mu} {H H' : Hp} {p : Addr} (h : Eff (addA A p) M μ H M' μ' H') : Eff A M μ (delH H p) M' μ' (delH H' p) := by
  refine ⟨h.pre, fun a u ha e => ?_, by have := h.ex; rw [vw_add, vw_add] at this; exact this⟩
  unfold delH at e ⊢
  by_cases ne : a = p
  · rw [if_pos ne] at e
    cases e
  · rw [if_neg ne] at e ⊢
    exact h.own a u (.inl ha) e
theorem GR.wipeG {K : PySem.W.Frag} {H : Hp} {M : List Addr} {σ : L2.St} {Γ : G} (h : GR K H M σ Γ) (vs : List Nat) : GR K H M (L2.wipe σ vs) (Pd.wipeG Γ vs) := h.wipe vs
theorem MOk.wr {K : PySem.W.Frag} {A : Addr → Prop} {M : List Addr} {μ : Mu} {H : Hp} {p : Addr} {o : HO} (h : MOk K (addA A p) M H μ) : MOk K (addA A p) M (upd H p o) μ := by
  have np : p ∉ M := fun m => h.nA p m (.inr rfl)
  have dn : ∀ a, H a ≠ none → upd H p o a ≠ none := fun a hn => by
    by_cases e : a = p
    · subst e; rw [upd_same]; intro z; cases z
    · rw [upd_ne e]; exact hn
  refine ⟨h.len, h.nd, h.nA, fun a m => dn a (h.al a m), fun a m => dn a (h.aA a m), fun k a c k1 k2 => ?_⟩
  obtain ⟨u, q1, q2⟩ := h.ct k a c k1 k2
  refine ⟨u, ?_, by rw [vw_add, delH_upd2, ← vw_add]; exact q2⟩
  rw [upd_ne fun z => np (by rw [← z]; exact List.mem_of_getElem? k1)]
  exact q1
/-- the state within a comprehension whose list stands at p -/
def LcI (K : PySem.W.Frag) (A : Addr → Prop) (M1 : List Addr) (μ1 : Mu) (H1 : Hp) (p : Addr) (P : List W → Mu → Prop) (H' : Hp) : Prop :=
  ∃ M' μ' us acc, H' p = some (.lst us) ∧ MOk K (addA A p) M' H' μ' ∧ Eff A M1 μ1 H1 M' μ' (delH H' p) ∧ VRs K (vw (addA A p) M' μ' H') M' us acc ∧ P acc μ'
theorem ax_lc {K : PySem.W.Frag} {Γ : G} {μ : Mu} {wi : TI} {g : TG} {tt : TT} {te : TE} {vs : List Nat} {R : W → Mu → Prop} {α : Type} (f : α → W) (ns : List α) (I : List α → List W → Mu → Prop) (hz : ns.length ≤ sizeLine) (hw : WipeOk g vs)
    (h : AI K wi Γ μ fun items S μ1 => items = ns.map f ∧ (∀ pre acc μ', I pre acc μ' → S μ') ∧ I [] [] μ1)
    (hs : ∀ pre x post acc μ', ns = pre ++ x :: post → acc.length ≤ pre.length → I pre acc μ' → AG K g (f x) (wipeG Γ vs) μ' fun Γ2 μ2 => AXT K tt Γ2 μ2 fun b μ3 => if b = true then AX K te Γ2 μ3 fun w μ4 => I (pre ++ [x]) (acc ++ [w]) μ4 else I (pre ++ [x]) acc μ3)
    (hd : ∀ acc μ', I ns acc μ' → NL acc μ' R) : AX K (tLc wi g tt te vs) Γ μ R := fun A M σ H cn Q q =>
  h A M σ H cn _ fun M1 H1 J items S μ1 mo1 e1 hJ ⟨hi, hS, h0⟩ => by
    subst hi
    intro p hp
    have hA : ¬ A p := fun z => mo1.aA p z hp
    refine ⟨fun i m H' => i ≤ ns.length ∧ m = ns.length - i ∧ LcI K A M1 μ1 H1 p (fun acc μ' => acc.length ≤ i ∧ I (ns.take i) acc μ') H',
      ⟨ns.length, Nat.zero_le _, rfl, M1, μ1, [], [], upd_same, mo1.add hp, by rw [delH_upd2, delH_none hp]; exact Eff.refl, .nil, Nat.le_refl _, h0⟩, fun i m H' hW => ?_⟩
    obtain ⟨hi, rfl, M', μ', us, acc, hu, mo', e', ru, hal, hI⟩ := hW
    have hex : Ex (vw A M1 μ1 H1) (vw (addA A p) M' μ' H') := by
      rw [vw_add]
      exact e'.ex
    have hit := hJ (addA A p) M' H' μ' mo' hex e'.pre (hS _ _ _ hI) i
    by_cases hlt : i < ns.length
    · have hx : ns[i]? = some ns[i] := List.getElem?_eq_getElem hlt
      have hw' : (ns.map f)[i]? = some (f ns[i]) := by rw [List.getElem?_map, hx]; rfl
      obtain ⟨hgo, hy⟩ := hit.1 _ hw'
      refine .inr ⟨hgo, LcI K A M1 μ1 H1 p (fun acc μ' => acc.length ≤ i + 1 ∧ I (ns.take (i + 1)) acc μ'), fun H2 h2 => ⟨ns.length - (i + 1), by omega, hlt, rfl, h2⟩, fun x H2 hyld => ?_⟩
      obtain ⟨ex2, rx⟩ := hy x H2 hyld
      have eH2 : Eff (addA A p) M' μ' H' M' μ' H2 := Eff.of_ex ex2
      have c0 : GR K (vw A M1 μ1 H1) M1 (wipe σ vs) (wipeG Γ vs) := (cn.gr.mono e1.ex e1.pre).wipeG vs
      have c2 : Cn K (addA A p) M' (wipe σ vs) H2 (wipeG Γ vs) μ' := ⟨mo'.ex ex2, (c0.mono hex e'.pre).mono (vw_ex ex2) (Pre.refl _)⟩
      have hlen : (ns.take i).length = i := by rw [List.length_take]; omega
      refine hw x σ H2 _ ?_
      refine hs (ns.take i) ns[i] (ns.drop (i + 1)) acc μ' (split_at hx) (by omega) hI (addA A p) M' (wipe σ vs) H2 x c2 rx _ fun M3 σ3 H3 Γ3 μ3 c3 e3 h3 => ?_
      refine h3 (addA A p) M3 σ3 H3 c3 _ fun M4 H4 b μ4 mo4 e4 h4 => ?_
      have eA : Eff (addA A p) M' μ' H' M4 μ4 H4 := (eH2.trans e3).trans e4
      have hu4 : H4 p = some (.lst us) := eA.own p _ (.inr rfl) hu
      cases b with
      | false =>
        refine ⟨M4, μ4, us, acc, hu4, mo4, e'.trans eA.del2, ru.mono eA.ex eA.pre, by omega, ?_⟩
        rw [take_snoc hx]
        exact h4
      | true =>
        refine h4 (addA A p) M4 σ3 H4 (c3.eff e4 mo4) _ fun M5 H5 y w μ5 mo5 e5 r5 h5 => ?_
        have eB : Eff (addA A p) M' μ' H' M5 μ5 H5 := eA.trans e5
        have hu5 : H5 p = some (.lst us) := eB.own p _ (.inr rfl) hu
        have rus : VRs K (vw (addA A p) M5 μ5 H5) M5 (us ++ [y]) (acc ++ [w]) := (ru.mono eB.ex eB.pre).snoc r5
        refine ⟨us, hu5, ?_, M5, μ5, us ++ [y], acc ++ [w], upd_same, mo5.wr, ?_, ?_, by simp; omega, ?_⟩
        · rw [ru.length]
          omega
        · rw [delH_upd2]
          exact e'.trans eB.del2
        · rw [vw_add, delH_upd2, ← vw_add]
          exact rus
        · rw [take_snoc hx]
          exact h5
    · have hei : i = ns.length := by omega
      subst hei
      refine .inl ⟨hit.2 (by simp), ?_⟩
      rw [List.take_length] at hI
      have md := mo'.del hA
      have rd : VRs K (vw A M' μ' (delH H' p)) M' us acc := by
        rw [← vw_add]
        exact ru
      obtain ⟨M2, μ2, w, m2, e2, r2, hR⟩ := (hd acc μ' hI).use md rd (show delH H' p p = none from if_pos rfl)
      rw [delH_upd hu] at m2 e2 r2
      exact q M2 H' _ w μ2 m2 ((e1.trans e').trans e2) r2 hR
/-! ### a cell that changes no more -/
theorem hid_dead {A : Addr → Prop} {M : List Addr} {μ : Mu} {k : Nat} {a : Addr} (h : hid A M (μ.set k none) a) : hid A M μ a := by
  rcases h with z | ⟨j, c, h1, h2⟩
  · exact .inl z
  · by_cases e : k = j
    · subst e
      rw [List.getElem?_set, if_pos rfl] at h2
      split at h2 <;> cases h2
    · rw [List.getElem?_set, if_neg e] at h2
      exact .inr ⟨j, c, h1, h2⟩
theorem vw_dead {A : Addr → Prop} {M : List Addr} {μ : Mu} {H : Hp} {k : Nat} : Ex (vw A M μ H) (vw A M (μ.set k none) H) := fun a o h => vw_of (fun z => (vw_some h).1 (hid_dead z)) (vw_some h).2
theorem MOk.dead {K : PySem.W.Frag} {A : Addr → Prop} {M : List Addr} {μ : Mu} {H : Hp} (h : MOk K A M H μ) (k : Nat) : MOk K A M H (μ.set k none) := by
  refine ⟨by rw [List.length_set]; exact h.len, h.nd, h.nA, h.al, h.aA, fun j a c h1 h2 => ?_⟩
  by_cases e : k = j
  · subst e
    rw [List.getElem?_set, if_pos rfl] at h2
    split at h2 <;> cases h2
  · rw [List.getElem?_set, if_neg e] at h2
    obtain ⟨o, q1, q2⟩ := h.ct j a c h1 h2
    exact ⟨o, q1, q2.mono vw_dead (Pre.refl _)⟩
theorem Eff.dead {A : Addr → Prop} {M : List Addr} {μ : Mu} {H : Hp} (k : Nat) : Eff A M μ H M (μ.set k none) H := ⟨Pre.refl _, fun _ _ _ h => h, vw_dead⟩
theorem vr_dead {K : PySem.W.Frag} {A : Addr → Prop} {M : List Addr} {μ : Mu} {H : Hp} {k : Nat} {xs : List PyData} {v : V} (mo : MOk K A M H μ) (r : VR K (vw A M μ H) M v (.m k)) (hk : μ[k]? = some (some (.lst (xs.map W.d)))) : VR K (vw A M (μ.set k none) H) M v (.d (.list xs)) := by
  obtain ⟨a, vs, rfl, hm, e, ru⟩ := cell_get mo r hk
  refine .d (.lst (vw_of (fun z => ?_) e) (dpa_mono vw_dead ru.dp))
  rcases z with z | ⟨j, c, h1, h2⟩
  · exact mo.nA a (List.mem_of_getElem? hm) z
  · have hj : k = j := by
      have l1 := List.getElem?_eq_some_iff.mp hm
      have l2 := List.getElem?_eq_some_iff.mp h1
      exact (List.getElem_inj mo.nd).mp (l1.2.trans l2.2.symm)
    subst hj
    rw [List.getElem?_set, if_pos rfl] at h2
    split at h2 <;> cases h2
/-- the name is read and its list changes no more -/
theorem ax_varF {K : PySem.W.Frag} {Γ : G} {μ : Mu} {R : W → Mu → Prop} {i k : Nat} {xs : List PyData} (h : Γ[i]? = some (some (.m k))) (hk : μ[k]? = some (some (.lst (xs.map W.d)))) (q : R (.d (.list xs)) (μ.set k none)) : AX K (tVar i) Γ μ R := fun A M σ H c Q hq => by
  obtain ⟨v, e, r⟩ := c.gr.2 i _ h
  exact ⟨v, e, hq M H v _ _ (c.mo.dead k) (Eff.dead k) (vr_dead c.mo r hk) q⟩
/-- the same as a step between statements -/
theorem as_freeze {K : PySem.W.Frag} {Γ : G} {μ : Mu} {t : TS} {D : AEn} (i k : Nat) (xs : List PyData) (h : Γ[i]? = some (some (.m k))) (hk : μ[k]? = some (some (.lst (xs.map W.d)))) (q : AS K t D (Γ.set i (some (.d (.list xs)))) (μ.set k none)) : AS K t D Γ μ := fun A M σ H c E hE => by
  obtain ⟨v, e, r⟩ := c.gr.2 i _ h
  have g1 : GR K (vw A M (μ.set k none) H) M (σ.set i (some v)) (Γ.set i (some (.d (.list xs)))) := (c.gr.mono vw_dead (Pre.refl _)).set (vr_dead c.mo r hk)
  have es : σ.set i (some v) = σ := by
    apply List.ext_getElem?
    intro j
    rw [List.getElem?_set]
    by_cases hj : i = j
    · subst hj
      rw [if_pos rfl, if_pos (List.getElem?_eq_some_iff.mp e).1, e]
    · rw [if_neg hj]
  rw [es] at g1
  exact q A M σ H ⟨c.mo.dead k, g1⟩ E (hE.after (Eff.dead k))
/-- a name is forgotten -/
theorem as_forget {K : PySem.W.Frag} {Γ : G} {μ : Mu} {t : TS} {D : AEn} (Γ' : G) (hl : Γ'.length = Γ.length) (h : ∀ (i : Nat) w, Γ'[i]? = some (some w) → Γ[i]? = some (some w)) (q : AS K t D Γ' μ) : AS K t D Γ μ := fun A M σ H c E hE =>
  q A M σ H ⟨c.mo, by rw [c.gr.1, hl], fun i w e => c.gr.2 i w (h i w e)⟩ E hE
theorem as_weak {K : PySem.W.Frag} {Γ : G} {μ : Mu} {t : TS} {D D' : AEn} (h : AS K t D Γ μ) (n : ∀ g m, D.nx g m → D'.nx g m) (r : ∀ w m, D.rt w m → D'.rt w m) (b : ∀ g m, D.bk g m → D'.bk g m) (c : ∀ g m, D.ct g m → D'.ct g m) (xe : D.xw = D'.xw := by rfl) (xi : ∀ x w g m, D.xc x w g m → D'.xc x w g m := by exact fun _ _ _ _ z => z) : AS K t D' Γ μ := fun A M σ H cn E hE =>
  h A M σ H cn E ⟨fun _ _ _ _ _ x e z => hE.nx _ _ _ _ _ x e (n _ _ z), fun _ _ _ _ _ x e y z => hE.rt _ _ _ _ _ x e y (r _ _ z), fun _ _ _ _ _ x e z => hE.bk _ _ _ _ _ x e (b _ _ z), fun _ _ _ _ _ x e z => hE.ct _ _ _ _ _ x e (c _ _ z), by
    rw [xe]
    exact fun _ _ _ _ _ _ _ _ _ h1 h2 h3 h4 => hE.xx _ _ _ _ _ _ _ _ _ h1 h2 h3 (xi _ _ _ _ h4)⟩
/-- a statement, what holds behind it, the rest from there -/
theorem as_cut {K : PySem.W.Frag} {Γ : G} {μ : Mu} {t u : TS} {D : AEn} (Mid : G → Mu → Prop) (h : AS K t { D with nx := Mid } Γ μ) (k : ∀ Γ1 μ1, Mid Γ1 μ1 → AS K u D Γ1 μ1) : AS K (tSeq t u) D Γ μ := as_seq (as_weak h k (fun _ _ z => z) (fun _ _ z => z) (fun _ _ z => z))
/-! ### calls -/
abbrev FS := List W → Mu → (W → Mu → Prop) → Prop
def spD (K : PySem.W.Frag) (F : FS) : Sp := fun vs H Q _ => ∃ (A : Addr → Prop) (M : List Addr) (μ : Mu) (ws : List W) (R : W → Mu → Prop), MOk K A M H μ ∧ VRs K (vw A M μ H) M vs ws ∧ F ws μ R ∧
  ∀ M' H' v w μ', MOk K A M' H' μ' → Eff A M μ H M' μ' H' → VR K (vw A M' μ' H') M' v w → R w μ' → Q v H'
section
variable {K : PySem.W.Frag} {Γ : G} {μ : Mu} {R : W → Mu → Prop} {ta tk : TA}
theorem ax_call {F : FS} {E : XK} (h : AXA K ta Γ μ fun ws μ1 => F ws μ1 R) : AX K (tCall (spD K F) [] E ta) Γ μ R := fun A M σ H c Q q =>
  h A M σ H c _ fun M1 H1 vs ws μ1 mo1 e1 r1 h1 => by
    show spD K F (vs ++ []) H1 Q E
    rw [List.append_nil]
    exact ⟨A, M1, μ1, ws, R, mo1, r1, h1, fun M' H' v w μ' mo' e' r' hR => q M' H' v w μ' mo' (e1.trans e') r' hR⟩
/-- keywords: ix tells the parameters' order among positional values and keywords' values -/
def perm {α : Type} (ix : List Nat) (l : List α) : List α := ix.filterMap (l[·]?)
theorem vrs_perm {H : Hp} {M : List Addr} {vs : List V} {ws : List W} (h : VRs K H M vs ws) : ∀ ix : List Nat, VRs K H M (perm ix vs) (perm ix ws)
  | [] => .nil
  | i :: ix => by
    unfold perm
    rw [List.filterMap_cons, List.filterMap_cons]
    cases e : ws[i]? with
    | none =>
      have : vs[i]? = none := by
        rw [List.getElem?_eq_none_iff, h.length]
        exact List.getElem?_eq_none_iff.mp e
      rw [this]
      exact vrs_perm h ix
    | some w =>
      obtain ⟨v, hv, r⟩ := h.getW e
      rw [hv]
      exact .cons r (vrs_perm h ix)
theorem vals_perm {vs : List V} {us : List Value} (h : Vals vs us) : ∀ ix : List Nat, Vals (perm ix vs) (perm ix us)
  | [] => .nil
  | i :: ix => by
    unfold perm
    rw [List.filterMap_cons, List.filterMap_cons]
    cases e : vs[i]? with
    | none =>
      rw [h.none_of e]
      exact vals_perm h ix
    | some v =>
      obtain ⟨u, hu, r⟩ := h.get e
      rw [hu]
      exact .cons r (vals_perm h ix)
theorem ax_callN {F : FS} {E : XK} {n m : Nat} {ix : List Nat} (h : AXA K ta Γ μ fun ws μ1 => ws.length = n ∧ AXA K tk Γ μ1 fun us μ2 => us.length = m ∧ F (perm ix (ws ++ us)) μ2 R) : AX K (tCallN n m (spD K F) (fun vs zs => perm ix (vs ++ zs)) E ta tk) Γ μ R := fun A M σ H c Q q =>
  h A M σ H c _ fun M1 H1 vs ws μ1 mo1 e1 r1 ⟨l1, h1⟩ => h1 A M1 σ H1 (c.eff e1 mo1) _ fun M2 H2 zs us μ2 mo2 e2 r2 ⟨l2, h2⟩ =>
    ⟨r1.length.trans l1, r2.length.trans l2, A, M2, μ2, _, R, mo2, vrs_perm ((r1.mono e2.ex e2.pre).append r2) ix, h2, fun M' H' v w μ' mo' e' r' hR => q M' H' v w μ' mo' ((e1.trans e2).trans e') r' hR⟩
end
def stG (N : List PySem.Str) (ws : List W) : G := ws.map some ++ List.replicate (N.length - ws.length) none
theorem gr_start {K : PySem.W.Frag} {H : Hp} {M : List Addr} {N : List PySem.Str} {vs : List V} {ws : List W} (h : VRs K H M vs ws) : GR K H M (L2.start N vs) (stG N ws) := by
  have hl := h.length
  refine ⟨by simp [L2.start, stG, hl], fun i w e => ?_⟩
  unfold stG at e
  unfold L2.start
  by_cases hi : i < ws.length
  · rw [List.getElem?_append_left (by simpa using hi), List.getElem?_map] at e
    cases hw : ws[i]? with
    | none => rw [hw] at e; cases e
    | some w' =>
      rw [hw] at e
      have : w' = w := by simpa using e
      subst this
      obtain ⟨v, hv, r⟩ := h.getW hw
      exact ⟨v, by rw [List.getElem?_append_left (by simp; omega), List.getElem?_map, hv]; rfl, r⟩
  · rw [List.getElem?_append_right (by simp; omega), List.getElem?_replicate] at e
    split at e <;> cases e
/-- THE RULE for a def -/
theorem fn_ok {P : PySem.Program} {w : PySem.World} {K : PySem.W.Frag} {mg : PySem.Str → Option PySem.Value} {base : PySem.Heap} {x qual : PySem.Str} {st : PySem.Stmt} {f : Addr} {fd : PySem.FuncData} {N ps : List PySem.Str} {k : Nat} {F : FS} (Fu : Fun K x qual st f fd) (S : FnScope N ps (defScope st)) (len : ∀ ws μ R, F ws μ R → ws.length = ps.length)
    (hbody : ∀ (cdv : PySem.Value) (A : PySem.Around) (outer : List PySem.Env) (s : PySem.Shared) (H : Hp) (E : XK), Room k (A.deeper (PyProof.Rows.envOfC qual (defScope st) s.heap.objs.size f cdv)) →
      ∃ t, PSs (cxOf CX0 P w K mg base N qual (defScope st) f cdv A outer s H E).nox (defBody st) t ∧ ∀ ws μ R, F ws μ R → AS K t { nx := fun _ μ' => R (.d .none) μ', rt := R } (stG N ws) μ) : FnOk P w K mg base CX0 (k + 1) f fd ps (spD K F) := by
  refine Fu.ok S (fun vs H Q E h => ?_) (fun cdv A outer s H vs Q E hr h => ?_)
  · obtain ⟨A, M, μ, ws, R, mo, r, h, _⟩ := h
    rw [r.length]
    exact len ws μ R h
  · obtain ⟨t, ht, hs⟩ := hbody cdv A outer s H E hr
    obtain ⟨A, M, μ, ws, R, mo, r, h, q⟩ := h
    refine ⟨t, ht, hs ws μ R h A M _ H ⟨mo, gr_start r⟩ _ ⟨fun M' σ' H' Γ' μ' c e h => q M' H' _ _ μ' c.mo e (.d .non) h, fun M' H' v w μ' mo' e' r' h => q M' H' v w μ' mo' e' r' h, fun _ _ _ _ _ _ _ h => h.elim, fun _ _ _ _ _ _ _ h => h.elim, fun _ _ _ _ _ _ _ _ _ _ _ _ h => h.elim⟩⟩
end Pd

/-! unions: one rule for each operator, whatever its operands -/
namespace Pd
open PySem PySem.Spec PyProof.Rows L2
open Evl (Ex)
theorem orR {X : Cx} {f : Value → Value → Sem Value} {r r' : R2} (h : OpR X f r) (h' : OpR X f r') : OpR X f (fun x y H Q => r x y H Q ∨ r' x y H Q) := by
  intro pins s σ H x y v u Q I rx ry q
  rcases q with q | q
  · exact h pins s σ H x y v u Q I rx ry q
  · exact h' pins s σ H x y v u Q I rx ry q
theorem orC {X : Cx} {f : Value} {r r' : List V → Hp → VK → Prop} (h : CallR X f r) (h' : CallR X f r') : CallR X f (fun xs H Q => r xs H Q ∨ r' xs H Q) := by
  intro pins s σ H xs us Q I rx q
  rcases q with q | q
  · exact h pins s σ H xs us Q I rx q
  · exact h' pins s σ H xs us Q I rx q
theorem orI {X : Cx} {tg e : Expr} {w w' : TI} (h : PI X tg e w) (h' : PI X tg e w') : PI X tg e (fun σ H R => w σ H R ∨ w' σ H R) := ⟨fun pins s σ H R I q => by
  rcases q with q | q
  · exact h.run pins s σ H R I q
  · exact h'.run pins s σ H R I q⟩
def COp (i j : Int) : Prop := 0 ≤ j ∧ (Builtin.Int.intBits i : Int) * j ≤ 2 ^ 27
section
variable {X : Cx}
theorem op_powX : OpR X (binaryOp .Pow) (rI COp fun i j => .int (i ^ j.toNat)) := opI fun _ _ _ _ _ _ _ hc q => pow_int hc.1 hc.2 q
/-- + -/
def rAddI : R2 := rI0 fun i j => .int (i + j)
def rAddS : R2 := fun x y H Q => ∃ i j, x = .str i ∧ y = .str j ∧ i.length + j.length ≤ sizeLine ∧ Q (.str (i ++ j)) H
def rAddU (K : PySem.W.Frag) : R2 := fun x y H Q => rAddI x y H Q ∨ (rCat x y H Q ∨ (rCatT K x y H Q ∨ rAddS x y H Q))
theorem op_addU : OpR X (binaryOp .Add) (rAddU X.K) := orR op_add (orR op_cat (orR op_catT op_add_str))
theorem iop_addU : OpR X (inplaceOp .Add) (fun x y H Q => rAddI x y H Q ∨ rAddS x y H Q) := orR iop_add iop_add_str
def rSubI : R2 := rI0 fun i j => .int (i - j)
theorem op_subU : OpR X (binaryOp .Sub) rSubI := op_sub
theorem iop_subU : OpR X (inplaceOp .Sub) rSubI := iop_sub
def rMulI : R2 := rI CMul fun i j => .int (i * j)
def rMulX : R2 := rI CMulX fun i j => .int (i * j)
def rMulU : R2 := fun x y H Q => rMulI x y H Q ∨ (rMulX x y H Q ∨ rRep x y H Q)
theorem op_mulU : OpR X (binaryOp .Mult) rMulU := orR op_mul (orR op_mulX op_rep)
theorem iop_mulU : OpR X (inplaceOp .Mult) rMulI := iop_mul
def rDivI : R2 := rI CDivW fun i j => .int (i / j)
theorem op_divU : OpR X (binaryOp .FloorDiv) rDivI := op_fdivW
theorem iop_divU : OpR X (inplaceOp .FloorDiv) (rI CDiv fun i j => .int (i / j)) := iop_fdiv
def rModI : R2 := rI (fun _ j => 0 < j) fun i j => .int (i % j)
theorem op_modU : OpR X (binaryOp .Mod) rModI := op_mod
def rPowI : R2 := rI COp fun i j => .int (i ^ j.toNat)
theorem op_powU : OpR X (binaryOp .Pow) rPowI := op_powX
/-- == -/
def rEqU (K : PySem.W.Frag) : R2 := fun x y H Q => rEq x y H Q ∨ rEqD K x y H Q
def rNeU (K : PySem.W.Frag) : R2 := fun x y H Q => rNe x y H Q ∨ rNeD K x y H Q
theorem op_eqU (hu : X.A.units + 64 < cLine) : OpR X (compareOp .Eq) (rEqU X.K) := orR op_eq (op_eqD hu)
theorem op_neU (hu : X.A.units + 64 < cLine) : OpR X (compareOp .NotEq) (rNeU X.K) := orR op_ne (op_neD hu)
def rLtI : R2 := rI0 fun i j => .bl (decide (i < j))
def rLeI : R2 := rI0 fun i j => .bl (decide (i ≤ j))
def rGtI : R2 := rI0 fun i j => .bl (decide (j < i))
def rGeI : R2 := rI0 fun i j => .bl (decide (j ≤ i))
def rLtS : R2 := fun x y H Q => ∃ i j, x = .str i ∧ y = .str j ∧ Q (.bl (decide (i.cps.toList < j.cps.toList))) H
def rLtU : R2 := fun x y H Q => rLtI x y H Q ∨ rLtS x y H Q
theorem op_ltU : OpR X (compareOp .Lt) rLtU := orR op_lt op_lt_str
theorem op_leU : OpR X (compareOp .LtE) rLeI := op_le
theorem op_gtU : OpR X (compareOp .Gt) rGtI := op_gt
theorem op_geU : OpR X (compareOp .GtE) rGeI := op_ge
def rInS (neg : Bool) : R2 := fun x y H Q => ∃ i j, x = .str i ∧ y = .str j ∧ Q (.bl (if neg then !(!(Builtin.Str.occurrences j i 0 j.length 1).isEmpty) else !(Builtin.Str.occurrences j i 0 j.length 1).isEmpty)) H
def rInU (K : PySem.W.Frag) (neg : Bool) : R2 := fun x y H Q => rIn K neg x y H Q ∨ rInS neg x y H Q
theorem op_inU : OpR X (compareOp .In) (rInU X.K false) := orR op_in_seq op_in_str
theorem op_niU : OpR X (compareOp .NotIn) (rInU X.K true) := orR op_notIn_seq op_notin_str
/-- None, or a bool beside a bool -/
def rIsU (neg : Bool) : R2 := fun x y H Q => (y = .non ∧ Q (.bl (if neg then !decide (x = .non) else decide (x = .non))) H) ∨ (∃ a b : Bool, x = .bl a ∧ y = .bl b ∧ Q (.bl (if neg then !decide (a = b) else decide (a = b))) H)
theorem op_isU : OpR X (compareOp .Is) (rIsU false) := orR op_isN op_isBl
theorem op_isnU : OpR X (compareOp .IsNot) (rIsU true) := orR op_notN op_notBl
def iSeq (K : PySem.W.Frag) (te : TE) : TI := fun σ H R => iList K te σ H R ∨ (iTup K te σ H R ∨ iStr te σ H R)
theorem pi_seq {tg e : Expr} {te : TE} (he : PE X e te) : PI X tg e (iSeq X.K te) := orI (pi_list he) (orI (pi_tup he) (pi_str he))
def rSlU (K : PySem.W.Frag) : V → Option Int → Option Int → Hp → VK → Prop := fun x l u H Q => rSlL K x l u H Q ∨ (rSlT K x l u H Q ∨ rSlS x l u H Q)
theorem sl_U : SlR X (rSlU X.K) := SlR.or sl_list (SlR.or sl_tup sl_str)
def tTru (K : PySem.W.Frag) (ta : TE) : TT := fun σ H Q => ta σ H fun x H' => ∃ k, TruV K x H' k ∧ Q k H'
theorem pt_tru {a : Expr} {ta : TE} (ha : PE X a ta) (he : ∀ whole, isTrue a X.env whole = (do let v ← whole; standAt a.pos; holding [v] (truthy v)) := by intro _; rfl) : PT X a (tTru X.K ta) := pt_truth ha he
def rLenU (K : PySem.W.Frag) : List V → Hp → VK → Prop := fun xs H Q => ∃ x n, xs = [x] ∧ LenV K x H n ∧ Q (.int n) H
theorem call_lenU : CallR X (.builtin "len") (rLenU X.K) := call_len
def rListU (K : PySem.W.Frag) : List V → Hp → VK → Prop := fun xs H Q => ∃ p ys, xs = [.ref p] ∧ (SqL K H p ys ∨ SqT K H p ys) ∧ ∀ l, H l = none → Q (.ref l) (upd H l (.lst ys))
theorem call_listU : CallR X (.type "list") (rListU X.K) := call_list_of
def rTupU (K : PySem.W.Frag) : List V → Hp → VK → Prop := fun xs H Q => ∃ p ys, xs = [.ref p] ∧ ((SqL K H p ys ∧ ∀ l, H l = none → Q (.ref l) (upd H l (.tup ys))) ∨ (SqT K H p ys ∧ Q (.ref p) H))
theorem call_tupU : CallR X (.type "tuple") (rTupU X.K) := call_tuple_of
def rIntU : List V → Hp → VK → Prop := fun xs H Q => (∃ i, xs = [.int i] ∧ Q (.int i) H) ∨ ∃ k, xs = [.bl k] ∧ Q (.int (if k then 1 else 0)) H
theorem call_intU : CallR X (.type "int") rIntU := call_int1
def rAbsU : List V → Hp → VK → Prop := fun xs H Q => ∃ i, xs = [.int i] ∧ Q (.int (if i < 0 then -i else i)) H
theorem call_absU : CallR X (.builtin "abs") rAbsU := call_abs
def rMax2 : List V → Hp → VK → Prop := fun xs H Q => ∃ i j, xs = [.int i, .int j] ∧ Q (.int (if j > i then j else i)) H
def rMin2 : List V → Hp → VK → Prop := fun xs H Q => ∃ i j, xs = [.int i, .int j] ∧ Q (.int (if j < i then j else i)) H
def rMaxU (K : PySem.W.Frag) : List V → Hp → VK → Prop := fun xs H Q => rMax2 xs H Q ∨ rMax K xs H Q
def rMinU (K : PySem.W.Frag) : List V → Hp → VK → Prop := fun xs H Q => rMin2 xs H Q ∨ rMin K xs H Q
theorem call_maxU (hc : X.calm = true) : CallR X (.builtin "max") (rMaxU X.K) := orC (call_max2 hc) (cr_max hc)
theorem call_minU (hc : X.calm = true) : CallR X (.builtin "min") (rMinU X.K) := orC (call_min2 hc) (cr_min hc)
def rPopU : V → List V → Hp → VK → Prop := fun x vs H Q => rPop x vs H Q ∨ rPopAt x vs H Q
theorem mt_popU : MtM X "list.pop" rPopU := by
  intro pins s σ H x xs v us Q I rx rs q
  rcases q with q | q
  · exact mt_pop pins s σ H x xs v us Q I rx rs q
  · exact mt_popAt pins s σ H x xs v us Q I rx rs q
/-- a call with keywords alone -/
theorem pe_callN0 {CX : CXT} {k : Nat} {f : Addr} {fd : FuncData} {ps ks : List Str} {sp : Sp} {x : Str} {E : XK} {kws : List Keyword} {tk : TA} {p pos : Pos} {g : List Value → List Value → List Value} {gV : List V → List V → List V} (F : FnOk X.prog X.w X.K X.mg X.base CX k f fd ps sp) (hr : Room k X.A) (hg : Gl X x) (hm : X.mg x = some (.ref f)) (hk : PySem.W.keepIn X.K (.ref f) = true) (hb : KBn X.K fd ps 0 ks g gV) (hx : Passes CX X E)
    (hkw : PK X kws tk) (hall : (backToKw pos (keywordEach kws X.env)).all (·.1.isSome) = true := by rfl) (hks : (backToKw pos (keywordEach kws X.env)).filterMap (·.1) = ks := by rfl)
    (hdb : (x == ("__debug__" : Str)) = false := by decide)
    (hpl : ((backTo pos (starEach [] X.env)).any (·.1) || (backToKw pos (keywordEach kws X.env)).any (·.1.isNone)) = false := by rfl) :
    PE X (.Call (.Name x p) [] kws pos) (tCallN 0 ks.length sp gV E tNil tk) := by
  refine ⟨fun pins s σ H Q I h => ?_⟩
  refine wpAny_Call_Name_kw (ld_glob I hg hm ?_ hdb)
  refine PySem.W.callWith_KW0 (h₀ := X.base) I.ok.mod.kin hk hall (thn (hkw.run pos pins s σ H _ I h) fun ws s2 ⟨zs, H2, I2, rz, l1, l2, q2⟩ => ⟨I2.kIn, ?_⟩) hpl
  rw [hks]
  exact run_fnN F hr hb hx I2 .nil rz l1 l2 q2
end
/-! ### what they ask -/
section
variable {K : PySem.W.Frag} {Γ : G} {μ : Mu} {R : W → Mu → Prop} {ta tb te : TE}
theorem ao_l {r r' : R2} {x y : W} (h : AO K r x y μ R) : AO K (fun x y H Q => r x y H Q ∨ r' x y H Q) x y μ R := fun A M H v u mo rv ru Q q => .inl (h A M H v u mo rv ru Q q)
theorem ao_r {r r' : R2} {x y : W} (h : AO K r' x y μ R) : AO K (fun x y H Q => r x y H Q ∨ r' x y H Q) x y μ R := fun A M H v u mo rv ru Q q => .inr (h A M H v u mo rv ru Q q)
theorem ac_l {r r' : List V → Hp → VK → Prop} {xs : List W} (h : AC K r xs μ R) : AC K (fun xs H Q => r xs H Q ∨ r' xs H Q) xs μ R := fun A M H v mo rv Q q => .inl (h A M H v mo rv Q q)
theorem ac_r {r r' : List V → Hp → VK → Prop} {xs : List W} (h : AC K r' xs μ R) : AC K (fun xs H Q => r xs H Q ∨ r' xs H Q) xs μ R := fun A M H v mo rv Q q => .inr (h A M H v mo rv Q q)
theorem am_l {r r' : V → List V → Hp → VK → Prop} {x : W} {xs : List W} (h : AM K r x xs μ R) : AM K (fun x xs H Q => r x xs H Q ∨ r' x xs H Q) x xs μ R := fun A M H v vs mo rv rs Q q => .inl (h A M H v vs mo rv rs Q q)
theorem am_r {r r' : V → List V → Hp → VK → Prop} {x : W} {xs : List W} (h : AM K r' x xs μ R) : AM K (fun x xs H Q => r x xs H Q ∨ r' x xs H Q) x xs μ R := fun A M H v vs mo rv rs Q q => .inr (h A M H v vs mo rv rs Q q)
theorem ai_l {w w' : TI} {RI : List W → (Mu → Prop) → Mu → Prop} (h : AI K w Γ μ RI) : AI K (fun σ H R => w σ H R ∨ w' σ H R) Γ μ RI := fun A M σ H c Q q => .inl (h A M σ H c Q q)
theorem ai_r {w w' : TI} {RI : List W → (Mu → Prop) → Mu → Prop} (h : AI K w' Γ μ RI) : AI K (fun σ H R => w σ H R ∨ w' σ H R) Γ μ RI := fun A M σ H c Q q => .inr (h A M σ H c Q q)
theorem asl_l {r r' : V → Option Int → Option Int → Hp → VK → Prop} {x : W} {lo hi : Option Int} (h : ASl K r x lo hi μ R) : ASl K (fun x l u H Q => r x l u H Q ∨ r' x l u H Q) x lo hi μ R := fun A M H v mo rv Q q => .inl (h A M H v mo rv Q q)
theorem asl_r {r r' : V → Option Int → Option Int → Hp → VK → Prop} {x : W} {lo hi : Option Int} (h : ASl K r' x lo hi μ R) : ASl K (fun x l u H Q => r x l u H Q ∨ r' x l u H Q) x lo hi μ R := fun A M H v mo rv Q q => .inr (h A M H v mo rv Q q)
/-! +, -, *, //, %, ** -/
theorem o_addI {i j : Int} (k : R (.d (.int (i + j))) μ) : AO K (rAddU K) (.d (.int i)) (.d (.int j)) μ R := ao_l (ao_iI (g := fun i j => i + j) k)
theorem o_addL {x y : W} {ws zs : List W} (hx : LN μ x ws) (hy : LN μ y zs) (hl : ws.length + zs.length ≤ sizeLine) (q : NL (ws ++ zs) μ R) : AO K (rAddU K) x y μ R := ao_r (ao_l (ao_cat hx hy hl q))
theorem ao_addS {x y : PySem.Str} (hl : x.length + y.length ≤ sizeLine) (q : R (.d (.str (x ++ y))) μ) : AO K rAddS (.d (.str x)) (.d (.str y)) μ R := fun A M H v u mo rv ru Q h => by
  rw [vr_str rv, vr_str ru]
  exact ⟨x, y, rfl, rfl, hl, h M H _ _ μ mo Eff.refl (.d (.str _)) q⟩
theorem o_addS {x y : PySem.Str} (hl : x.length + y.length ≤ sizeLine) (q : R (.d (.str (x ++ y))) μ) : AO K (rAddU K) (.d (.str x)) (.d (.str y)) μ R := ao_r (ao_r (ao_r (ao_addS hl q)))
theorem o_addT {x y : W} {ws zs : List W} (hx : TW x ws) (hy : TW y zs) (h0 : ws ≠ []) (h1 : zs ≠ []) (hl : ws.length + zs.length ≤ sizeLine) (q : NT (ws ++ zs) μ R) : AO K (rAddU K) x y μ R := ao_r (ao_r (ao_l fun A M H v u mo rv ru Q h => by
  obtain ⟨a, vs, rfl, ha, ra⟩ := hx.get rv
  obtain ⟨b, us, rfl, hb, rb⟩ := hy.get ru
  have n1 : vs ≠ [] := fun z => by
    subst z
    cases ra
    exact h0 rfl
  have n2 : us ≠ [] := fun z => by
    subst z
    cases rb
    exact h1 rfl
  refine ⟨a, b, vs, us, rfl, rfl, Evl.ex_t vw_le ha, Evl.ex_t vw_le hb, n1, by rw [ra.length, rb.length]; exact hl, ?_⟩
  first
    | exact ⟨fun z => absurd z n2, fun _ p hp => by
        obtain ⟨w, m2, e2, r2, hR⟩ := q.use mo (ra.append rb) hp
        exact h M _ _ w μ m2 e2 r2 hR⟩
    | exact ⟨fun z => absurd z n2, fun p hp => by
        obtain ⟨w, m2, e2, r2, hR⟩ := q.use mo (ra.append rb) hp
        exact h M _ _ w μ m2 e2 r2 hR⟩))
theorem o_subI {i j : Int} (k : R (.d (.int (i - j))) μ) : AO K rSubI (.d (.int i)) (.d (.int j)) μ R := ao_iI (g := fun i j => i - j) k
theorem o_mulI {i j : Int} (hc : CMul i j) (k : R (.d (.int (i * j))) μ) : AO K rMulU (.d (.int i)) (.d (.int j)) μ R := ao_l (ao_cI (g := fun i j => i * j) hc k)
theorem o_mulX {i j : Int} (hc : CMulX i j) (k : R (.d (.int (i * j))) μ) : AO K rMulU (.d (.int i)) (.d (.int j)) μ R := ao_r (ao_l (ao_cI (g := fun i j => i * j) hc k))
theorem o_rep {x : W} {ws : List W} {k : Int} (hx : LN μ x ws) (hk : -(2 ^ 63) ≤ k ∧ k < 2 ^ 63) (hl : ws.length * k.toNat ≤ sizeLine) (q : NL (List.replicate k.toNat ws).flatten μ R) : AO K rMulU x (.d (.int k)) μ R := ao_r (ao_r (ao_rep hx hk hl q))
theorem o_divI {i j : Int} (hc : CDivW i j) (k : R (.d (.int (i / j))) μ) : AO K rDivI (.d (.int i)) (.d (.int j)) μ R := ao_cI (g := fun i j => i / j) hc k
theorem o_modI {i j : Int} (hc : 0 < j) (k : R (.d (.int (i % j))) μ) : AO K rModI (.d (.int i)) (.d (.int j)) μ R := ao_cI (P := fun _ j => 0 < j) (g := fun i j => i % j) hc k
theorem o_powI {i j : Int} (hc : COp i j) (k : R (.d (.int (i ^ j.toNat))) μ) : AO K rPowI (.d (.int i)) (.d (.int j)) μ R := ao_cI (g := fun i j => i ^ j.toNat) hc k
theorem o_ltI {i j : Int} (k : R (.d (.bool (decide (i < j)))) μ) : AO K rLtU (.d (.int i)) (.d (.int j)) μ R := ao_l (ao_iB (g := fun i j => decide (i < j)) k)
theorem o_leI {i j : Int} (k : R (.d (.bool (decide (i ≤ j)))) μ) : AO K rLeI (.d (.int i)) (.d (.int j)) μ R := ao_iB (g := fun i j => decide (i ≤ j)) k
theorem o_gtI {i j : Int} (k : R (.d (.bool (decide (j < i)))) μ) : AO K rGtI (.d (.int i)) (.d (.int j)) μ R := ao_iB (g := fun i j => decide (j < i)) k
theorem o_geI {i j : Int} (k : R (.d (.bool (decide (j ≤ i)))) μ) : AO K rGeI (.d (.int i)) (.d (.int j)) μ R := ao_iB (g := fun i j => decide (j ≤ i)) k
theorem o_eqI {i j : Int} (k : R (.d (.bool (decide (i = j)))) μ) : AO K (rEqU K) (.d (.int i)) (.d (.int j)) μ R := ao_l (ao_eqI k)
theorem o_neI {i j : Int} (k : R (.d (.bool (!decide (i = j)))) μ) : AO K (rNeU K) (.d (.int i)) (.d (.int j)) μ R := ao_l (ao_neI k)
theorem o_eqB {i j : Bool} (k : R (.d (.bool (decide (i = j)))) μ) : AO K (rEqU K) (.d (.bool i)) (.d (.bool j)) μ R := ao_l (ao_eqB k)
theorem o_neB {i j : Bool} (k : R (.d (.bool (!decide (i = j)))) μ) : AO K (rNeU K) (.d (.bool i)) (.d (.bool j)) μ R := ao_l (ao_neB k)
theorem o_eqS {i j : PySem.Str} (k : R (.d (.bool (decide (i = j)))) μ) : AO K (rEqU K) (.d (.str i)) (.d (.str j)) μ R := ao_l (ao_eqS k)
theorem o_neS {i j : PySem.Str} (k : R (.d (.bool (!decide (i = j)))) μ) : AO K (rNeU K) (.d (.str i)) (.d (.str j)) μ R := ao_l (ao_neS k)
theorem o_eqD {x y : W} {d e : PyData} (hx : Rs μ x d) (hy : Rs μ y e) (sd : SeqAt.shaped d = true) (se : SeqAt.shaped e = true) (k : R (.d (.bool (PyData.eqv d e))) μ) : AO K (rEqU K) x y μ R := ao_r (ao_eqD hx hy sd se k)
theorem o_neD {x y : W} {d e : PyData} (hx : Rs μ x d) (hy : Rs μ y e) (sd : SeqAt.shaped d = true) (se : SeqAt.shaped e = true) (k : R (.d (.bool (!PyData.eqv d e))) μ) : AO K (rNeU K) x y μ R := ao_r (ao_neD hx hy sd se k)
theorem o_is {x : W} {neg : Bool} (k : R (.d (.bool (if neg then !isNon x else isNon x))) μ) : AO K (rIsU neg) x (.d .none) μ R := fun A M H v u mo rv ru Q h => by
  rw [vr_none ru]
  refine .inl ⟨rfl, ?_⟩
  rw [vr_isN rv]
  exact h M H _ _ μ mo Eff.refl (.d (.bl _)) k
theorem o_isB {a b neg : Bool} (k : R (.d (.bool (if neg then !decide (a = b) else decide (a = b)))) μ) : AO K (rIsU neg) (.d (.bool a)) (.d (.bool b)) μ R := fun A M H v u mo rv ru Q h => by
  rw [vr_bool rv, vr_bool ru]
  exact .inr ⟨a, b, rfl, rfl, h M H _ _ μ mo Eff.refl (.d (.bl _)) k⟩
/-! items -/
theorem o_ixL {x z : W} {ws : List W} {i : Int} (hx : LW μ x ws) (hz : atI ws i = some z) (q : R z μ) : AO K (rIx K) x (.d (.int i)) μ R := ao_l (ao_ixL hx hz q)
theorem o_ixT {x z : W} {ws : List W} {i : Int} (hx : TW x ws) (hz : atI ws i = some z) (q : R z μ) : AO K (rIx K) x (.d (.int i)) μ R := ao_r (ao_l (ao_ixT hx hz q))
theorem o_ixS {x : PySem.Str} {i : Int} {c : Nat} (hl : x.length ≤ sizeLine) (hc : atI x.cps.toList i = some c) (q : R (.d (.str ⟨#[c]⟩)) μ) : AO K (rIx K) (.d (.str x)) (.d (.int i)) μ R := ao_r (ao_r (ao_ixS hl hc q))
theorem o_slL {x : W} {ws : List W} {lo hi : Option Int} (hx : LW μ x ws) (q : NL (cutW ws lo hi) μ R) : ASl K (rSlU K) x lo hi μ R := asl_l (as_slL hx q)
theorem o_slS {x : PySem.Str} {lo hi : Option Int} (hl : x.length ≤ sizeLine) (q : R (.d (.str (cutS x lo hi))) μ) : ASl K (rSlU K) (.d (.str x)) lo hi μ R := asl_r (asl_r (as_slS hl q))
/-! truth -/
inductive TrW (μ : Mu) : W → Bool → Prop
  | non : TrW μ (.d .none) false
  | bl (b : Bool) : TrW μ (.d (.bool b)) b
  | int (i : Int) : TrW μ (.d (.int i)) (i != 0)
  | str (x : PySem.Str) (h : x.length ≤ sizeLine) : TrW μ (.d (.str x)) ((x.length : Int) != 0)
  | lst {w : W} {ws : List W} (h : LW μ w ws) : TrW μ w (!ws.isEmpty)
  | tup {w : W} {ws : List W} (h : TW w ws) : TrW μ w (!ws.isEmpty)
theorem vrs_empty {Hv : Hp} {M : List Addr} {vs : List V} {ws : List W} (h : VRs K Hv M vs ws) : vs.isEmpty = ws.isEmpty := by cases h <;> rfl
theorem TrW.ok {A : Addr → Prop} {M : List Addr} {H : Hp} {w : W} {v : V} {b : Bool} (mo : MOk K A M H μ) (r : VR K (vw A M μ H) M v w) (h : TrW μ w b) : TruV K v H b := by
  cases h with
  | non => rw [vr_none r]; rfl
  | bl b => rw [vr_bool r]; rfl
  | int i => rw [vr_int r]; rfl
  | str x hl => rw [vr_str r]; exact ⟨hl, rfl⟩
  | lst hl =>
    obtain ⟨a, vs, rfl, hs, rs⟩ := hl.get mo r
    exact .inl ⟨vs, hs, by rw [vrs_empty rs]⟩
  | tup hl =>
    obtain ⟨a, vs, rfl, hs, rs⟩ := hl.get r
    exact .inr (.inl ⟨vs, Evl.ex_t vw_le hs, by rw [vrs_empty rs]⟩)
theorem at_tru {RT : Bool → Mu → Prop} (h : AX K te Γ μ fun w μ1 => ∃ b, TrW μ1 w b ∧ RT b μ1) : AXT K (tTru K te) Γ μ RT := fun A M σ H c Q q =>
  h A M σ H c _ fun M1 H1 v w μ1 mo1 e1 r1 ⟨b, hb, hR⟩ => ⟨b, hb.ok mo1 r1, q M1 H1 b μ1 mo1 e1 hR⟩
theorem at_truB {RT : Bool → Mu → Prop} (h : AX K te Γ μ fun w μ1 => ∃ b, w = .d (.bool b) ∧ RT b μ1) : AXT K (tTru K te) Γ μ RT := at_tru (ax_weak h fun w μ' ⟨b, e, r⟩ => ⟨b, by rw [e]; exact .bl b, r⟩)
theorem ax_andT (h : AX K ta Γ μ fun x μ1 => ∃ b, TrW μ1 x b ∧ if b = true then AX K tb Γ μ1 R else R x μ1) : AX K (tAndT K ta tb) Γ μ R := fun A M σ H c Q q =>
  h A M σ H c _ fun M1 H1 v x μ1 mo1 e1 r1 ⟨b, hb, h1⟩ => by
    refine ⟨b, hb.ok mo1 r1, ?_⟩
    cases b with
    | true =>
      show tb σ H1 Q
      exact h1 A M1 σ H1 (c.eff e1 mo1) Q fun M2 H2 z w μ2 mo2 e2 r2 h2 => q M2 H2 z w μ2 mo2 (e1.trans e2) r2 h2
    | false => exact q M1 H1 _ _ μ1 mo1 e1 r1 h1
theorem ax_orT (h : AX K ta Γ μ fun x μ1 => ∃ b, TrW μ1 x b ∧ if b = true then R x μ1 else AX K tb Γ μ1 R) : AX K (tOrT K ta tb) Γ μ R := fun A M σ H c Q q =>
  h A M σ H c _ fun M1 H1 v x μ1 mo1 e1 r1 ⟨b, hb, h1⟩ => by
    refine ⟨b, hb.ok mo1 r1, ?_⟩
    cases b with
    | false =>
      show tb σ H1 Q
      exact h1 A M1 σ H1 (c.eff e1 mo1) Q fun M2 H2 z w μ2 mo2 e2 r2 h2 => q M2 H2 z w μ2 mo2 (e1.trans e2) r2 h2
    | true => exact q M1 H1 _ _ μ1 mo1 e1 r1 h1
theorem ax_notT (h : AX K ta Γ μ fun x μ1 => ∃ b, TrW μ1 x b ∧ R (.d (.bool (!b))) μ1) : AX K (tNotT K ta) Γ μ R := fun A M σ H c Q q =>
  h A M σ H c _ fun M1 H1 v x μ1 mo1 e1 r1 ⟨b, hb, h1⟩ => ⟨b, hb.ok mo1 r1, q M1 H1 _ _ μ1 mo1 e1 (.d (.bl _)) h1⟩
theorem ax_chain {r r' : R2} {tc : TE} (h : AX K ta Γ μ fun x μ1 => AX K tb Γ μ1 fun y μ2 => AO K r x y μ2 fun z μ3 => ∃ b, z = .d (.bool b) ∧ if b = true then AX K tc Γ μ3 fun u μ4 => AO K r' y u μ4 R else R (.d (.bool false)) μ3) : AX K (tChain r r' ta tb tc) Γ μ R := fun A M σ H c Q q =>
  h A M σ H c _ fun M1 H1 v x μ1 mo1 e1 r1 h1 => h1 A M1 σ H1 (c.eff e1 mo1) _ fun M2 H2 u y μ2 mo2 e2 r2 h2 => h2 A M2 H2 v u mo2 (r1.mono e2.ex e2.pre) r2 _ fun M3 H3 z w μ3 mo3 e3 r3 ⟨b, hb, h3⟩ => by
    subst hb
    have e13 := (e1.trans e2).trans e3
    refine ⟨b, vr_bool r3, ?_⟩
    cases b with
    | true => exact h3 A M3 σ H3 (c.eff e13 mo3) _ fun M4 H4 u4 w4 μ4 mo4 e4 r4 h4 => h4 A M4 H4 u u4 mo4 (r2.mono (e3.trans e4).ex (e3.trans e4).pre) r4 Q fun M5 H5 z5 w5 μ5 mo5 e5 r5 h5 => q M5 H5 z5 w5 μ5 mo5 ((e13.trans e4).trans e5) r5 h5
    | false => exact q M3 H3 _ _ μ3 mo3 e13 (.d (.bl _)) h3
/-! calls of built-ins -/
theorem c_lenL {x : W} {ws : List W} (hx : LW μ x ws) (q : R (.d (.int ws.length)) μ) : AC K (rLenU K) [x] μ R := fun A M H vs mo rs Q h => by
  cases rs with
  | cons rw rn =>
    cases rn
    obtain ⟨a, us, rfl, hs, ru⟩ := hx.get mo rw
    refine ⟨_, _, rfl, .inl ⟨us, hs, rfl⟩, ?_⟩
    rw [ru.length]
    exact h M H _ _ μ mo Eff.refl (.d (.int _)) q
theorem c_lenT {x : W} {ws : List W} (hx : TW x ws) (q : R (.d (.int ws.length)) μ) : AC K (rLenU K) [x] μ R := fun A M H vs mo rs Q h => by
  cases rs with
  | cons rw rn =>
    cases rn
    obtain ⟨a, us, rfl, hs, ru⟩ := hx.get rw
    refine ⟨_, _, rfl, .inr ⟨us, Evl.ex_t vw_le hs, rfl⟩, ?_⟩
    rw [ru.length]
    exact h M H _ _ μ mo Eff.refl (.d (.int _)) q
theorem c_lenS {x : PySem.Str} (hl : x.length ≤ sizeLine) (q : R (.d (.int x.length)) μ) : AC K (rLenU K) [.d (.str x)] μ R := fun A M H vs mo rs Q h => by
  cases rs with
  | cons rw rn =>
    cases rn
    rw [vr_str rw]
    exact ⟨_, x.length, rfl, ⟨hl, rfl⟩, h M H _ _ μ mo Eff.refl (.d (.int _)) q⟩
theorem c_int {i : Int} (q : R (.d (.int i)) μ) : AC K rIntU [.d (.int i)] μ R := ac_int q
theorem c_intB {i : Bool} (q : R (.d (.int (if i then 1 else 0))) μ) : AC K rIntU [.d (.bool i)] μ R := ac_intB q
theorem c_abs {i : Int} (q : R (.d (.int (if i < 0 then -i else i))) μ) : AC K rAbsU [.d (.int i)] μ R := ac_1 (g := fun i => if i < 0 then -i else i) q
theorem c_max2 {i j : Int} (q : R (.d (.int (max i j))) μ) : AC K (rMaxU K) [.d (.int i), .d (.int j)] μ R := ac_l (ac_2 (g := fun i j => if j > i then j else i) (by
  have e : (if j > i then j else i) = max i j := by omega
  show R (.d (.int (if j > i then j else i))) μ
  rw [e]
  exact q))
theorem c_min2 {i j : Int} (q : R (.d (.int (min i j))) μ) : AC K (rMinU K) [.d (.int i), .d (.int j)] μ R := ac_l (ac_2 (g := fun i j => if j < i then j else i) (by
  have e : (if j < i then j else i) = min i j := by omega
  show R (.d (.int (if j < i then j else i))) μ
  rw [e]
  exact q))
theorem c_maxL {x : W} {ns : List Int} (hx : LW μ x (ns.map fun n => W.d (.int n))) (h0 : 0 < ns.length) (q : ∀ m, m ∈ ns → (∀ y, y ∈ ns → y ≤ m) → R (.d (.int m)) μ) : AC K (rMaxU K) [x] μ R := ac_r (ac_max hx h0 q)
theorem c_minL {x : W} {ns : List Int} (hx : LW μ x (ns.map fun n => W.d (.int n))) (h0 : 0 < ns.length) (q : ∀ m, m ∈ ns → (∀ y, y ∈ ns → m ≤ y) → R (.d (.int m)) μ) : AC K (rMinU K) [x] μ R := ac_r (ac_min hx h0 q)
theorem c_listL {x : W} {ws : List W} (hx : LW μ x ws) (q : NL ws μ R) : AC K (rListU K) [x] μ R := ac_list hx q
theorem c_listT {x : W} {ws : List W} (hx : TW x ws) (q : NL ws μ R) : AC K (rListU K) [x] μ R := ac_listT hx q
theorem c_tupL {x : W} {ws : List W} (hx : LW μ x ws) (q : NT ws μ R) : AC K (rTupU K) [x] μ R := ac_tupleL hx q
/-- isinstance of data against a built-in class -/
def tyD : PyData → String
  | .none => "NoneType"
  | .bool _ => "bool"
  | .int _ => "int"
  | .str _ => "str"
  | .list _ => "list"
  | .tuple _ => "tuple"
  | .dict _ => "dict"
inductive TyW (μ : Mu) : W → String → Prop
  | d (x : PyData) : TyW μ (.d x) (tyD x)
  | m {k : Nat} {ws : List W} (h : μ[k]? = some (some (.lst ws))) : TyW μ (.m k) "list"
  | t (ws : List W) : TyW μ (.t ws) "tuple"
  | f (ws : List W) : TyW μ (.f ws) "list"
theorem tyx_t {H : Hp} {a : Addr} {xs : List V} (h : SqT K H a xs) : TyX K H (.ref a) (.type "tuple") := by
  rcases h with (h | ⟨o, h⟩) | ⟨o, its, n, h, hc, _⟩
  · exact .base (.tup h)
  · exact .fTuple h
  · exact .kTuple h hc
theorem tyx_l {H : Hp} {a : Addr} {xs : List V} (h : SqL K H a xs) : TyX K H (.ref a) (.type "list") := by
  rcases h with (h | ⟨o, h⟩) | ⟨o, its, n, h, hc, _⟩
  · exact .base (.lst h)
  · exact .base (.frz h)
  · exact .kList h hc
theorem TyW.ok {A : Addr → Prop} {M : List Addr} {H : Hp} {w : W} {v : V} {T : String} (mo : MOk K A M H μ) (r : VR K (vw A M μ H) M v w) (h : TyW μ w T) : TyX K H v (.type T) := by
  cases h with
  | d x =>
    cases r with
    | d r =>
      cases r with
      | non => exact .base .non
      | bl b => exact .base (.bl b)
      | int i => exact .base (.int i)
      | str x => exact .base (.str x)
      | lst h1 h2 => exact .base (.lst (vw_le _ _ h1))
      | tup h1 h2 => exact tyx_t (Evl.ex_t vw_le h1)
  | m hk =>
    obtain ⟨a, vs, rfl, hm, e, ru⟩ := cell_get mo r hk
    exact .base (.lst e)
  | t ws =>
    cases r with
    | t h1 h2 => exact tyx_t (Evl.ex_t vw_le h1)
  | f ws =>
    cases r with
    | f h1 h2 => exact tyx_l (Evl.ex_l vw_le h1)
theorem vr_k {v u : V} {Hv : Hp} {M : List Addr} (h : VR K Hv M v (.k u)) : v = u := by cases h; rfl
theorem c_isi {w : W} {S T : String} {b : Bool} (hw : TyW μ w S) (hk : kitB S T = some b) (q : R (.d (.bool b)) μ) : AC K (rIsi K) [w, .k (.ty T)] μ R := fun A M H vs mo rs Q h => by
  cases rs with
  | cons ra rn =>
    cases rn with
    | cons rb rn =>
      cases rn
      rw [vr_k rb]
      exact ⟨_, _, _, _, b, rfl, .ty T, hw.ok mo ra, kit_ty hk, h M H _ _ μ mo Eff.refl (.d (.bl _)) q⟩
end
/-! ### defs by their promises -/
/-- the module's x is a def that keeps F -/
def Has (P : Program) (w : World) (K : PySem.W.Frag) (mg : Str → Option Value) (base : Heap) (x : Str) (ps : List Str) (k : Nat) (F : FS) : Prop :=
  ∃ f fd, FnOk P w K mg base CX0 k f fd ps (spD K F) ∧ mg x = some (.ref f) ∧ PySem.W.keepIn K (.ref f) = true ∧ Binds K fd ps []
/-- .. and may be called with n values and the keywords ks -/
def HasK (P : Program) (w : World) (K : PySem.W.Frag) (mg : Str → Option Value) (base : Heap) (x : Str) (ps : List Str) (k : Nat) (F : FS) (n : Nat) (ks : List Str) (ix : List Nat) : Prop :=
  ∃ f fd, FnOk P w K mg base CX0 k f fd ps (spD K F) ∧ mg x = some (.ref f) ∧ PySem.W.keepIn K (.ref f) = true ∧ KBn K fd ps n ks (fun us ws => perm ix (us ++ ws)) (fun vs zs => perm ix (vs ++ zs))
section
variable {X : Cx} {x : Str} {ps ks : List Str} {k n m : Nat} {F : FS} {e : Expr} {es : List Expr} {ta tk : TA} {p pos : Pos} {kws : List Keyword} {ix : List Nat}
theorem pe_has (h : Has X.prog X.w X.K X.mg X.base x ps k F) (hr : Room k X.A) (ha : PA X (e :: es) ta) (hg : Gl X x := by rfl) (hd : (x == ("__debug__" : Str)) = false := by decide)
    (he : starEach (e :: es) X.env = (false, eval e X.env) :: starEach es X.env := by rfl) (hpl : (backTo pos (starEach es X.env)).any (·.1) = false := by rfl) : PE X (.Call (.Name x p) (e :: es) [] pos) (tCall (spD X.K F) [] E0 ta) := by
  obtain ⟨f, fd, G, hmg, kp, b⟩ := h
  exact pe_call G hr hg hmg kp b .nil pass0 ha hd he hpl
theorem pe_hasN (h : HasK X.prog X.w X.K X.mg X.base x ps k F n ks ix) (hr : Room k X.A) (ha : PA X (e :: es) ta) (hk : PK X kws tk) (hm : ks.length = m := by rfl) (hg : Gl X x := by rfl)
    (hall : (backToKw pos (keywordEach kws X.env)).all (·.1.isSome) = true := by rfl) (hks : (backToKw pos (keywordEach kws X.env)).filterMap (·.1) = ks := by rfl) (hdb : (x == ("__debug__" : Str)) = false := by decide)
    (he : starEach (e :: es) X.env = (false, eval e X.env) :: starEach es X.env := by rfl) (hpl : ((backTo pos (starEach (e :: es) X.env)).any (·.1) || (backToKw pos (keywordEach kws X.env)).any (·.1.isNone)) = false := by rfl) :
    PE X (.Call (.Name x p) (e :: es) kws pos) (tCallN n m (spD X.K F) (fun vs zs => perm ix (vs ++ zs)) E0 ta tk) := by
  subst hm
  obtain ⟨f, fd, G, hmg, kp, b⟩ := h
  exact pe_callN G hr hg hmg kp b pass0 ha hk hall hks hdb he hpl
theorem pe_hasN0 (h : HasK X.prog X.w X.K X.mg X.base x ps k F 0 ks ix) (hr : Room k X.A) (hk : PK X kws tk) (hm : ks.length = m := by rfl) (hg : Gl X x := by rfl)
    (hall : (backToKw pos (keywordEach kws X.env)).all (·.1.isSome) = true := by rfl) (hks : (backToKw pos (keywordEach kws X.env)).filterMap (·.1) = ks := by rfl) (hdb : (x == ("__debug__" : Str)) = false := by decide)
    (hpl : ((backTo pos (starEach [] X.env)).any (·.1) || (backToKw pos (keywordEach kws X.env)).any (·.1.isNone)) = false := by rfl) :
    PE X (.Call (.Name x p) [] kws pos) (tCallN 0 m (spD X.K F) (fun vs zs => perm ix (vs ++ zs)) E0 tNil tk) := by
  subst hm
  obtain ⟨f, fd, G, hmg, kp, b⟩ := h
  exact pe_callN0 G hr hg hmg kp b pass0 hk hall hks hdb hpl
end
theorem has_of {P : Program} {w : World} {K : PySem.W.Frag} {mg : Str → Option Value} {base : Heap} {x qual : Str} {st : Stmt} {f : Addr} {fd : FuncData} {ps : List Str} {k : Nat} {F : FS} (Fu : Fun K x qual st f fd) (m : mg x = some (.ref f)) (G : FnOk P w K mg base CX0 k f fd ps (spD K F))
    (h : ∀ (kV doc pm : Value) (an : Option Addr) (cdv ct : Value) (us : List Value), us.length = ps.length → bindArgs (PySem.W.fnOf x qual (defArgs st) (defBody st) (defScope st) .none kV doc pm an cdv ct) ⟨us, []⟩ = pure (ps.zip us)) : Has P w K mg base x ps k F := ⟨f, fd, G, m, Fu.kp, Fu.binds h⟩
theorem hask_of {P : Program} {w : World} {K : PySem.W.Frag} {mg : Str → Option Value} {base : Heap} {x qual : Str} {st : Stmt} {f : Addr} {fd : FuncData} {ps : List Str} {k : Nat} {F : FS} (Fu : Fun K x qual st f fd) (m : mg x = some (.ref f)) (G : FnOk P w K mg base CX0 k f fd ps (spD K F)) (n : Nat) (ks : List Str) (ix : List Nat)
    (h : ∀ (kV doc pm : Value) (an : Option Addr) (cdv ct : Value) (us ws : List Value), us.length = n → ws.length = ks.length → bindArgs (PySem.W.fnOf x qual (defArgs st) (defBody st) (defScope st) .none kV doc pm an cdv ct) ⟨us, ks.zip ws⟩ = pure (ps.zip (perm ix (us ++ ws)))) : HasK P w K mg base x ps k F n ks ix := by
  obtain ⟨oc, od, kV, doc, pm, an, cdv, ct, osl, rfl, lk, hcd⟩ := Fu.ex
  exact ⟨f, _, G, m, Fu.kp, fun s us ws _ h1 h2 => .of_eq (h kV doc pm an cdv ct us ws h1 h2), fun h1 h2 => vals_perm (h1.append h2) ix⟩
end Pd

/-! cells of one's own are left behind: what is handed out is plain data -/
namespace Pd
open PySem L2
open Evl (Ex)
mutual
inductive Rn (n : Nat) (μ : Mu) : W → PyData → Prop
  | d (x : PyData) : Rn n μ (.d x) x
  | m {k : Nat} {ws : List W} {xs : List PyData} : n ≤ k → μ[k]? = some (some (.lst ws)) → Rns n μ ws xs → Rn n μ (.m k) (.list xs)
  | t {ws : List W} {xs : List PyData} : Rns n μ ws xs → Rn n μ (.t ws) (.tuple xs)
inductive Rns (n : Nat) (μ : Mu) : List W → List PyData → Prop
  | nil : Rns n μ [] []
  | cons {w : W} {x : PyData} {ws : List W} {xs : List PyData} : Rn n μ w x → Rns n μ ws xs → Rns n μ (w :: ws) (x :: xs)
end
theorem Rns.ds {n : Nat} {μ : Mu} : ∀ xs : List PyData, Rns n μ (xs.map W.d) xs
  | [] => .nil
  | x :: xs => .cons (.d x) (Rns.ds xs)
theorem Rns.mp {n : Nat} {μ : Mu} {α : Type} (f : α → PyData) : ∀ xs : List α, Rns n μ (xs.map fun x => W.d (f x)) (xs.map f)
  | [] => .nil
  | x :: xs => .cons (.d (f x)) (Rns.mp f xs)
def DataC : C → Prop
  | .lst ws => ∃ xs : List PyData, ws = xs.map W.d
  | .xd _ _ => False
section
variable {K : PySem.W.Frag} {A : Addr → Prop} {M M1 : List Addr} {H H1 : Hp} {μ μ1 μ' : Mu} {cs : Mu}
mutual
theorem vr_cut {Hv H0 : Hp} {n : Nat} (hn : M.length = n) : ∀ {w : W} {v v0 : V}, VR K Hv M1 v w → VR K H0 M v0 w → VR K Hv (M1.take n) v w
  | .d x, _, _, h, _ => by cases h with | d h => exact .d h
  | .m k, _, _, h, g => by
    cases h with
    | m h =>
      cases g with
      | m g =>
        refine .m ?_
        rw [List.getElem?_take, if_pos (by rw [← hn]; exact (List.getElem?_eq_some_iff.mp g).1)]
        exact h
  | .t ws, _, _, h, g => by
    cases h with
    | t h1 h2 =>
      cases g with
      | t g1 g2 => exact .t h1 (vrs_cutM hn h2 g2)
  | .f ws, _, _, h, g => by
    cases h with
    | f h1 h2 =>
      cases g with
      | f g1 g2 => exact .f h1 (vrs_cutM hn h2 g2)
  | .k v, _, _, h, _ => by cases h with | k => exact .k _
theorem vrs_cutM {Hv H0 : Hp} {n : Nat} (hn : M.length = n) : ∀ {ws : List W} {vs vs0 : List V}, VRs K Hv M1 vs ws → VRs K H0 M vs0 ws → VRs K Hv (M1.take n) vs ws
  | [], _, _, h, _ => by cases h with | nil => exact .nil
  | w :: ws, _, _, h, g => by
    cases h with
    | cons h1 h2 =>
      cases g with
      | cons g1 g2 => exact .cons (vr_cut hn h1 g1) (vrs_cutM hn h2 g2)
end
theorem vrs_dataM {Hv : Hp} {M M' : List Addr} {vs : List V} {xs : List PyData} (h : VRs K Hv M vs (xs.map W.d)) : VRs K Hv M' vs (xs.map W.d) := VRs.of_dp h.dp
theorem hid_cut {n : Nat} (hl : μ'.length = n) (h1 : μ1 = μ' ++ cs) {a : Addr} (h : hid A (M1.take n) μ' a) : hid A M1 μ1 a := by
  rcases h with z | ⟨k, c, e1, e2⟩
  · exact .inl z
  · have hk : k < n := by
      have := (List.getElem?_eq_some_iff.mp e2).1
      omega
    rw [List.getElem?_take, if_pos hk] at e1
    exact .inr ⟨k, c, e1, by rw [h1, List.getElem?_append_left (by omega)]; exact e2⟩
mutual
theorem rn_dq {n : Nat} (mo1 : MOk K A M1 H1 μ1) (hl : μ'.length = n) (h1 : μ1 = μ' ++ cs) : ∀ {w : W} {d : PyData} {v : V}, Rn n μ1 w d → VR K (vw A M1 μ1 H1) M1 v w → DQ K (vw A (M1.take n) μ' H1) v d
  | _, _, _, .d x, h => by
    cases h with
    | d h => exact dp_mono (fun a o q => vw_of (fun z => (vw_some q).1 (hid_cut hl h1 z)) (vw_some q).2) h
  | _, _, _, .m hk hc hs, h => by
    obtain ⟨a, vs, rfl, hm, e, ru⟩ := cell_get mo1 h hc
    refine .lst (vw_of (fun z => ?_) e) (rns_dq mo1 hl h1 hs ru)
    rcases z with z | ⟨j, c, e1, e2⟩
    · exact mo1.nA a (List.mem_of_getElem? hm) z
    · have hj : j < n := by
        have := (List.getElem?_eq_some_iff.mp e2).1
        omega
      rw [List.getElem?_take, if_pos hj] at e1
      have l1 := List.getElem?_eq_some_iff.mp hm
      have l2 := List.getElem?_eq_some_iff.mp e1
      have := (List.getElem_inj mo1.nd).mp (l1.2.trans l2.2.symm)
      omega
  | _, _, _, .t hs, h => by
    cases h with
    | t g1 g2 => exact .tup (Evl.ex_t (fun a o q => vw_of (fun z => (vw_some q).1 (hid_cut hl h1 z)) (vw_some q).2) g1) (rns_dq mo1 hl h1 hs g2)
theorem rns_dq {n : Nat} (mo1 : MOk K A M1 H1 μ1) (hl : μ'.length = n) (h1 : μ1 = μ' ++ cs) : ∀ {ws : List W} {ds : List PyData} {vs : List V}, Rns n μ1 ws ds → VRs K (vw A M1 μ1 H1) M1 vs ws → DQs K (vw A (M1.take n) μ' H1) vs ds
  | _, _, _, .nil, h => by cases h; exact .nil
  | _, _, _, .cons g1 g2, h => by
    cases h with
    | cons h1' h2' => exact .cons (rn_dq mo1 hl h1 g1 h1') (rns_dq mo1 hl h1 g2 h2')
end
/-- what is changed of the cells that were there is plain data -/
def Keeps (μ μ' : Mu) : Prop := ∀ (j : Nat) c, μ'[j]? = some (some c) → μ[j]? = some (some c) ∨ DataC c
theorem Keeps.refl (μ : Mu) : Keeps μ μ := fun _ _ h => .inl h
theorem Keeps.set {μ : Mu} {k : Nat} {xs : List PyData} {ws : List W} (e : ws = xs.map W.d := by first | rfl | simp) : Keeps μ (μ.set k (some (.lst ws))) := fun j c h => by
  by_cases hj : k = j
  · subst hj
    rw [List.getElem?_set, if_pos rfl] at h
    split at h
    · have : C.lst ws = c := by simpa using h
      subst this
      exact .inr ⟨xs, e⟩
    · cases h
  · rw [List.getElem?_set, if_neg hj] at h
    exact .inl h
theorem fz_core {v : V} {w : W} {d : PyData} (mo0 : MOk K A M H μ) (mo1 : MOk K A M1 H1 μ1) (e : Eff A M μ H M1 μ1 H1) (h1 : μ1 = μ' ++ cs) (hl : μ'.length = μ.length) (hc : Keeps μ μ') (r : VR K (vw A M1 μ1 H1) M1 v w) (hr : Rn μ.length μ1 w d) :
    ∃ M2, MOk K A M2 H1 μ' ∧ Eff A M μ H M2 μ' H1 ∧ VR K (vw A M2 μ' H1) M2 v (.d d) ∧ M2 = M1.take μ.length := by
  have vx : Ex (vw A M1 μ1 H1) (vw A (M1.take μ.length) μ' H1) := fun a o q => vw_of (fun z => (vw_some q).1 (hid_cut hl h1 z)) (vw_some q).2
  have hM1 : M1.length = μ'.length + cs.length := by rw [mo1.len, h1, List.length_append]
  refine ⟨M1.take μ.length, ⟨by rw [List.length_take]; omega, mo1.nd.sublist (List.take_sublist _ _), fun a m => mo1.nA a (List.mem_of_mem_take m), fun a m => mo1.al a (List.mem_of_mem_take m), mo1.aA, fun k a c e1 e2 => ?_⟩, ⟨fun k a e1 => ?_, e.own, e.ex.trans vx⟩, .d (rn_dq mo1 hl h1 hr r), rfl⟩
  · have hk : k < μ.length := by
      have := (List.getElem?_eq_some_iff.mp e2).1
      omega
    rw [List.getElem?_take, if_pos hk] at e1
    obtain ⟨o, q1, q2⟩ := mo1.ct k a c e1 (by rw [h1, List.getElem?_append_left (by omega)]; exact e2)
    refine ⟨o, q1, ?_⟩
    cases c with
    | lst ws =>
      obtain ⟨vs, rfl, rv⟩ := q2
      refine ⟨vs, rfl, ?_⟩
      rcases hc k _ e2 with z | ⟨xs, rfl⟩
      · have ha : M[k]? = some (M[k]'(by rw [mo0.len]; exact hk)) := List.getElem?_eq_getElem _
        obtain ⟨o0, p1, vs0, rfl, rv0⟩ := mo0.ct k _ _ ha z
        exact (vrs_cutM (n := μ.length) mo0.len rv rv0).mono vx (Pre.refl _)
      · exact vrs_dataM (rv.mono vx (Pre.refl _))
    | xd d w =>
      obtain ⟨q0, v, rfl, rv⟩ := q2
      refine ⟨q0, v, rfl, ?_⟩
      rcases hc k _ e2 with z | z
      · have ha : M[k]? = some (M[k]'(by rw [mo0.len]; exact hk)) := List.getElem?_eq_getElem _
        obtain ⟨o0, p1, _, v0, rfl, rv0⟩ := mo0.ct k _ _ ha z
        exact (vr_cut (n := μ.length) mo0.len rv rv0).mono vx (Pre.refl _)
      · exact z.elim
  · have hk : k < μ.length := by
      rw [← mo0.len]
      exact (List.getElem?_eq_some_iff.mp e1).1
    rw [List.getElem?_take, if_pos hk]
    exact e.pre k a e1
end
/-- w, with the cells μ1, is data; the cells that were there ahead (μ) come to μ' -/
def Fz (μ : Mu) (w : W) (μ1 : Mu) (R : W → Mu → Prop) : Prop := ∃ μ' cs d, μ1 = μ' ++ cs ∧ μ'.length = μ.length ∧ Keeps μ μ' ∧ Rn μ.length μ1 w d ∧ R (.d d) μ'
theorem Fz.same {μ : Mu} {cs : Mu} {w : W} {d : PyData} {R : W → Mu → Prop} (hr : Rn μ.length (μ ++ cs) w d) (q : R (.d d) μ) : Fz μ w (μ ++ cs) R := ⟨μ, cs, d, rfl, rfl, Keeps.refl μ, hr, q⟩
theorem Fz.id {μ : Mu} {d : PyData} {R : W → Mu → Prop} (q : R (.d d) μ) : Fz μ (.d d) μ R := ⟨μ, [], d, by simp, rfl, Keeps.refl μ, .d d, q⟩
theorem ax_fz {K : PySem.W.Frag} {Γ : G} {μ : Mu} {te : TE} {R : W → Mu → Prop} (h : AX K te Γ μ fun w μ1 => Fz μ w μ1 R) : AX K te Γ μ R := fun A M σ H c Q q =>
  h A M σ H c Q fun M1 H1 v w μ1 mo1 e1 r1 ⟨μ', cs, d, a1, a2, a3, a4, hR⟩ => by
    obtain ⟨M2, mo2, e2, r2, _⟩ := fz_core c.mo mo1 e1 a1 a2 a3 r1 a4
    exact q M2 H1 v _ μ' mo2 e2 r2 hR
theorem as_fz {K : PySem.W.Frag} {Γ : G} {μ : Mu} {t : TS} {R : W → Mu → Prop} (h : AS K t { nx := fun _ μ1 => Fz μ (.d .none) μ1 R, rt := fun w μ1 => Fz μ w μ1 R } Γ μ) : AS K t { nx := fun _ μ1 => R (.d .none) μ1, rt := R } Γ μ := fun A M σ H c E hE => by
  have hn : ∀ M1 σ1 H1 Γ1 μ1, Cn K A M1 σ1 H1 Γ1 μ1 → Eff A M μ H M1 μ1 H1 → Fz μ (.d .none) μ1 R → E.nx σ1 H1 := fun M1 σ1 H1 Γ1 μ1 c1 e1 ⟨μ', cs, d, a1, a2, a3, a4, hR⟩ => by
    have a4' : Rn μ.length μ1 (.d .none) d := a4
    cases a4'
    obtain ⟨M2, mo2, e2, r2, _⟩ := fz_core c.mo c1.mo e1 a1 a2 a3 (.d .non : VR K (vw A M1 μ1 H1) M1 .non (.d .none)) (.d .none)
    refine hE.nx M2 σ1 H1 (List.replicate σ1.length none) μ' ⟨mo2, by simp, fun i w hw => ?_⟩ e2 hR
    rw [List.getElem?_replicate] at hw
    split at hw <;> cases hw
  exact h A M σ H c E ⟨hn, fun M1 H1 v w μ1 mo1 e1 r1 ⟨μ', cs, d, a1, a2, a3, a4, hR⟩ => by
    obtain ⟨M2, mo2, e2, r2, _⟩ := fz_core c.mo mo1 e1 a1 a2 a3 r1 a4
    exact hE.rt M2 H1 v _ μ' mo2 e2 r2 hR, fun M1 σ1 H1 Γ1 μ1 c1 e1 z => z.elim, fun M1 σ1 H1 Γ1 μ1 c1 e1 z => z.elim, fun _ _ _ _ _ _ _ _ _ _ _ _ z => z.elim⟩
/-! cells by number -/
theorem mu_set {μ : Mu} {k : Nat} {c c' : Option C} (h : μ[k]? = some c) : (μ.set k c')[k]? = some c' := by
  rw [List.getElem?_set, if_pos rfl, if_pos (List.getElem?_eq_some_iff.mp h).1]
theorem mu_ne {μ : Mu} {k j : Nat} {c' : Option C} (h : k ≠ j) : (μ.set k c')[j]? = μ[j]? := by rw [List.getElem?_set, if_neg h]
theorem mu_end {μ : Mu} {c : Option C} : (μ ++ [c])[μ.length]? = some c := by rw [List.getElem?_append_right (Nat.le_refl _)]; simp
theorem mu_setEnd {μ : Mu} {c c' : Option C} : (μ ++ [c]).set μ.length c' = μ ++ [c'] := by rw [List.set_append_right _ _ (Nat.le_refl _)]; simp
theorem mu_app {μ ν : Mu} {k : Nat} {c : Option C} (h : μ[k]? = some c) : (μ ++ ν)[k]? = some c := by rw [List.getElem?_append_left (List.getElem?_eq_some_iff.mp h).1]; exact h
theorem mu_setApp {μ ν : Mu} {k : Nat} {c c' : Option C} (h : μ[k]? = some c) : (μ ++ ν).set k c' = μ.set k c' ++ ν := List.set_append_left _ _ (List.getElem?_eq_some_iff.mp h).1
abbrev wInts (ns : List Int) : List W := ns.map fun n => W.d (.int n)
abbrev dInts (ns : List Int) : PyData := .list (ns.map PyData.int)
theorem ints_d (ns : List Int) : wInts ns = (ns.map PyData.int).map W.d := by simp [wInts]
theorem lw_ints (μ : Mu) (ns : List Int) : LW μ (.d (dInts ns)) (wInts ns) := by
  rw [ints_d]
  exact .d _
theorem ln_ints (μ : Mu) (ns : List Int) : LN μ (.d (dInts ns)) (wInts ns) := by
  rw [ints_d]
  exact .d _
theorem rss_ints {μ : Mu} (ns : List Int) : Rss μ (wInts ns) (ns.map PyData.int) := by
  rw [ints_d]
  exact Rss.ds _
theorem rns_ints {n : Nat} {μ : Mu} (ns : List Int) : Rns n μ (wInts ns) (ns.map PyData.int) := by
  rw [ints_d]
  exact Rns.ds _
theorem eqvAll_ints : ∀ xs ys : List Int, PyData.eqvAll (xs.map PyData.int) (ys.map PyData.int) = decide (xs = ys)
  | [], [] => rfl
  | [], _ :: _ => rfl
  | _ :: _, [] => rfl
  | x :: xs, y :: ys => by
    rw [List.map_cons, List.map_cons, PyData.eqvAll, eqvAll_ints xs ys, PyData.eqv]
    by_cases h : x = y
    · subst h
      by_cases h2 : xs = ys
      · subst h2; simp
      · simp [h2]
    · simp [h]
theorem eqv_ints (xs ys : List Int) : PyData.eqv (dInts xs) (dInts ys) = decide (xs = ys) := eqvAll_ints xs ys
theorem canLayAll_ints : ∀ xs : List Int, PyData.canLayAll0 (xs.map PyData.int) = true
  | [] => rfl
  | x :: xs => by rw [List.map_cons, PyData.canLayAll0, canLayAll_ints xs]; rfl
theorem depthAll_ints : ∀ xs : List Int, PyData.depthAll (xs.map PyData.int) ≤ 1
  | [] => by simp [PyData.depthAll]
  | x :: xs => by
    rw [List.map_cons, PyData.depthAll]
    have := depthAll_ints xs
    simp only [PyData.depth]
    omega
theorem shaped_ints (xs : List Int) : SeqAt.shaped (dInts xs) = true := by
  unfold SeqAt.shaped
  have h1 : PyData.canLay0 (dInts xs) = true := canLayAll_ints xs
  have h2 : PyData.depth (dInts xs) ≤ 64 := by
    have := depthAll_ints xs
    simp only [dInts, PyData.depth]
    omega
  rw [h1, decide_eq_true h2]
  rfl
end Pd

namespace Pd
open PySem L2
theorem pow_ok {i j : Int} {a : Nat} (hj : 0 ≤ j) (ha : i.natAbs < 2 ^ a) (h : (a : Int) * j ≤ 2 ^ 27) : COp i j :=
  ⟨hj, Int.le_trans (Int.mul_le_mul_of_nonneg_right (Int.ofNat_le.mpr (PyProof.Rows.intBits_le ha)) hj) h⟩
theorem sz_ok {n : Nat} (h : n ≤ 100000) : n ≤ sizeLine := Nat.le_trans h (by decide)
theorem sz_lt {n : Nat} (h : n < 100000) : n < sizeLine := Nat.lt_of_lt_of_le h (by decide)
theorem atI_get {α : Type} {xs : List α} {i : Nat} {x : α} (h : xs[i]? = some x) : atI xs (i : Int) = some x := by
  unfold atI ixN
  have hi := (List.getElem?_eq_some_iff.mp h).1
  rw [if_pos (by omega), if_pos (by omega)]
  simpa using h
theorem atI_end {α : Type} {xs : List α} {x : α} : atI (xs ++ [x]) (-1) = some x := by
  unfold atI ixN
  rw [if_neg (by omega), if_pos (by simp; omega)]
  have e : ((-1 : Int) + ((xs ++ [x]).length : Int)).toNat = xs.length := by simp; omega
  rw [e]
  simp
theorem atI_int {ns : List Int} {i : Int} {x : Int} (h : atI ns i = some x) : atI (wInts ns) i = some (.d (.int x)) := by
  unfold atI at h ⊢
  rw [show (wInts ns).length = ns.length by simp]
  cases e : ixN ns.length i with
  | none => rw [e] at h; cases h
  | some j =>
    rw [e] at h
    have h' : ns[j]? = some x := h
    show (wInts ns)[j]? = _
    rw [List.getElem?_map, h']
    rfl
theorem ite_t {c : Bool} {A B : Prop} (hc : c = true) (h : A) : if c = true then A else B := by rw [if_pos hc]; exact h
theorem ite_f {c : Bool} {A B : Prop} (hc : c = false) (h : B) : if c = true then A else B := by rw [hc]; rw [if_neg (by decide)]; exact h
theorem ite_b {c : Bool} {A B : Prop} (h1 : c = true → A) (h2 : c = false → B) : if c = true then A else B := by
  cases c with
  | true => rw [if_pos rfl]; exact h1 rfl
  | false => rw [if_neg (by decide)]; exact h2 rfl
/-- a cell that was found: the cells as they are are it -/
theorem cut_int {ns : List Int} {lo hi : Option Int} : cutW (wInts ns) lo hi = wInts ((ns.drop (HT.sIx ns.length 0 lo)).take (HT.sIx ns.length ns.length hi - HT.sIx ns.length 0 lo)) := by
  unfold cutW wInts
  rw [List.length_map, List.map_take, List.map_drop]
end Pd
namespace Pd
open PySem L2
section
variable {μ : Mu} {R : W → Mu → Prop}
theorem NL.d0 (h : R (.d (.list [])) μ) : NL [] μ R := NL.d (xs := []) h rfl
theorem NL.d1 {a : PyData} (h : R (.d (.list [a])) μ) : NL [W.d a] μ R := NL.d (xs := [a]) h rfl
theorem NL.d2 {a b : PyData} (h : R (.d (.list [a, b])) μ) : NL [W.d a, W.d b] μ R := NL.d (xs := [a, b]) h rfl
theorem NL.d3 {a b c : PyData} (h : R (.d (.list [a, b, c])) μ) : NL [W.d a, W.d b, W.d c] μ R := NL.d (xs := [a, b, c]) h rfl
theorem NL.di {ns : List Int} (h : R (.d (dInts ns)) μ) : NL (wInts ns) μ R := NL.d (xs := ns.map PyData.int) h (ints_d ns)
theorem NT.d1 {a : PyData} (h : R (.d (.tuple [a])) μ) : NT [W.d a] μ R := NT.d (xs := [a]) h rfl
theorem NT.d2 {a b : PyData} (h : R (.d (.tuple [a, b])) μ) : NT [W.d a, W.d b] μ R := NT.d (xs := [a, b]) h rfl
theorem NT.d3 {a b c : PyData} (h : R (.d (.tuple [a, b, c])) μ) : NT [W.d a, W.d b, W.d c] μ R := NT.d (xs := [a, b, c]) h rfl
end
theorem eqv_nil (ns : List Int) : PyData.eqv (dInts ns) (.list []) = decide (ns = []) := eqv_ints ns []
theorem mu_set2 {μ : Mu} {k : Nat} {a b : Option C} : (μ.set k a).set k b = μ.set k b := List.set_set ..
end Pd
namespace Pd
open PySem L2
theorem TW.d1 {a : PyData} : TW (.d (.tuple [a])) [.d a] := .d [a]
theorem TW.d2 {a b : PyData} : TW (.d (.tuple [a, b])) [.d a, .d b] := .d [a, b]
theorem TW.d3 {a b c : PyData} : TW (.d (.tuple [a, b, c])) [.d a, .d b, .d c] := .d [a, b, c]
theorem TW.d4 {a b c e : PyData} : TW (.d (.tuple [a, b, c, e])) [.d a, .d b, .d c, .d e] := .d [a, b, c, e]
theorem TW.d5 {a b c e f : PyData} : TW (.d (.tuple [a, b, c, e, f])) [.d a, .d b, .d c, .d e, .d f] := .d [a, b, c, e, f]
end Pd
namespace Pd
open PySem L2
theorem tyw_l {μ : Mu} {xs : List PyData} : TyW μ (.d (.list xs)) "list" := .d (.list xs)
theorem tyw_t {μ : Mu} {xs : List PyData} : TyW μ (.d (.tuple xs)) "tuple" := .d (.tuple xs)
theorem tyw_b {μ : Mu} {x : Bool} : TyW μ (.d (.bool x)) "bool" := .d (.bool x)
theorem tyw_i {μ : Mu} {x : Int} : TyW μ (.d (.int x)) "int" := .d (.int x)
theorem tyw_s {μ : Mu} {x : Str} : TyW μ (.d (.str x)) "str" := .d (.str x)
theorem tyw_n {μ : Mu} : TyW μ (.d .none) "NoneType" := .d .none
end Pd
namespace Pd
open PySem L2
theorem kb_NoneType_list : kitB "NoneType" "list" = some false := by decide +kernel
theorem kb_NoneType_tuple : kitB "NoneType" "tuple" = some false := by decide +kernel
theorem kb_NoneType_bool : kitB "NoneType" "bool" = some false := by decide +kernel
theorem kb_NoneType_int : kitB "NoneType" "int" = some false := by decide +kernel
theorem kb_NoneType_str : kitB "NoneType" "str" = some false := by decide +kernel
theorem kb_bool_list : kitB "bool" "list" = some false := by decide +kernel
theorem kb_bool_tuple : kitB "bool" "tuple" = some false := by decide +kernel
theorem kb_bool_bool : kitB "bool" "bool" = some true := by decide +kernel
theorem kb_bool_int : kitB "bool" "int" = some true := by decide +kernel
theorem kb_bool_str : kitB "bool" "str" = some false := by decide +kernel
theorem kb_int_list : kitB "int" "list" = some false := by decide +kernel
theorem kb_int_tuple : kitB "int" "tuple" = some false := by decide +kernel
theorem kb_int_bool : kitB "int" "bool" = some false := by decide +kernel
theorem kb_int_int : kitB "int" "int" = some true := by decide +kernel
theorem kb_int_str : kitB "int" "str" = some false := by decide +kernel
theorem kb_str_list : kitB "str" "list" = some false := by decide +kernel
theorem kb_str_tuple : kitB "str" "tuple" = some false := by decide +kernel
theorem kb_str_bool : kitB "str" "bool" = some false := by decide +kernel
theorem kb_str_int : kitB "str" "int" = some false := by decide +kernel
theorem kb_str_str : kitB "str" "str" = some true := by decide +kernel
theorem kb_list_list : kitB "list" "list" = some true := by decide +kernel
theorem kb_list_tuple : kitB "list" "tuple" = some false := by decide +kernel
theorem kb_list_bool : kitB "list" "bool" = some false := by decide +kernel
theorem kb_list_int : kitB "list" "int" = some false := by decide +kernel
theorem kb_list_str : kitB "list" "str" = some false := by decide +kernel
theorem kb_tuple_list : kitB "tuple" "list" = some false := by decide +kernel
theorem kb_tuple_tuple : kitB "tuple" "tuple" = some true := by decide +kernel
theorem kb_tuple_bool : kitB "tuple" "bool" = some false := by decide +kernel
theorem kb_tuple_int : kitB "tuple" "int" = some false := by decide +kernel
theorem kb_tuple_str : kitB "tuple" "str" = some false := by decide +kernel
end Pd

/-! Err: own error classes whose base's __init__ says super().__init__(word) and self.value = value. -/
namespace PySem
namespace OwnErr
open PySem.W PySem.Calls PyProof.Rows PySem.HandSPX
abbrev eA (p1 p2 : Pos) : Arguments := { posonlyargs := [], args := [{ arg := "self", annotation := none, pos := p1 }, { arg := "value", annotation := none, pos := p2 }], vararg := none, kwonlyargs := [], kw_defaults := [], kwarg := none, defaults := [] }
abbrev eB (wd : Str) (i : Nat) (q : Nat → Pos) : List Stmt :=
  [.Expr (.Call (.Attribute (.Call (.Name "super" (q 0)) [] [] (q 1)) "__init__" (q 2)) [.Constant (.str wd) i (q 3)] [] (q 4)) (q 5), .Assign [.Attribute (.Name "self" (q 6)) "value" (q 7)] (.Name "value" (q 8)) (q 9)]
abbrev eS : Scope := { kind := .function, names := [(PySem.Str.ofString "self", .local), (PySem.Str.ofString "value", .local), (PySem.Str.ofString "__class__", .free), (PySem.Str.ofString "super", .globalImplicit)], isGenerator := false, isCoroutine := false, more := [] }
/-- what the written part says of the base D and of its __init__ at fI -/
structure Bse (P : Program) (K : Frag) (D fI : Addr) : Prop where
  fn : ∃ (oc kV doc pm ct ccl cl : Value) (od an cdd cld : Option Addr) (cda cc : Addr) (osl ccs csl : Array (Option Value)) (vs : Array Value) (file : Str) (tf : Tok) (p1 p2 : Pos) (wd : Str) (i : Nat) (q : Nat → Pos),
    K.lookup fI = some ⟨oc, od, .func (ksFn "__init__" "WindowError.__init__" (eA p1 p2) (eB wd i q) eS .none kV doc pm an (.ref cda) ct cc), osl⟩ ∧ codeIn K (.ref cda) "WindowError.__init__" = true ∧
    K.lookup cda = some ⟨ccl, cdd, .fields vs, ccs⟩ ∧ vs[2]? = some (.str file tf) ∧ ((P.main.file : Str) == file) = true ∧ K.lookup cc = some ⟨cl, cld, .cell (some (.ref D)), csl⟩ ∧
    ∀ env : Env, ∃ pl : Sem Bool, eval (.Call (.Attribute (.Call (.Name "super" (q 0)) [] [] (q 1)) "__init__" (q 2)) [.Constant (.str wd) i (q 3)] [] (q 4)) env = (do
      let ov ← attributeBase (.Call (.Name "super" (q 0)) [] [] (q 1)) "__init__" env (eval (.Call (.Name "super" (q 0)) [] [] (q 1)) env)
      standAt (q 2).atName
      let (f, first) ← holding [ov] (getMethod ov "__init__" pl)
      callWith (q 4) f first (backTo (q 4) (starEach [.Constant (.str wd) i (q 3)] env)) [])
  dc : ∃ cd, clsIn K D = some cd
  top : (P.main.scope.names.lookup ("super" : Str)).isSome = false
  any : nsIn K cStatics "thirdparty.any" = some none
  ty : typeIn K (.ref fI) = some (.type "function")
/-- .. of a class C below it -/
structure Sub (K : Frag) (C D fI : Addr) : Prop where
  ox : L2.OexC K C
  xf : L2.XfC K C
  noN : findIn K (.ref C) "value" = some none
  iC : findIn K (.ref C) "__init__" = some (some (.ref fI))
  below : mroIn K C (.ref D) = some true
  sup : ks_superIn K C D "__init__" = some (some (.builtin "ValueError.__init__"))
  ve : subIn K (.ref C) (.type "ValueError") = some true
structure Glb (mg : Str → Option Value) (h : Heap) : Prop where
  g : h.Ns mainGlobals mg
  b : ∃ mb, h.Ns builtinsNs mb ∧ ∀ x : Str, x ≠ "__name__" → mb x = bootBuiltins x
theorem Glb.keeps {mg : Str → Option Value} {h h' : Heap} (G : Glb mg h) (k : ∀ b o, h.get? b = some o → h'.get? b = some o) : Glb mg h' :=
  ⟨G.g.keeps k, let ⟨mb, a, b⟩ := G.b; ⟨mb, a.keeps k, b⟩⟩
/-- what is made: the error at e, its dict at d -/
structure Made (h h' : Heap) (e C d : Addr) (v : Value) : Prop where
  keep : ∀ b o, h.get? b = some o → h'.get? b = some o
  new : h.objs.size ≤ e
  obj : ∃ oe vs, h'.get? e = some oe ∧ oe.cls = .ref C ∧ oe.dict = some d ∧ oe.data = .fields vs ∧ vs[1]? = some .none
  dbig : h.objs.size ≤ d
  dne : d ≠ e
  ns : h'.Ns1 d (fun y => if y = "value" then some v else none)
section
variable {prog : Program} {w : World} {A : Around} {E : Value → Shared → Prop} {R : Result → Shared → Prop} {s : Shared} {K : Frag} {mg : Str → Option Value} {C D fI : Addr}
/-- ValueError.__init__ bound to the error, called -/
theorem call_mw {nm q : Str} {N : Addr} {bs bm : List Value} {hdct : Bool} {sn : List Str} {sub : List Value} {ab : Bool} {col : Option Bool} {dd : Option Addr} {k0 k1 k2 k3 k5 : Option Value} {u e t0 : Addr} {rest : List Value} {Q : Value → Shared → Prop}
    (hC : s.heap.get? C = some (excClassObj nm q C N bs bm hdct sn sub ab col dd k0 k1 k2 k3 k5 "ValueError.__new__")) (he : s.heap.get? e = some (excO C t0)) (hu : s.heap.get? u = some (kxs_mw "ValueError.__init__" e)) (hz : rest.length ≤ sizeLine)
    (fin : ∀ h' t1, (∀ b o, b ≠ e → s.heap.get? b = some o → h'.get? b = some o) → h'.get? e = some (excO C t1) → Q .none { s with heap := h' }) :
    wpAny (model prog w) A (call (.ref u) rest) Q E s := by
  obtain ⟨hh, g, d, tk, os⟩ := s
  have FB := F.excBase_ValueError
  refine wpAny_call (codeAny_of_tree (?_ : wpAny _ A.in1 (callAny (.ref u) ⟨rest, []⟩) _ _ _))
  rw [callAny]
  refine wpAny_bind (wpAny_load hu ?_)
  have tt : (Value.type "method-wrapper" == Value.type "method" || Value.type "method-wrapper" == Value.type "builtin_function_or_method" || Value.type "method-wrapper" == Value.type "method-wrapper") = true := by decide
  simp only [tt, if_true]
  refine KFB.if_so (by decide) (wpAny_bind (check_bound_init FB.toExcCallFacts hC he rfl (wpAny_bind (wpAny_pure (wpAny_pure ?_)))))
  refine ⟨plainId_quiet FB.init.plain _, codeAny_builtin FB.initEntry ?_⟩
  exact exc_init_tree (cls := .ref C) (t0 := t0) (dv := none) (c2 := .none) (c3 := .none) (b4 := .bool false) he hz fun h' k x _ => fin h' _ k x

theorem err_init (B : Bse prog K D fI) (T : Sub K C D fI) {x t0 : Addr} {v : Value} (X : K.In s.heap) (G : Glb mg s.heap) (hsup : mg "super" = none) (hlim : s.heap.NoLimit) (hx : s.heap.get? x = some (excO C t0)) (hnx : K.lookup x = none) (hroom : A.depth < recursionLimit)
    (hq : ∀ h' tk dx t1, (∀ b o, b ≠ x → s.heap.get? b = some o → h'.get? b = some o) → h'.get? x = some { cls := .ref C, dict := some dx, data := .fields #[.ref t1, .none, .none, .none, .bool false, .none] } → s.heap.objs.size ≤ dx → dx ≠ x →
      h'.Ns1 dx (fun y => if y = "value" then some v else none) → R (.ok (.ret .none)) { s with heap := h', toks := tk }) :
    codeAny (model prog w) A (.call (.ref fI) ⟨[.ref x, v], []⟩) R s := by
  obtain ⟨oc, kV, doc, pm, ct, ccl, cl, od, an, cdd, cld, cda, cc, osl, ccs, csl, vs, file, tf, p1, p2, wd, ix, q, ho, hcd, hco, hvs, hfile, hcell, hev⟩ := B.fn
  obtain ⟨cdD, hD⟩ := B.dc
  obtain ⟨nm, qn, N, bs, bm, sn, sub, ab, col, dd, k0, k1, k2, k3, k5, hC, hbm⟩ := T.ox.cls
  have hcl : clsIn K C = some { name := nm, bases := bs, mro := .ref C :: bm, ns := N, qualname := qn, hasDict := true, slotNames := sn, subclasses := sub, abstract := ab, collection := col, hasDel := false } := by unfold clsIn; rw [hC] <;> rfl
  refine ks_codeAny_call_defAt (fd := ksFn "__init__" "WindowError.__init__" (eA p1 p2) (eB wd ix q) eS .none kV doc pm an (.ref cda) ct cc) (body := eB wd ix q) (binds := [("self", .ref x), ("value", v)]) hroom (X _ _ ho) rfl hlim (codeRec_of X hcd) rfl (BindsTo.of_eq (by first | rfl | with_unfolding_all rfl)) (show ∀ y ∈ eS.names, y.2 ≠ .cell by decide) (locs rfl) (fun h₁ hns k => ?_) rfl rfl rfl
  have hxL : s.heap.objs.size ≠ x := Nat.ne_of_gt (Heap.lt_size hx)
  have X₁ : K.In h₁ := X.keeps k
  have hx₁ := k _ _ hx
  have G₁ := G.keeps k
  obtain ⟨mb, hmb, hmb2⟩ := G₁.b
  have hn : h₁.Ns s.heap.objs.size (fun y => ([("self", .ref x), ("value", v)] : List (Str × Value)).reverse.lookup y) := hns
  obtain ⟨oD, hD1, hD2⟩ : ∃ oD, h₁.get? D = some oD ∧ oD.data = .cls cdD := by
    unfold clsIn at hD
    split at hD
    · rename_i c d cd' sl ho
      cases hD
      exact ⟨_, X₁ _ _ ho, rfl⟩
    · cases hD
  have I : InstAt h₁ x (excO C t0) C none := ⟨hx₁, rfl, rfl, trivial⟩
  obtain ⟨h0, g, dr, tk, os⟩ := s
  show _root_.PySem.wpAt (model prog w) (A.deeper (ksEnv "WindowError.__init__" eS h0.objs.size fI (.ref cda) cc)) (.func (eB wd ix q) (ksEnv "WindowError.__init__" eS h0.objs.size fI (.ref cda) cc)) (execs (eB wd ix q) (ksEnv "WindowError.__init__" eS h0.objs.size fI (.ref cda) cc)) _ _ _
  obtain ⟨pl, hpl⟩ := hev (ksEnv "WindowError.__init__" eS h0.objs.size fI (.ref cda) cc)
  refine ks_wpAt_execs_cons (ks_wpAt_Expr_any (ks_wpAt_MethodCall (pl := pl) ?_ hpl))
  refine ks_wpAt_super_base (env := ksEnv "WindowError.__init__" eS h0.objs.size fI (.ref cda) cc) rfl rfl (by decide) rfl (X₁ _ _ ho) rfl rfl rfl (X₁ _ _ hco) rfl hvs hfile B.top ?_
  refine ks_loadName_global rfl rfl (loadGlobal_builtin (env := ksEnv "WindowError.__init__" eS h0.objs.size fI (.ref cda) cc) G₁.g hsup hmb ((hmb2 _ (by decide)).trans (by first | boot_by_name | rfl | kernel_rfl)) ⟨rfl, ?_⟩)
  refine wpAny_loadName_free rfl rfl rfl ⟨_, X₁ _ _ hcell, rfl⟩ ?_
  refine wpAny_loadName_local rfl rfl hn (show _ = some (.ref x) from rfl) ?_
  refine ks_wpAny_isType_cls hD1 hD2 ⟨rfl, ?_⟩
  refine ks_wpAny_call_super hD1 hD2 hx₁ rfl (fun c e => ?_) (looks_mroIn X₁ T.below) (fun h2 e2 k2 => ?_)
  · cases e
  have X₂ : K.In h2 := X₁.keeps k2
  refine kxs_getMethod kxs_ValueError e2 (looks_opaque X₂ B.any) (l₀ := .ref C :: bm) ((looks_clsIn X₂ hcl).andThen .now) rfl X₂ ?_ ?_ ?_ (by decide) ?_
  · have z := T.sup
    unfold ks_superIn at z
    rw [hcl] at z
    exact z
  · exact (I.type (M := model prog w)).keeps k2 |>.andThen (looks_subIn X₂ T.ve)
  · have I2 : InstAt h2 x (excO C t0) C none := ⟨k2 _ _ hx₁, rfl, rfl, trivial⟩
    exact ks_ne X₂ I2 hcl
  refine kxs_callWith (i := "ValueError.__init__") (x := x) rfl (evalArgs_plain ?_)
  refine Calls.spliced_cons (Calls.Constant_str (k := ix) (pos := q 3) (Calls.spliced_nil ⟨?_, ?_⟩))
  · exact Heap.get?_push_size _ rfl
  refine call_mw (C := C) (t0 := t0) (X₂.keeps (fun b o e => Heap.get?_push_of_some _ e) _ _ hC) (Heap.get?_push_of_some _ (k2 _ _ hx₁)) (Heap.get?_push_size _ rfl) (by rw [sizeLine_eq]; exact (by decide : 1 ≤ 16777216)) fun h3 t1 k3 e3 => ?_
  have up : ∀ b o, b ≠ x → h₁.get? b = some o → h3.get? b = some o := fun b o hb e => k3 b o hb (Heap.get?_push_of_some _ (k2 b o e))
  have X₃ : K.In h3 := fun b o e => up b o (fun z => by rw [z, hnx] at e; cases e) (X₁ b o e)
  have hn3 : h3.Ns h0.objs.size (fun y => ([("self", .ref x), ("value", v)] : List (Str × Value)).reverse.lookup y) := by
    obtain ⟨o, es, ep, e, r⟩ := hn
    exact ⟨o, es, ep, up _ _ hxL e, r⟩
  refine ks_wpAt_execs_cons (wpAt_of_wpAny (plainObj_wpAny_Assign_Attribute ?_))
  refine wpAny_Name (wpAny_loadName_local rfl rfl hn3 (show _ = some v from rfl) ?_) (by decide)
  refine wpAny_Name (wpAny_loadName_local rfl rfl hn3 (show _ = some (.ref x) from rfl) ?_) (by decide)
  refine set_plain X₃ (ox := excO C t1) (od := none) ⟨e3, rfl, rfl, trivial⟩ T.ox.sa ?_
  refine exc_osa X₃ e3 hcl (show refsVE (.ref C :: bm) = true from hbm) rfl T.noN (fun h4 tk4 dx k4 dn dne hx4 hn4 => ?_)
  have z : h0.objs.size < h3.objs.size := hn3.lt
  exact wpAt_of_wpAny (wpAny_execs_nil (hq h4 tk4 dx t1 (fun b o hb e => k4 b o hb (up b o hb (k b o e))) hx4 (Nat.le_of_lt (Nat.lt_of_lt_of_le z dn)) dne hn4))
theorem err_made (B : Bse prog K D fI) (T : Sub K C D fI) {v : Value} (X : K.In s.heap) (G : Glb mg s.heap) (hsup : mg "super" = none) (hlim : s.heap.NoLimit) (hroom : A.depth + 1 < recursionLimit)
    (hq : ∀ h' tk e d, Made s.heap h' e C d v → R (.ok (.ret (.ref e))) { s with heap := h', toks := tk }) :
    codeAny (model prog w) A (.call (.ref C) ⟨[v], []⟩) R s := by
  obtain ⟨nm, q, N, bs, bm, sn, sub, ab, col, dd, k0, k1, k2, k3, k5, hC, hbm⟩ := T.ox.cls
  obtain ⟨hp, g, dr, tk, os⟩ := s
  have up : ∀ b o, hp.get? b = some o → ((hp.push (kdv_tup [v])).push (excO C hp.objs.size)).get? b = some o := fun b o e => Heap.get?_push_of_some _ (Heap.get?_push_of_some _ e)
  have hx : ((hp.push (kdv_tup [v])).push (excO C hp.objs.size)).get? (hp.objs.size + 1) = some (excO C hp.objs.size) := by heap_get
  have hnx : K.lookup (hp.objs.size + 1) = none := by
    cases e : K.lookup (hp.objs.size + 1) with
    | none => rfl
    | some o =>
      have z := Heap.lt_size (X _ _ e)
      exact absurd (Nat.lt_of_succ_lt z) (Nat.lt_irrefl _)
  refine call_own F.excBase_ValueError (fun Y => refsVE_contains Y bm hbm) (X _ _ hC) (looks_findIn X T.iC) (fun self => bind_fn X self B.ty) (by rw [sizeLine_eq]; exact (by decide : 1 ≤ 16777216)) ?_
  refine err_init (s := ⟨(hp.push (kdv_tup [v])).push (excO C hp.objs.size), g, dr, tk, os⟩) B T (X.keeps up) (G.keeps up) hsup (hlim.keeps up) hx hnx (show A.depth + 1 < recursionLimit from hroom) fun h' tk' dx t1 k' ex dn dne hns => ?_
  have old : ∀ b o, hp.get? b = some o → h'.get? b = some o := fun b o e => k' b o (Nat.ne_of_lt (Nat.lt_succ_of_lt (Heap.lt_size e))) (up b o e)
  have z : hp.objs.size + 1 + 1 ≤ dx := by simpa only [Heap.size_push] using dn
  exact ⟨rfl, hq h' tk' _ dx ⟨old, Nat.le_succ _, ⟨_, _, ex, rfl, rfl, rfl, rfl⟩, (show hp.objs.size ≤ dx by omega), dne, hns⟩⟩
end
end OwnErr
end PySem
namespace L2
open PySem PySem.Spec PyProof.Rows
theorem relO_value {v : V} {u : Value} (r : RelV v u) (f : Str) : RelO (List.lookup f [(("value" : Str), v)]) (if f = "value" then some u else none) := by
  by_cases e : f = "value"
  · subst e
    rw [if_pos rfl, show List.lookup ("value" : Str) [(("value" : Str), v)] = some v from by simp [List.lookup]]
    exact r
  · have q : (f == ("value" : Str)) = false := by simpa using e
    rw [if_neg e, show List.lookup f [(("value" : Str), v)] = none from by simp [List.lookup, q]]
    trivial
/-- C(e): its class and a new dict with the field value -/
def tMkErr (C : Addr) (ta : TA) : St → Hp → XK → Prop := fun σ H Q => ta σ H fun vs H1 => ∃ v, vs = [v] ∧ ∀ d, H1 d = none → Q (.ref C) (some d) (upd H1 d (.xd [(("value" : Str), v)]))
/-- a class of errors, as the text's top leaves it -/
structure Err (P : Program) (K : PySem.W.Frag) (mg : Str → Option Value) (x : Str) (C : Addr) : Prop where
  ex : ∃ D fI : Addr, PySem.OwnErr.Bse P K D fI ∧ PySem.OwnErr.Sub K C D fI
  gC : mg x = some (.ref C)
  sup : mg "super" = none
theorem pmk_err {X : Cx} {C : Addr} {x : Str} {a : Expr} {ta : TA} {p pos : Pos} {k : Nat} (T : Err X.prog X.K X.mg x C) (hr : Room k X.A) (ha : PA X [a] ta) (hg : Gl X x := by rfl) (hdb : (x == ("__debug__" : Str)) = false := by decide)
    (he : starEach (a :: []) X.env = (false, eval a X.env) :: starEach [] X.env := by rfl) (hpl : (backTo pos (starEach [] X.env)).any (·.1) = false := by rfl) :
    PMk X (.Call (.Name x p) [a] [] pos) (tMkErr C ta) := by
  obtain ⟨D, fI, B, S⟩ := T.ex
  intro pins s σ H Q I h
  refine wpAny_Call_Name_kw (ld_glob I hg T.gC ?_ hdb)
  refine PySem.W.callWith_K (h₀ := X.base) I.ok.mod.kin S.ox.kC (thn (ha.run pos pins s σ H _ I h) fun us s1 ⟨vs, H1, I1, r1, v, ev, q1⟩ => ⟨I1.kIn, ?_⟩) he hpl
  subst ev
  cases r1 with
  | @cons _ v' _ us' rv rn =>
    cases rn
    show wpAny _ _ (call (.ref C) [v']) _ _ _
    have G : PySem.OwnErr.Glb X.mg s1.heap := ⟨I1.mod.glob.keeps I1.bk, let ⟨mb, a, b⟩ := I1.mod.blt; ⟨mb, a.keeps I1.bk, b⟩⟩
    have hlim := I1.nolimit
    obtain ⟨hp, g, dr, tk, os⟩ := s1
    refine wpAny_call (PySem.OwnErr.err_made B S I1.kIn G T.sup hlim (by have := hr.dp; omega) fun h' tk' e d M => ?_)
    show MkP X pins σ Q (.ref e) ⟨h', g, dr, tk', os⟩
    obtain ⟨oe, fv, hoe, hc, hd, hdat, h1⟩ := M.obj
    obtain ⟨G', g1, g2⟩ := restrict h' fun b => decide (b ≠ e)
    have gk : ∀ b, b ≠ e → G'.get? b = h'.get? b := fun b hb => g1 b (decide_eq_true hb)
    have ge : G'.get? e = none := g2 e (by simp)
    have J : Inv X pins σ (upd H1 d (.xd [(("value" : Str), v)])) ⟨G', g, dr, tk', os⟩ :=
      I1.laid (t' := tk') (fun b o q => (gk b (Nat.ne_of_lt (Nat.lt_of_lt_of_le (Heap.lt_size q) M.new))).trans (M.keep b o q)) M.dbig ⟨_, M.ns.at (fun o q => (gk d M.dne).trans q), fun f => relO_value rv f⟩
    have sub : ∀ b o, G'.get? b = some o → h'.get? b = some o := fun b o q => by
      by_cases hb : b = e
      · rw [hb, ge] at q
        cases q
      · exact (gk b hb).symm.trans q
    have ne : (upd H1 d (.xd [(("value" : Str), v)])) e = none := (upd_ne (Ne.symm M.dne)).trans (I1.hok.fresh M.new)
    exact ⟨e, oe, fv, ⟨G', g, dr, tk', os⟩, _, .ref C, some d, rfl, J, sub, ge, hoe, ⟨hc, hd⟩, hdat, h1, ne, rfl, I1.bare, raises_own S.ox.exC S.ox.tyC, q1 d (I1.hok.fresh M.dbig)⟩
end L2

/-! Pd8: defs that raise, try. An error's dict stands as a cell of its own. -/
namespace Pd
open PySem L2
open Evl (Ex)
open PyProof.Rows
variable {K : PySem.W.Frag}
/-! ### an error's dict goes out of sight: values do not hang on it -/
def ExL (H H' : Hp) : Prop := ∀ a o, H a = some o → (∀ fs, o ≠ .xd fs) → H' a = some o
theorem rdL {H H' : Hp} {a : Addr} {o : HO} (e : ExL H H') (ho : ∀ fs, o ≠ .xd fs) (h : Rd H a o) : Rd H' a o := by
  rcases h with h | ⟨o', h⟩
  · exact .inl (e _ _ h ho)
  · exact .inr ⟨o', e _ _ h fun fs z => by cases z⟩
theorem lstL {H H' : Hp} {a : Addr} {xs : List V} (e : ExL H H') (h : SqL K H a xs) : SqL K H' a xs := by
  rcases h with h | h
  · exact .inl (rdL e (fun fs z => by cases z) h)
  · exact .inr h
theorem tupL {H H' : Hp} {a : Addr} {xs : List V} (e : ExL H H') (h : SqT K H a xs) : SqT K H' a xs := by
  rcases h with h | h
  · exact .inl (rdL e (fun fs z => by cases z) h)
  · exact .inr h
mutual
theorem dqL {H H' : Hp} (e : ExL H H') : ∀ {v : V} {d : PyData}, DQ K H v d → DQ K H' v d
  | _, _, .non => .non
  | _, _, .bl b => .bl b
  | _, _, .int i => .int i
  | _, _, .str x => .str x
  | _, _, .lst h1 h2 => .lst (e _ _ h1 fun fs z => by cases z) (dqsL e h2)
  | _, _, .tup h1 h2 => .tup (tupL e h1) (dqsL e h2)
theorem dqsL {H H' : Hp} (e : ExL H H') : ∀ {vs : List V} {ds : List PyData}, DQs K H vs ds → DQs K H' vs ds
  | _, _, .nil => .nil
  | _, _, .cons h1 h2 => .cons (dqL e h1) (dqsL e h2)
end
mutual
theorem vrL {H H' : Hp} {M M' : List Addr} (e : ExL H H') (p : Pre M M') : ∀ {v : V} {w : W}, VR K H M v w → VR K H' M' v w
  | _, _, .d h => .d (dqL e h)
  | _, _, .m h => .m (p _ _ h)
  | _, _, .t h1 h2 => .t (tupL e h1) (vrsL e p h2)
  | _, _, .f h1 h2 => .f (lstL e h1) (vrsL e p h2)
  | _, _, .k v => .k v
theorem vrsL {H H' : Hp} {M M' : List Addr} (e : ExL H H') (p : Pre M M') : ∀ {vs : List V} {ws : List W}, VRs K H M vs ws → VRs K H' M' vs ws
  | _, _, .nil => .nil
  | _, _, .cons h1 h2 => .cons (vrL e p h1) (vrsL e p h2)
end
section
variable {A : Addr → Prop} {M : List Addr} {H : Hp} {μ : Mu} {d : Addr} {v : V} {w : W}
theorem hideL (hl : M.length = μ.length) (hv : vw A M μ H d = some (.xd [(("value" : PySem.Str), v)])) : ExL (vw A M μ H) (vw A (M ++ [d]) (μ ++ [some (.xd d w)]) H) := fun a o h ho => by
  obtain ⟨h1, h2⟩ := vw_some h
  refine vw_of (fun z => ?_) h2
  rcases (hid_new hl).mp z with z | z
  · exact h1 z
  · subst z
    rw [hv] at h
    exact ho _ (Option.some.inj h).symm
/-- the error's dict becomes a cell -/
theorem MOk.hide (mo : MOk K A M H μ) (nm : d ∉ M) (hv : vw A M μ H d = some (.xd [(("value" : PySem.Str), v)])) (r : VR K (vw A M μ H) M v w) : MOk K A (M ++ [d]) H (μ ++ [some (.xd d w)]) := by
  obtain ⟨nh, hd⟩ := vw_some hv
  have e := hideL (w := w) mo.len hv
  refine ⟨by simp [mo.len], ?_, fun a m => ?_, fun a m => ?_, mo.aA, fun j b c h1 h2 => ?_⟩
  · rw [List.nodup_append]
    refine ⟨mo.nd, by simp, fun a m b mb z => ?_⟩
    have : b = d := by simpa using mb
    subst this
    subst z
    exact nm m
  · rcases List.mem_append.mp m with m | m
    · exact mo.nA a m
    · have : a = d := by simpa using m
      subst this
      exact fun z => nh (.inl z)
  · rcases List.mem_append.mp m with m | m
    · exact mo.al a m
    · have : a = d := by simpa using m
      subst this
      rw [hd]
      intro z
      cases z
  · by_cases hj : j < M.length
    · rw [List.getElem?_append_left hj] at h1
      rw [List.getElem?_append_left (by have := mo.len; omega)] at h2
      obtain ⟨u, q1, q2⟩ := mo.ct j b c h1 h2
      refine ⟨u, q1, ?_⟩
      cases c with
      | lst ws =>
        obtain ⟨vs, g1, g2⟩ := q2
        exact ⟨vs, g1, vrsL e pre_snoc g2⟩
      | xd d' w' =>
        obtain ⟨g0, v', g1, g2⟩ := q2
        exact ⟨g0, v', g1, vrL e pre_snoc g2⟩
    · have hj2 : j = M.length := by
        have := (List.getElem?_eq_some_iff.mp h1).1
        simp at this
        omega
      subst hj2
      rw [List.getElem?_append_right (Nat.le_refl _)] at h1
      rw [mo.len, List.getElem?_append_right (Nat.le_refl _)] at h2
      simp at h1 h2
      subst h1 h2
      exact ⟨_, hd, rfl, v, rfl, vrL e pre_snoc r⟩
end
/-- an error's value, the cells (its own dict's last): as data; the cells that were there (μ) come to μ' -/
def FzX (μ : Mu) (x : PySem.Str) (w : W) (μ1 : Mu) (S : PySem.Str → W → Mu → Prop) : Prop := ∃ μ' cs d, μ1 = μ' ++ cs ∧ μ'.length = μ.length ∧ Keeps μ μ' ∧ Rn μ.length μ1 w d ∧ S x (.d d) μ'
mutual
theorem Rn.app {n : Nat} {μ ν : Mu} : ∀ {w : W} {x : PyData}, Rn n μ w x → Rn n (μ ++ ν) w x
  | _, _, .d x => .d x
  | _, _, .m a b c => .m a (mu_app b) (Rns.app c)
  | _, _, .t a => .t (Rns.app a)
theorem Rns.app {n : Nat} {μ ν : Mu} : ∀ {ws : List W} {xs : List PyData}, Rns n μ ws xs → Rns n (μ ++ ν) ws xs
  | _, _, .nil => .nil
  | _, _, .cons a b => .cons (Rn.app a) (Rns.app b)
end
theorem last_get {M : List Addr} {d : Addr} {μ : Mu} (h : (M ++ [d]).length = μ.length + 1) : (M ++ [d])[μ.length]? = some d := by
  have : M.length = μ.length := by simpa using h
  rw [← this, List.getElem?_append_right (Nat.le_refl _)]
  simp
theorem fzx_core {A : Addr → Prop} {M M1 : List Addr} {H H1 : Hp} {μ μ1 : Mu} {d : Addr} {w : W} {x : PySem.Str} {S : PySem.Str → W → Mu → Prop} (mo0 : MOk K A M H μ) (mo1 : MOk K A (M1 ++ [d]) H1 (μ1 ++ [some (.xd d w)])) (e : Eff A M μ H (M1 ++ [d]) (μ1 ++ [some (.xd d w)]) H1) (hz : FzX μ x w μ1 S) :
    ∃ M2 μ2 u, MOk K A (M2 ++ [d]) H1 (μ2 ++ [some (.xd d u)]) ∧ Eff A M μ H (M2 ++ [d]) (μ2 ++ [some (.xd d u)]) H1 ∧ S x u μ2 := by
  obtain ⟨μ', cs, dt, h1, hl, hk, hr, hS⟩ := hz
  have hlen : (M1 ++ [d]).length = μ1.length + 1 := by rw [mo1.len]; simp
  obtain ⟨o, ho, _, v, hv, rv⟩ := mo1.ct μ1.length d (.xd d w) (last_get hlen) (by rw [List.getElem?_append_right (Nat.le_refl _)]; simp)
  subst hv
  have h1' : μ1 ++ [some (.xd d w)] = μ' ++ (cs ++ [some (.xd d w)]) := by rw [h1, List.append_assoc]
  obtain ⟨M2, mo2, e2, r2, hM2⟩ := fz_core mo0 mo1 e h1' hl hk rv hr.app
  have hle : μ.length ≤ μ1.length := by rw [h1, List.length_append]; omega
  have hM1 : M1.length = μ1.length := by simpa using hlen
  have nm : d ∉ M2 := fun m => by
    rw [hM2, List.take_append_of_le_length (by omega)] at m
    have := mo1.nd
    rw [List.nodup_append] at this
    exact this.2.2 d (List.mem_of_mem_take m) d (by simp) rfl
  have hvis : vw A M2 μ' H1 d = some (.xd [(("value" : PySem.Str), v)]) := vw_of (fun z => by
    rcases z with z | ⟨k, c, q1, _⟩
    · exact mo1.nA d (by simp) z
    · exact nm (List.mem_of_getElem? q1)) ho
  refine ⟨M2, μ', .d dt, mo2.hide nm hvis r2, ⟨e2.pre.trans pre_snoc, e2.own, fun a o' q => ?_⟩, hS⟩
  obtain ⟨n1, q1⟩ := vw_some (e2.ex a o' q)
  refine vw_of (fun z => ?_) q1
  rcases (hid_new mo2.len).mp z with z | z
  · exact n1 z
  · subst z
    have z2 := (vw_some (e.ex a o' q)).1
    exact z2 (.inr ⟨μ1.length, .xd a w, last_get hlen, by rw [List.getElem?_append_right (Nat.le_refl _)]; simp⟩)
/-! ### defs that raise: by values -/
abbrev FX := List W → Mu → (W → Mu → Prop) → (PySem.Str → W → Mu → Prop) → Prop
def spX (K : PySem.W.Frag) (F : FX) : Sp := fun vs H Q E => ∃ (A : Addr → Prop) (M : List Addr) (μ : Mu) (ws : List W) (R : W → Mu → Prop) (S : PySem.Str → W → Mu → Prop), MOk K A M H μ ∧ VRs K (vw A M μ H) M vs ws ∧ F ws μ R S ∧
  (∀ M' H' v w μ', MOk K A M' H' μ' → Eff A M μ H M' μ' H' → VR K (vw A M' μ' H') M' v w → R w μ' → Q v H') ∧
  (∀ M' H' x a d w μ', clA K x a → MOk K A (M' ++ [d]) H' (μ' ++ [some (.xd d w)]) → Eff A M μ H (M' ++ [d]) (μ' ++ [some (.xd d w)]) H' → S x w μ' → E (.ref a) (some d) H')
abbrev NoX : PySem.Str → W → Mu → Prop := fun _ _ _ => False
/-- an expression that may raise -/
def AXx (K : PySem.W.Frag) (xw : L2.WX) (xc : PySem.Str → W → G → Mu → Prop) (te : TE) (Γ : G) (μ : Mu) (R : W → Mu → Prop) : Prop := ∀ (A : Addr → Prop) (M : List Addr) (σ : L2.St) (H : Hp), Cn K A M σ H Γ μ → XW K A M μ H xw xc → ∀ Q : VK,
  (∀ M' H' v w μ', MOk K A M' H' μ' → Eff A M μ H M' μ' H' → VR K (vw A M' μ' H') M' v w → R w μ' → Q v H') → te σ H Q
section
variable {Γ : G} {μ : Mu} {R : W → Mu → Prop} {ta tk : TA} {te : TE} {D : AEn} {xw : L2.WX} {xc : PySem.Str → W → G → Mu → Prop}
theorem axx_of (h : AX K te Γ μ R) : AXx K xw xc te Γ μ R := fun A M σ H c _ Q q => h A M σ H c Q q
/-- called where it does not raise -/
theorem ax_callX {F : FX} {E : XK} (h : AXA K ta Γ μ fun ws μ1 => F ws μ1 R NoX) : AX K (tCall (spX K F) [] E ta) Γ μ R := fun A M σ H c Q q =>
  h A M σ H c _ fun M1 H1 vs ws μ1 mo1 e1 r1 h1 => by
    show spX K F (vs ++ []) H1 Q E
    rw [List.append_nil]
    exact ⟨A, M1, μ1, ws, R, NoX, mo1, r1, h1, fun M' H' v w μ' mo' e' r' hR => q M' H' v w μ' mo' (e1.trans e') r' hR, fun _ _ _ _ _ _ _ _ _ _ z => z.elim⟩
theorem ax_callXN {F : FX} {E : XK} {n m : Nat} {ix : List Nat} (h : AXA K ta Γ μ fun ws μ1 => ws.length = n ∧ AXA K tk Γ μ1 fun us μ2 => us.length = m ∧ F (perm ix (ws ++ us)) μ2 R NoX) : AX K (tCallN n m (spX K F) (fun vs zs => perm ix (vs ++ zs)) E ta tk) Γ μ R := fun A M σ H c Q q =>
  h A M σ H c _ fun M1 H1 vs ws μ1 mo1 e1 r1 ⟨l1, h1⟩ => h1 A M1 σ H1 (c.eff e1 mo1) _ fun M2 H2 zs us μ2 mo2 e2 r2 ⟨l2, h2⟩ =>
    ⟨r1.length.trans l1, r2.length.trans l2, A, M2, μ2, _, R, NoX, mo2, vrs_perm ((r1.mono e2.ex e2.pre).append r2) ix, h2, fun M' H' v w μ' mo' e' r' hR => q M' H' v w μ' mo' ((e1.trans e2).trans e') r' hR, fun _ _ _ _ _ _ _ _ _ _ z => z.elim⟩
/-- called where it may raise -/
theorem axx_call {F : FX} (h : AXA K ta Γ μ fun ws μ1 => F ws μ1 R fun x w μ2 => xc x w Γ μ2) : AXx K xw xc (tCallS (spX K F) (WE xw) ta) Γ μ R := fun A M σ H c x Q q =>
  h A M σ H c _ fun M1 H1 vs ws μ1 mo1 e1 r1 h1 =>
    ⟨A, M1, μ1, ws, R, _, mo1, r1, h1, fun M' H' v w μ' mo' e' r' hR => q M' H' v w μ' mo' (e1.trans e') r' hR, fun M' H' n a d w μ' hc mo' e' hS => x M' σ H' Γ n a d w μ' hc (c.eff (e1.trans e') mo') (e1.trans e') hS⟩
theorem as_asgX {g : TG} (h : AXx K D.xw D.xc te Γ μ fun w μ1 => AG K g w Γ μ1 D.nx) : AS K (tAsg te g) D Γ μ := fun A M σ H cn E hd =>
  h A M σ H cn hd.xx _ fun M1 H1 v w μ1 mo1 e1 r1 h1 => h1 A M1 σ H1 v (cn.eff e1 mo1) r1 _ fun M2 σ2 H2 Γ2 μ2 c2 e2 h2 => hd.nx M2 σ2 H2 Γ2 μ2 c2 (e1.trans e2) h2
theorem as_dropX (h : AXx K D.xw D.xc te Γ μ fun _ μ1 => D.nx Γ μ1) : AS K (tDrop te) D Γ μ := fun A M σ H cn E hd =>
  h A M σ H cn hd.xx _ fun M1 H1 v w μ1 mo1 e1 r1 h1 => hd.nx M1 σ H1 Γ μ1 (cn.eff e1 mo1) e1 h1
theorem as_retX (h : AXx K D.xw D.xc te Γ μ D.rt) : AS K (tRet te) D Γ μ := fun A M σ H cn E hd => h A M σ H cn hd.xx _ fun M1 H1 v w μ1 mo1 e1 r1 h1 => hd.rt M1 H1 v w μ1 mo1 e1 r1 h1
/-- raise x(e) -/
def tRaiseE (K : PySem.W.Frag) (x : PySem.Str) (xw : L2.WX) (ta : TA) : TS := fun _ σ H => ∀ C, clA K x C → tMkErr C ta σ H fun cls d H' => xw cls d σ H'
theorem as_raise {x : PySem.Str} (h : AXA K ta Γ μ fun ws μ1 => ∃ w, ws = [w] ∧ D.xc x w Γ μ1) : AS K (tRaiseE K x D.xw ta) D Γ μ := fun A M σ H cn E hd C hC =>
  h A M σ H cn _ fun M1 H1 vs ws μ1 mo1 e1 r1 ⟨w, ew, hx⟩ => by
    subst ew
    cases r1 with
    | @cons v _ vs' _ rv rn =>
      cases rn
      refine ⟨v, rfl, fun d hd0 => ?_⟩
      have mo2 : MOk K A (M1 ++ [d]) (upd H1 d (.xd [(("value" : PySem.Str), v)])) (μ1 ++ [some (.xd d w)]) := mo1.new hd0 ⟨rfl, v, rfl, rv⟩
      have e2 : Eff A M1 μ1 H1 (M1 ++ [d]) (μ1 ++ [some (.xd d w)]) (upd H1 d (.xd [(("value" : PySem.Str), v)])) := Eff.new mo1 hd0
      exact hd.xx M1 σ _ Γ x C d w μ1 hC (cn.eff (e1.trans e2) mo2) (e1.trans e2) hx
/-- a def that raises: its own cells are left behind -/
theorem as_fzX {t : TS} {xk : L2.XK} {S : PySem.Str → W → Mu → Prop} (h : AS K t { nx := fun _ μ1 => Fz μ (.d .none) μ1 R, rt := fun w μ1 => Fz μ w μ1 R, xw := fun c d _ H => xk c d H, xc := fun x w _ μ1 => FzX μ x w μ1 S } Γ μ) :
    AS K t { nx := fun _ μ1 => R (.d .none) μ1, rt := R, xw := fun c d _ H => xk c d H, xc := fun x w _ μ1 => S x w μ1 } Γ μ := fun A M σ H c E hE => by
  refine h A M σ H c E ⟨fun M1 σ1 H1 Γ1 μ1 c1 e1 ⟨μ', cs, d, a1, a2, a3, a4, hR⟩ => ?_, fun M1 H1 v w μ1 mo1 e1 r1 ⟨μ', cs, d, a1, a2, a3, a4, hR⟩ => ?_, fun M1 σ1 H1 Γ1 μ1 c1 e1 z => z.elim, fun M1 σ1 H1 Γ1 μ1 c1 e1 z => z.elim, fun M1 σ1 H1 Γ1 x a d w μ1 hc c1 e1 hz => ?_⟩
  · have a4' : Rn μ.length μ1 (.d .none) d := a4
    cases a4'
    obtain ⟨M2, mo2, e2, r2, _⟩ := fz_core c.mo c1.mo e1 a1 a2 a3 (.d .non : VR K (vw A M1 μ1 H1) M1 .non (.d .none)) (.d .none)
    refine hE.nx M2 σ1 H1 (List.replicate σ1.length none) μ' ⟨mo2, by simp, fun i w hw => ?_⟩ e2 hR
    rw [List.getElem?_replicate] at hw
    split at hw <;> cases hw
  · obtain ⟨M2, mo2, e2, r2, _⟩ := fz_core c.mo mo1 e1 a1 a2 a3 r1 a4
    exact hE.rt M2 H1 v _ μ' mo2 e2 r2 hR
  · obtain ⟨M2, μ2, u, mo2, e2, hS⟩ := fzx_core c.mo c1.mo e1 hz
    refine hE.xx M2 σ1 H1 (List.replicate σ1.length none) x a d u μ2 hc ⟨mo2, by simp, fun i w hw => ?_⟩ e2 hS
    rw [List.getElem?_replicate] at hw
    split at hw <;> cases hw
end
/-- THE RULE for a def that raises -/
theorem fn_okX {P : PySem.Program} {w : PySem.World} {mg : PySem.Str → Option PySem.Value} {base : PySem.Heap} {x qual : PySem.Str} {st : PySem.Stmt} {f : Addr} {fd : PySem.FuncData} {N ps : List PySem.Str} {k : Nat} {F : FX} (Fu : Fun K x qual st f fd) (S : FnScope N ps (defScope st)) (len : ∀ ws μ R S, F ws μ R S → ws.length = ps.length)
    (hbody : ∀ (cdv : PySem.Value) (A : PySem.Around) (outer : List PySem.Env) (s : PySem.Shared) (H : Hp) (E : XK), Room k (A.deeper (PyProof.Rows.envOfC qual (defScope st) s.heap.objs.size f cdv)) →
      ∃ t, PSs (cxOf (L2.CX P w) P w K mg base N qual (defScope st) f cdv A outer s H E) (defBody st) t ∧ ∀ ws μ R S, F ws μ R S → AS K t { nx := fun _ μ' => R (.d .none) μ', rt := R, xw := fun c d _ H => E c d H, xc := fun x w _ μ' => S x w μ' } (stG N ws) μ) : FnOk P w K mg base (L2.CX P w) (k + 1) f fd ps (spX K F) := by
  refine Fu.okX S (fun vs H Q E h => ?_) (fun cdv A outer s H vs Q E hr h => ?_)
  · obtain ⟨A, M, μ, ws, R, S, mo, r, h, _⟩ := h
    rw [r.length]
    exact len ws μ R S h
  · obtain ⟨t, ht, hs⟩ := hbody cdv A outer s H E hr
    obtain ⟨A, M, μ, ws, R, S, mo, r, h, q, qx⟩ := h
    exact ⟨t, ht, hs ws μ R S h A M _ H ⟨mo, gr_start r⟩ _ ⟨fun M' σ' H' Γ' μ' c e h => q M' H' _ _ μ' c.mo e (.d .non) h, fun M' H' v w μ' mo' e' r' h => q M' H' v w μ' mo' e' r' h, fun _ _ _ _ _ _ _ h => h.elim, fun _ _ _ _ _ _ _ h => h.elim,
      fun M' σ' H' Γ' x a d w μ' hc c e h => qx M' H' x a d w μ' hc c.mo e h⟩⟩
end Pd

/-! Pd9: try with several clauses, each with a name or without; e.value; the walk's rules for defs that raise. -/
namespace L2
open PySem PySem.Spec PyProof.Rows
/-- a clause: the class, the slot of its name, its suite -/
structure Cl where
  c : Value
  i : Option Nat
  ts : Addr → Value → Option Addr → TS
def Cl.ends (h : Cl) (D : Ends) : Ends := match h.i with
  | none => D
  | some i => { nx := fun σ H => D.nx (σ.set i none) H, rt := D.rt, bk := fun σ H => D.bk (σ.set i none) H, ct := fun σ H => D.ct (σ.set i none) H }
def Cl.st (h : Cl) (a : Addr) (σ : St) : St := match h.i with
  | none => σ
  | some i => σ.set i (some (.ref a))
/-- what the clauses wish of an error of the body -/
def wCls (K : PySem.W.Frag) (out : WX) (D : Ends) : List Cl → WX
  | [] => out
  | h :: r => fun cls d σ H => ∃ b, PySem.W.exmOne K cls h.c = some b ∧ (b = true → ∀ a, H a = none → h.ts a cls d (h.ends D) (h.st a σ) H) ∧ (b = false → wCls K out D r cls d σ H)
inductive ClsOk (X : Cx) : List ExceptHandler → List Cl → Prop
  | nil : ClsOk X [] []
  | anon {x : Str} {c : Value} {ts : Addr → Value → Option Addr → TS} {b₀ : Stmt} {suite : List Stmt} {np pos' : Pos} {hds : List ExceptHandler} {l : List Cl} (hc : Names X x c)
      (hsu : ∀ (a : Addr) (oe : Obj) (cls : Value) (d : Option Addr) (pn : List (Addr × Obj)), Zc cls d oe → (∃ vs, oe.data = .fields vs) → PSs (X.suite a ((a, oe) :: pn)) (b₀ :: suite) (ts a cls d)) (r : ClsOk X hds l) :
      ClsOk X (.ExceptHandler (some (.Name x np)) none (b₀ :: suite) pos' :: hds) (⟨c, none, ts⟩ :: l)
  | named {x n : Str} {i : Nat} {c : Value} {ts : Addr → Value → Option Addr → TS} {b₀ : Stmt} {suite : List Stmt} {np pos' : Pos} {hds : List ExceptHandler} {l : List Cl} (hc : Names X x c) (hN : X.N.Nodup) (hi : X.N[i]? = some n) (hln : X.env.kindOf n = some .local)
      (hsu : ∀ (a : Addr) (oe : Obj) (cls : Value) (d : Option Addr) (pn : List (Addr × Obj)), Zc cls d oe → (∃ vs, oe.data = .fields vs) → PSs (X.suite a ((a, oe) :: pn)) (b₀ :: suite) (ts a cls d)) (r : ClsOk X hds l) :
      ClsOk X (.ExceptHandler (some (.Name x np)) (some n) (b₀ :: suite) pos' :: hds) (⟨c, some i, ts⟩ :: l)
section
variable {X : Cx} {body : List Stmt} {h₀ : ExceptHandler} {hds : List ExceptHandler} {l : List Cl} {pos : Pos} {tb : WX → TS} {out : WX}
theorem ps_tryA (hs : X.stack = X.env :: X.outer) (hf : X.env.frame = some X.env.locals) (tk : Takes X out)
    (hb : ∀ (W : WX) (pn : List (Addr × Obj)) (xe : Value → Shared → Prop), Takes (X.tr pn xe) W → PassesOwn (model X.prog X.w) X.A X.env xe → PSs (X.tr pn xe) body (tb W))
    (hh : ClsOk X (h₀ :: hds) l) : PS X (.Try body (h₀ :: hds) [] [] pos) (fun D σ H => tb (wCls X.K out D l) D σ H) := by
  refine ⟨fun pins s σ H D I h => ?_⟩
  have ok := I.ok
  have afr : X.A.frames = some (X.env :: X.outer) := ok.frames.trans (by rw [hs])
  refine wpAny_Try_except (wpAny_mono ((hb (wCls X.K out D l) (X.pn ++ pins) (fun e s₁ => wpAny (model X.prog X.w) X.A (noteFrame e X.env)
    (fun _ s₂ => wpAny (model X.prog X.w) X.A (setFlight e none) (fun _ s₃ => wpAny (model X.prog X.w) X.A (handleBy e X.env (h₀ :: hds)) (SP X pins D) X.xe s₃) X.xe s₂) X.xe s₁) (fun u s' xx => ?_) PassesOwn.looking).run [] s σ H D (I.toTry _) h)
    (fun f s1 hsp => ?_) (fun e s1 he => he))
  · obtain ⟨a, B, sI, pins', σ', H', cls, d, rfl, J', nb, up, sky, na, os, ag, w⟩ := xx
    have J : Inv X pins σ' H' sI := J'.ofTry ok
    rw [show (X.tr (X.pn ++ pins) _).stack = X.env :: X.outer from hs] at sky
    refine (Sky.land Zc.steady afr hf sky fun h3 fl3 up3 => ?_ : wpAny (model X.prog X.w) X.A (noteFrame (.ref a) X.env) _ _ _)
    have J3 : Inv X pins σ' H' { s' with heap := h3 } := J.landed nb fl3.1 (up.trans up3) os ag
    obtain ⟨oe3, vs3, he3, hz3, hd3⟩ := fl3.there
    have nfr : a ∉ frs (X.env :: X.outer) := fun hm => by
      obtain ⟨_, o', e', hnf⟩ := fl3.2.2.1.mem hm
      rw [he3] at e'
      cases e'
      exact hnf _ hd3
    have nL : a ≠ X.env.locals := fun z => nfr (List.mem_filterMap.mpr ⟨X.env, .head _, by rw [hf, z]⟩)
    have nF : a ∉ X.fs := fun hm => by
      obtain ⟨e, he, q⟩ := List.mem_filterMap.mp hm
      exact nfr (List.mem_filterMap.mpr ⟨e, .tail _ he, q⟩)
    have S3 := J3.suite he3 hd3 na nL nF
    have tyE : PySem.W.Looks (model X.prog X.w) h3 (typeOf (.ref a)) cls := fun A Q E s k q => wpAny_typeOf_ref (k _ _ he3) (by rw [hz3.1]; exact q)
    have asked : ∀ {x : Str} {np : Pos} {c : Value} {Q : Value → Shared → Prop} {E : Value → Shared → Prop}, Names X x c → Q c { s' with heap := h3 } → wpAny (model X.prog X.w) (X.A.mark (some (.ref a))) (eval (.Name x np) X.env) Q E { s' with heap := h3 } := by
      intro x np c Q E hc q
      obtain ⟨hg, hdbg, hm | ⟨hm, hv, hnn⟩⟩ := hc
      · exact ld_glob (X := X.suite a ((a, oe3) :: (X.pn ++ pins))) S3 hg hm q hdbg
      · exact ld_blt (X := X.suite a ((a, oe3) :: (X.pn ++ pins))) S3 hg hm hv q hnn hdbg
    have land4 : ∀ h4, HandSPX.FlyingZ B (X.env :: X.outer) a (Zc cls d) h4 → Heap.UpToSlots h3 h4 → ∃ oe4, (∃ vs, oe4.data = .fields vs) ∧ Zc cls d oe4 ∧ Inv (X.suite a ((a, oe4) :: (X.pn ++ pins))) [] σ' H' { s' with heap := h4 } := fun h4 fl4 up4 => by
      obtain ⟨oe4, vs4, he4, hz4, hd4⟩ := fl4.there
      exact ⟨oe4, ⟨_, hd4⟩, hz4, (J.landed nb fl4.1 ((up.trans up3).trans up4) os ag : Inv X pins σ' H' { s' with heap := h4 }).suite he4 hd4 na nL nF⟩
    have go : ∀ {hds' : List ExceptHandler} {l' : List Cl}, ClsOk X hds' l' → wCls X.K out D l' cls d σ' H' → wpAny (model X.prog X.w) X.A (handleBy (.ref a) X.env hds') (SP X pins D) X.xe { s' with heap := h3 } := by
      intro hds' l' hk
      induction hk with
      | nil =>
        intro w
        refine wpAny_handleBy_nil ?_
        obtain ⟨_, _, _, oe, vs, T, _, _, he, _, hd, h1, _⟩ := id fl3
        have thrown : wpAny (model X.prog X.w) X.A (setFlight (.ref a) X.env.frame) (fun _ s4 => wpAny (model X.prog X.w) X.A (throw (.ref a) : Sem Flow) (SP X pins D) X.xe s4) X.xe { s' with heap := h3 } := by
          rw [hf]
          exact HandSPX.setFlight_upZ fl3 fun h4 hh4 up4 => wpAny_throw (tk _ _ ⟨a, B, sI, pins, σ', H', cls, d, rfl, J, nb, (up.trans up3).trans up4, .inr (.inr (by rw [hs]; exact hh4)), na, os, ag, w⟩)
        unfold PySem.passOn
        refine wpAny_bind (wpAny_field he hd h1 ?_)
        rw [if_neg (show ¬ ((Value.ref T == Value.none) = true) by simp)]
        first
          | exact wpAny_bind (wpAny_pure (wpAny_bind thrown))
          | exact wpAny_bind thrown
      | @anon x c ts b₀ suite np pos' hds2 l2 hc hsu r ih =>
        intro ⟨b, hb1, hyes, hno⟩
        refine wpAny_handleBy_cons (codeAny_handlers_test (asked hc ((PySem.W.exm_one (M := model X.prog X.w) J3.kIn tyE hb1).here ?_))) (by intro q; cases q)
        cases b with
        | false => exact (ih (hno rfl) : wpAny _ X.A (handleBy (.ref a) X.env hds2) _ _ _)
        | true =>
          refine codeAny_handlers_suite (HandSPX.lands_againZ fl3 fun h4 fl4 up4 => ?_)
          obtain ⟨oe4, hd4, hz4, S4⟩ := land4 h4 fl4 up4
          refine wpAny_mono ((hsu a oe4 cls d (X.pn ++ pins) hz4 hd4).run [] _ _ H' _ S4 (hyes rfl a na)) (fun f s6 hsp => ?_) (fun _ _ z => z.elim)
          match f, hsp with
          | .next, ⟨_, _, S6, q6⟩ => exact ⟨_, _, S6.unsuite ok, q6⟩
          | .brk, ⟨_, _, S6, q6⟩ => exact ⟨_, _, S6.unsuite ok, q6⟩
          | .cont, ⟨_, _, S6, q6⟩ => exact ⟨_, _, S6.unsuite ok, q6⟩
          | .ret u, ⟨_, _, _, S6, r6, q6⟩ => exact ⟨_, _, _, S6.unsuite ok, r6, q6⟩
      | @named x n i c ts b₀ suite np pos' hds2 l2 hc hN hi hln hsu r ih =>
        intro ⟨b, hb1, hyes, hno⟩
        refine wpAny_handleBy_cons (codeAny_handlers_test (asked hc ((PySem.W.exm_one (M := model X.prog X.w) J3.kIn tyE hb1).here ?_))) (by intro q; cases q)
        cases b with
        | false => exact (ih (hno rfl) : wpAny _ X.A (handleBy (.ref a) X.env hds2) _ _ _)
        | true =>
          refine codeAny_handlers_suite_as (HandSPX.lands_againZ fl3 fun h4 fl4 up4 => ?_)
          obtain ⟨oe4, hd4, hz4, S4⟩ := land4 h4 fl4 up4
          refine store_ok (X := X.suite a ((a, oe4) :: (X.pn ++ pins))) (v := .ref a) S4 hN hi (.inl hln) rfl (fun s5 S5 => ?_) (.inr hln)
          refine wpAny_mono ((hsu a oe4 cls d (X.pn ++ pins) hz4 hd4).run [] s5 _ H' _ S5 (hyes rfl a na)) (fun f s6 hsp => ?_) (fun _ _ z => z.elim)
          have goes : ∀ {σ6 : St} {H6 : Hp} {Q : Shared → Prop}, Inv (X.suite a ((a, oe4) :: (X.pn ++ pins))) [] σ6 H6 s6 → (∀ s7, Inv X pins (σ6.set i none) H6 s7 → Q s7) →
              wpAny (model X.prog X.w) X.A (do bindName X.env n .none; unbindBehindTheSuite X.env n pos') (fun _ s7 => Q s7) X.xe s6 := fun {σ6 H6 Q} S6 hq => gone_ok (S6.unsuite ok) hN hi hln hq
          match f, hsp with
          | .next, ⟨_, _, S6, q6⟩ => exact goes S6 fun s7 J7 => ⟨_, _, J7, q6⟩
          | .brk, ⟨_, _, S6, q6⟩ => exact goes S6 fun s7 J7 => ⟨_, _, J7, q6⟩
          | .cont, ⟨_, _, S6, q6⟩ => exact goes S6 fun s7 J7 => ⟨_, _, J7, q6⟩
          | .ret u, ⟨_, _, _, S6, r6, q6⟩ => exact goes S6 fun s7 J7 => ⟨_, _, _, J7, r6, q6⟩
    exact go hh w
  · match f, hsp with
    | .next, ⟨σ', H', J', q⟩ => exact wpAny_execs_nil ⟨σ', H', J'.ofTry ok, q⟩
    | .brk, ⟨σ', H', J', q⟩ => exact ⟨σ', H', J'.ofTry ok, q⟩
    | .cont, ⟨σ', H', J', q⟩ => exact ⟨σ', H', J'.ofTry ok, q⟩
    | .ret u, ⟨v, σ', H', J', r, q⟩ => exact ⟨v, σ', H', J'.ofTry ok, r, q⟩
end
end L2
namespace Pd
open PySem L2
open Evl (Ex)
open PyProof.Rows
variable {K : PySem.W.Frag}
/-- what stands for x in an except clause -/
def ClV (K : PySem.W.Frag) (x : PySem.Str) (c : PySem.Value) : Prop := PySem.W.nsIn K PySem.mainGlobals x = some (some c) ∨ (PySem.W.nsIn K PySem.mainGlobals x = some none ∧ bootBuiltins x = some c)
/-- an error that the text calls x is one that the clause for y takes (or not) -/
def SubIs (K : PySem.W.Frag) (x y : PySem.Str) (b : Bool) : Prop := ∀ a c, clA K x a → ClV K y c → PySem.W.exmOne K (.ref a) c = some b
structure Hn where
  x : PySem.Str
  i : Option Nat
  ts : Addr → PySem.Value → Option Addr → TS
def CsOk (K : PySem.W.Frag) : List Hn → List Cl → Prop
  | [], [] => True
  | h :: r, c :: s => (ClV K h.x c.c ∧ c.i = h.i ∧ c.ts = h.ts) ∧ CsOk K r s
  | _, _ => False
def tTry (K : PySem.W.Frag) (hs : List Hn) (tb : L2.WX → TS) (out : L2.WX) : TS := fun D σ H => ∀ l, CsOk K hs l → tb (wCls K out D l) D σ H
def Hn.ends (h : Hn) (D : AEn) : AEn := match h.i with
  | none => D
  | some i => { D with nx := fun g m => D.nx (g.set i none) m, bk := fun g m => D.bk (g.set i none) m, ct := fun g m => D.ct (g.set i none) m }
def Hn.sl (h : Hn) (a : Addr) (Γ : G) : G := match h.i with
  | none => Γ
  | some i => Γ.set i (some (.k (.ref a)))
/-- what is wished of an error of the body: by its name and value, clause by clause. Its suite leaves no error in turn. -/
def hX (K : PySem.W.Frag) (D : AEn) : List Hn → PySem.Str → W → G → Mu → Prop
  | [] => D.xc
  | h :: r => fun x w Γ μ => ∃ b, SubIs K x h.x b ∧ (b = true → ∀ a C d, clA K x C → AS K (h.ts a (.ref C) (some d)) (h.ends D) (h.sl a Γ) (μ ++ [some (.xd d w)])) ∧ (b = false → hX K D r x w Γ μ)
section
variable {Γ : G} {μ : Mu} {R : W → Mu → Prop} {ta : TA} {te : TE} {D : AEn}
theorem as_try {hs : List Hn} {tb : L2.WX → TS} (h : ∀ xw : L2.WX, AS K (tb xw) { D with xw := xw, xc := hX K D hs } Γ μ) : AS K (tTry K hs tb D.xw) D Γ μ := fun A M σ H cn E hE l hl => by
  refine h (wCls K D.xw E l) A M σ H cn E ⟨hE.nx, hE.rt, hE.bk, hE.ct, fun M' σ' H' Γ' x a d w μ' hc c' e' hx => ?_⟩
  show wCls K D.xw E l (.ref a) (some d) σ' H'
  have hx' : hX K D hs x w Γ' μ' := hx
  clear hx h
  induction hs generalizing l with
  | nil =>
    cases l with
    | nil => exact hE.xx M' σ' H' Γ' x a d w μ' hc c' e' hx'
    | cons _ _ => exact hl.elim
  | cons h r ih =>
    cases l with
    | nil => exact hl.elim
    | cons c s =>
      obtain ⟨⟨h1, h2, h3⟩, hr⟩ := hl
      obtain ⟨b, hb, hy, hn⟩ := hx'
      refine ⟨b, hb a c.c hc h1, fun e a0 _ => ?_, fun e => ih s hr (hn e)⟩
      have q := hy e a0 a d hc
      obtain ⟨cc, ci, cts⟩ := c
      obtain ⟨hx0, hi, hts⟩ := h
      dsimp only at h2 h3
      subst h2 h3
      have hd' : Hd K A (M' ++ [d]) (μ' ++ [some (.xd d w)]) H' D E := hE.after e'
      cases ci with
      | none => exact q A _ σ' H' c' E hd'
      | some i =>
        refine q A _ _ H' ⟨c'.mo, c'.gr.set (.k _)⟩ _ ⟨fun M4 σ4 H4 Γ4 μ4 c4 e4 h4 => ?_, hd'.rt, fun M4 σ4 H4 Γ4 μ4 c4 e4 h4 => ?_, fun M4 σ4 H4 Γ4 μ4 c4 e4 h4 => ?_, hd'.xx⟩
        · exact hd'.nx M4 _ H4 _ μ4 ⟨c4.mo, c4.gr.drop⟩ e4 h4
        · exact hd'.bk M4 _ H4 _ μ4 ⟨c4.mo, c4.gr.drop⟩ e4 h4
        · exact hd'.ct M4 _ H4 _ μ4 ⟨c4.mo, c4.gr.drop⟩ e4 h4
/-- e.value, e the error that the suite holds -/
def tXv (K : PySem.W.Frag) (a : Addr) (cls : PySem.Value) (d : Option Addr) (te : TE) : TE := fun σ H Q => te σ H fun x H1 => x = .ref a ∧ ∃ C dd v, cls = .ref C ∧ XfC K C ∧ PySem.W.findIn K (.ref C) "value" = some none ∧ d = some dd ∧ H1 dd = some (.xd [(("value" : PySem.Str), v)]) ∧ Q v H1
/-- the errors that the text calls x have a value -/
def ErrV (K : PySem.W.Frag) (x : PySem.Str) : Prop := ∀ C, clA K x C → XfC K C ∧ PySem.W.findIn K (.ref C) "value" = some none
theorem ax_xv {a C d : Addr} {x : PySem.Str} {k : Nat} {w : W} (hx : ErrV K x) (hC : clA K x C) (h : AX K te Γ μ fun u μ1 => u = .k (.ref a) ∧ μ1[k]? = some (some (.xd d w)) ∧ R w μ1) : AX K (tXv K a (.ref C) (some d) te) Γ μ R := fun A M σ H c Q q =>
  h A M σ H c _ fun M1 H1 v u μ1 mo1 e1 r1 ⟨eu, hk, hR⟩ => by
    subst eu
    cases r1
    have hl : k < M1.length := by
      rw [mo1.len]
      exact (List.getElem?_eq_some_iff.mp hk).1
    obtain ⟨o, ho, ep, v, rfl, rv⟩ := mo1.ct k _ (.xd d w) (List.getElem?_eq_getElem hl) hk
    rw [ep] at ho
    exact ⟨rfl, C, d, v, rfl, (hx C hC).1, (hx C hC).2, rfl, ho, q M1 H1 v w μ1 mo1 e1 rv hR⟩
end
/-! ### the walk's rules -/
section
variable {X : Cx}
theorem pe_xv {a : Addr} {oe : Obj} {cls : Value} {d : Option Addr} {pn : List (Addr × Obj)} {e : Expr} {te : TE} {pos : Pos} (hz : Zc cls d oe) (hf : ∃ vs, oe.data = .fields vs) (he : PE (X.suite a ((a, oe) :: pn)) e te)
    (hb : attributeBase e "value" X.env (eval e X.env) = eval e X.env := by rfl) : PE (X.suite a ((a, oe) :: pn)) (.Attribute e "value" pos) (tXv X.K a cls d te) := by
  refine ⟨fun pins s σ H Q I h => attr_of hb (thn (he.run pins s σ H _ I h) fun u s1 ⟨x, H1, I1, rx, ex, C, dd, v, ec, T, hno, ed, ea, q⟩ => ?_)⟩
  subst ex ec ed
  obtain rfl : u = Value.ref a := rx
  obtain ⟨ha, _⟩ := I1.pin (a, oe) (List.mem_append_left _ (.head _))
  obtain ⟨vs, hd⟩ := hf
  obtain ⟨mA, hns, hr⟩ : ObjOk X.prog X.w H1 s1.heap dd (.xd [(("value" : PySem.Str), v)]) := I1.hok dd _ ea
  obtain ⟨od, ho, hl⟩ := lookIn_ns hns
  obtain ⟨u, hu, ru⟩ := RelO.some_of (v := v) (o := mA "value") (by have z := hr "value"; simpa [List.lookup] using z)
  have J : PySem.W.InstAt s1.heap a oe C (some od) := ⟨ha, hz.1, by unfold PySem.W.notCls; rw [hd] <;> rfl, by rw [hz.2]; exact ho⟩
  exact HandSPX.exc_get I1.kIn J T.ga T.gg T.exC (PySem.W.findObj_own T.hdC hno rfl (by rw [hl, hu])) (handed_of ru) ⟨v, H1, I1.tok _, ru, q⟩
/-- the text's x is a class of errors -/
def IsErr (P : Program) (K : PySem.W.Frag) (mg : Str → Option Value) (x : Str) : Prop := ∃ C, clA K x C ∧ Err P K mg x C
theorem ps_raiseE {x : Str} {xw : L2.WX} {a : Expr} {ta : TA} {p pos pos2 : Pos} {k : Nat} (hc : X.calm = true) (T : IsErr X.prog X.K X.mg x) (hr : Room k X.A) (tk : Takes X xw) (ha : PA X [a] ta) (hg : Gl X x := by rfl) (hdb : (x == ("__debug__" : Str)) = false := by decide)
    (he : starEach (a :: []) X.env = (false, eval a X.env) :: starEach [] X.env := by rfl) (hpl : (backTo pos (starEach [] X.env)).any (·.1) = false := by rfl) :
    PS X (.Raise (some (.Call (.Name x p) [a] [] pos)) none pos2) (tRaiseE X.K x xw ta) := by
  obtain ⟨C, hC, E⟩ := T
  exact ⟨fun pins s σ H D I h => (ps_raise hc tk (pmk_err E hr ha hg hdb he hpl)).run pins s σ H D I (h C hC)⟩
def HsOk (X : Cx) (hds : List ExceptHandler) (hs : List Hn) : Prop := ∃ l, ClsOk X hds l ∧ CsOk X.K hs l
theorem hs_nil : HsOk X [] [] := ⟨[], .nil, trivial⟩
theorem hs_named {x n : Str} {i : Nat} {ts : Addr → Value → Option Addr → TS} {b₀ : Stmt} {suite : List Stmt} {np pos' : Pos} {hds : List ExceptHandler} {hs : List Hn} (T : IsErr X.prog X.K X.mg x) (hN : X.N.Nodup)
    (hsu : ∀ (a : Addr) (oe : Obj) (cls : Value) (d : Option Addr) (pn : List (Addr × Obj)), Zc cls d oe → (∃ vs, oe.data = .fields vs) → PSs (X.suite a ((a, oe) :: pn)) (b₀ :: suite) (ts a cls d)) (r : HsOk X hds hs)
    (hg : Gl X x := by rfl) (hi : X.N[i]? = some n := by rfl) (hln : X.env.kindOf n = some .local := by rfl) (hdb : (x == ("__debug__" : Str)) = false := by decide) :
    HsOk X (.ExceptHandler (some (.Name x np)) (some n) (b₀ :: suite) pos' :: hds) (⟨x, some i, ts⟩ :: hs) := by
  obtain ⟨l, h1, h2⟩ := r
  obtain ⟨C, hC, E⟩ := T
  exact ⟨⟨.ref C, some i, ts⟩ :: l, .named ⟨hg, hdb, .inl E.gC⟩ hN hi hln hsu h1, ⟨.inl hC, rfl, rfl⟩, h2⟩
theorem hs_anon {x : Str} {ts : Addr → Value → Option Addr → TS} {b₀ : Stmt} {suite : List Stmt} {np pos' : Pos} {hds : List ExceptHandler} {hs : List Hn} (T : IsErr X.prog X.K X.mg x)
    (hsu : ∀ (a : Addr) (oe : Obj) (cls : Value) (d : Option Addr) (pn : List (Addr × Obj)), Zc cls d oe → (∃ vs, oe.data = .fields vs) → PSs (X.suite a ((a, oe) :: pn)) (b₀ :: suite) (ts a cls d)) (r : HsOk X hds hs)
    (hg : Gl X x := by rfl) (hdb : (x == ("__debug__" : Str)) = false := by decide) :
    HsOk X (.ExceptHandler (some (.Name x np)) none (b₀ :: suite) pos' :: hds) (⟨x, none, ts⟩ :: hs) := by
  obtain ⟨l, h1, h2⟩ := r
  obtain ⟨C, hC, E⟩ := T
  exact ⟨⟨.ref C, none, ts⟩ :: l, .anon ⟨hg, hdb, .inl E.gC⟩ hsu h1, ⟨.inl hC, rfl, rfl⟩, h2⟩
theorem ps_tryN {body : List Stmt} {h₀ : ExceptHandler} {hds : List ExceptHandler} {hs : List Hn} {pos : Pos} {tb : WX → TS} {out : WX} (tk : Takes X out)
    (hb : ∀ (xw : WX) (pn : List (Addr × Obj)) (xe : Value → Shared → Prop), Takes (X.tr pn xe) xw → PassesOwn (model X.prog X.w) X.A X.env xe → PSs (X.tr pn xe) body (tb xw))
    (hh : HsOk X (h₀ :: hds) hs) (hst : X.stack = X.env :: X.outer := by rfl) (hf : X.env.frame = some X.env.locals := by rfl) : PS X (.Try body (h₀ :: hds) [] [] pos) (tTry X.K hs tb out) := by
  obtain ⟨l, h1, h2⟩ := hh
  exact ⟨fun pins s σ H D I h => (ps_tryA hst hf tk hb h1).run pins s σ H D I (h l h2)⟩
/-! defs that raise, by their promises -/
def HasX (P : Program) (w : World) (K : PySem.W.Frag) (mg : Str → Option Value) (base : Heap) (x : Str) (ps : List Str) (k : Nat) (F : FX) : Prop :=
  ∃ f fd, FnOk P w K mg base (L2.CX P w) k f fd ps (spX K F) ∧ mg x = some (.ref f) ∧ PySem.W.keepIn K (.ref f) = true ∧ Binds K fd ps []
def HasXK (P : Program) (w : World) (K : PySem.W.Frag) (mg : Str → Option Value) (base : Heap) (x : Str) (ps : List Str) (k : Nat) (F : FX) (n : Nat) (ks : List Str) (ix : List Nat) : Prop :=
  ∃ f fd, FnOk P w K mg base (L2.CX P w) k f fd ps (spX K F) ∧ mg x = some (.ref f) ∧ PySem.W.keepIn K (.ref f) = true ∧ KBn K fd ps n ks (fun us ws => perm ix (us ++ ws)) (fun vs zs => perm ix (vs ++ zs))
variable {x : Str} {ps ks : List Str} {k n m : Nat} {F : FX} {e : Expr} {es : List Expr} {ta tk : TA} {p pos : Pos} {kws : List Keyword} {ix : List Nat} {xw : WX}
theorem pe_hasX (h : HasX X.prog X.w X.K X.mg X.base x ps k F) (hr : Room k X.A) (ha : PA X (e :: es) ta) (hg : Gl X x := by rfl) (hd : (x == ("__debug__" : Str)) = false := by decide)
    (he : starEach (e :: es) X.env = (false, eval e X.env) :: starEach es X.env := by rfl) (hpl : (backTo pos (starEach es X.env)).any (·.1) = false := by rfl) : PE X (.Call (.Name x p) (e :: es) [] pos) (tCall (spX X.K F) [] E0 ta) := by
  obtain ⟨f, fd, G, hmg, kp, b⟩ := h
  exact pe_call G hr hg hmg kp b .nil passL ha hd he hpl
theorem pe_hasXT (h : HasX X.prog X.w X.K X.mg X.base x ps k F) (hr : Room k X.A) (tk : Takes X xw) (ha : PA X (e :: es) ta) (hg : Gl X x := by rfl) (hd : (x == ("__debug__" : Str)) = false := by decide)
    (he : starEach (e :: es) X.env = (false, eval e X.env) :: starEach es X.env := by rfl) (hpl : (backTo pos (starEach es X.env)).any (·.1) = false := by rfl) : PE X (.Call (.Name x p) (e :: es) [] pos) (tCallS (spX X.K F) (WE xw) ta) := by
  obtain ⟨f, fd, G, hmg, kp, b⟩ := h
  exact pe_callS G hr hg hmg kp b (fun σ => passAt tk σ) ha hd he hpl
theorem pe_hasXN (h : HasXK X.prog X.w X.K X.mg X.base x ps k F n ks ix) (hr : Room k X.A) (ha : PA X (e :: es) ta) (hk : PK X kws tk) (hm : ks.length = m := by rfl) (hg : Gl X x := by rfl)
    (hall : (backToKw pos (keywordEach kws X.env)).all (·.1.isSome) = true := by rfl) (hks : (backToKw pos (keywordEach kws X.env)).filterMap (·.1) = ks := by rfl) (hdb : (x == ("__debug__" : Str)) = false := by decide)
    (he : starEach (e :: es) X.env = (false, eval e X.env) :: starEach es X.env := by rfl) (hpl : ((backTo pos (starEach (e :: es) X.env)).any (·.1) || (backToKw pos (keywordEach kws X.env)).any (·.1.isNone)) = false := by rfl) :
    PE X (.Call (.Name x p) (e :: es) kws pos) (tCallN n m (spX X.K F) (fun vs zs => perm ix (vs ++ zs)) E0 ta tk) := by
  subst hm
  obtain ⟨f, fd, G, hmg, kp, b⟩ := h
  exact pe_callN G hr hg hmg kp b passL ha hk hall hks hdb he hpl
theorem pe_hasXN0 (h : HasXK X.prog X.w X.K X.mg X.base x ps k F 0 ks ix) (hr : Room k X.A) (hk : PK X kws tk) (hm : ks.length = m := by rfl) (hg : Gl X x := by rfl)
    (hall : (backToKw pos (keywordEach kws X.env)).all (·.1.isSome) = true := by rfl) (hks : (backToKw pos (keywordEach kws X.env)).filterMap (·.1) = ks := by rfl) (hdb : (x == ("__debug__" : Str)) = false := by decide)
    (hpl : ((backTo pos (starEach [] X.env)).any (·.1) || (backToKw pos (keywordEach kws X.env)).any (·.1.isNone)) = false := by rfl) :
    PE X (.Call (.Name x p) [] kws pos) (tCallN 0 m (spX X.K F) (fun vs zs => perm ix (vs ++ zs)) E0 tNil tk) := by
  subst hm
  obtain ⟨f, fd, G, hmg, kp, b⟩ := h
  exact pe_callN0 G hr hg hmg kp b passL hk hall hks hdb hpl
end
theorem hasx_of {P : Program} {w : World} {mg : Str → Option Value} {base : Heap} {x qual : Str} {st : Stmt} {f : Addr} {fd : FuncData} {ps : List Str} {k : Nat} {F : FX} (Fu : Fun K x qual st f fd) (m : mg x = some (.ref f)) (G : FnOk P w K mg base (L2.CX P w) k f fd ps (spX K F))
    (h : ∀ (kV doc pm : Value) (an : Option Addr) (cdv ct : Value) (us : List Value), us.length = ps.length → bindArgs (PySem.W.fnOf x qual (defArgs st) (defBody st) (defScope st) .none kV doc pm an cdv ct) ⟨us, []⟩ = pure (ps.zip us)) : HasX P w K mg base x ps k F := ⟨f, fd, G, m, Fu.kp, Fu.binds h⟩
theorem hasxk_of {P : Program} {w : World} {mg : Str → Option Value} {base : Heap} {x qual : Str} {st : Stmt} {f : Addr} {fd : FuncData} {ps : List Str} {k : Nat} {F : FX} (Fu : Fun K x qual st f fd) (m : mg x = some (.ref f)) (G : FnOk P w K mg base (L2.CX P w) k f fd ps (spX K F)) (n : Nat) (ks : List Str) (ix : List Nat)
    (h : ∀ (kV doc pm : Value) (an : Option Addr) (cdv ct : Value) (us ws : List Value), us.length = n → ws.length = ks.length → bindArgs (PySem.W.fnOf x qual (defArgs st) (defBody st) (defScope st) .none kV doc pm an cdv ct) ⟨us, ks.zip ws⟩ = pure (ps.zip (perm ix (us ++ ws)))) : HasXK P w K mg base x ps k F n ks ix := by
  obtain ⟨oc, od, kV, doc, pm, an, cdv, ct, osl, rfl, lk, hcd⟩ := Fu.ex
  exact ⟨f, _, G, m, Fu.kp, fun s us ws _ h1 h2 => .of_eq (h kV doc pm an cdv ct us ws h1 h2), fun h1 h2 => vals_perm (h1.append h2) ix⟩
end Pd

/-! Pd10: promises of defs that are called where no guard stands (so repr may be asked). -/
namespace Pd
open PySem PySem.Spec L2
open Evl (Ex)
open PyProof.Rows
/-- a def's promise, where no guard stands -/
structure FnG (P : Program) (w : World) (K : PySem.W.Frag) (mg : Str → Option Value) (base : Heap) (CX : CXT) (k : Nat) (f : Addr) (fd : FuncData) (ps : List Str) (sp : Sp) : Prop where
  len : ∀ vs H Q E, sp vs H Q E → vs.length = ps.length
  go : ∀ (A : Around) (fr : List Env) (s : Shared) (H : Hp) (args : Args) (us : List Value) (vs : List V) (Q : VK) (E : XK), Room k A → A.guards = some [] → Env0 P w K mg base A fr s H → BindsTo s fd args (ps.zip us) → Vals vs us → sp vs H Q E →
    codeAny (model P w) A (.call (.ref f) args) (CR CX fr P w H s Q E) s
theorem fnG_of {CX : CXT} {P : Program} {w : World} {K : PySem.W.Frag} {mg : Str → Option Value} {base : Heap} {k : Nat} {f : Addr} {name qual : Str} {pr : Arguments} {bd : List Stmt} {sc : Scope} {dV kV doc pm cdv ct oc : Value} {an od : Option Addr}
    {osl : Array (Option Value)} {N ps : List Str} {sp : Sp} (lk : K.lookup f = some ⟨oc, od, .func (PySem.W.fnOf name qual pr bd sc dV kV doc pm an cdv ct), osl⟩) (hcd : PySem.W.codeIn K cdv qual = true) (S : FnScope N ps sc)
    (len : ∀ vs H Q E, sp vs H Q E → vs.length = ps.length)
    (hb : ∀ (A : Around) (fr : List Env) (s : Shared) (H : Hp) (vs : List V) (Q : VK) (E : XK), Room k (A.deeper (envOfC qual sc s.heap.objs.size f cdv)) → (A.deeper (envOfC qual sc s.heap.objs.size f cdv)).guards = some [] → sp vs H Q E →
      ∃ t, PSs (cxOf CX P w K mg base N qual sc f cdv A fr s H E) bd t ∧ t { nx := fun _ H' => Q .non H', rt := Q } (start N vs) H) :
    FnG P w K mg base CX (k + 1) f (PySem.W.fnOf name qual pr bd sc dV kV doc pm an cdv ct) ps sp := by
  refine ⟨len, fun A fr s H args us vs Q E hr hgd e0 hbi r hsp => ?_⟩
  have hl := len _ _ _ _ hsp
  have kb : ∀ b o, base.get? b = some o → s.heap.get? b = some o := fun b o e => (e0.bs b o e).1
  have KX : K.In s.heap := e0.mod.kin.keeps kb
  have kinds : ∀ y ∈ ps.zip us, sc.names.lookup y.1 = some .local ∨ (sc.names.lookup y.1 = some .cell ∧ ((cellsFrom (s.heap.objs.size + 1) sc.names []).lookup y.1).isSome = true) := by
    rintro ⟨n, v⟩ hy
    exact (S.par n (List.of_mem_zip hy).1).imp id fun q => ⟨q, PySem.W.cellsFrom_some _ _ _ (.inl q)⟩
  refine codeAny_call_function hr.depth (KX _ _ lk) rfl S.co S.gen rfl (PySem.W.codeRec_of KX hcd) (hbi _ _ _ _ (wpAny_newFunctionEnv_cells S.kind kinds fun env he s1 x => ?_))
  subst he
  refine ⟨(e0.mod.nolimit.keeps kb).keeps x.toInCall.keep, codeAny_func ?_⟩
  obtain ⟨t, ht, hq⟩ := hb A fr s H vs Q E (hr.deeper _) hgd hsp
  have I : Inv (cxOf CX P w K mg base N qual sc f cdv A fr s H E) [] (start N vs) H s1 := inv_start S hr.hd e0 hl r x
  refine wpAny_mono (ht.run [] s1 (start N vs) H _ I hq) (fun fl s' hs => ?_) fun e s' hs => hs
  match fl, hs with
  | .ret u, ⟨v, σ', H', J, rv, q⟩ => exact ⟨v, H', J.os, J.bare, J.base, J.hok, rv, q⟩
  | .next, ⟨σ', H', J, q⟩ => exact ⟨V.non, H', J.os, J.bare, J.base, J.hok, (rfl : RelV V.non Value.none), q⟩
  | .brk, ⟨_, _, _, q⟩ => exact q.elim
  | .cont, ⟨_, _, _, q⟩ => exact q.elim
section
variable {X : Cx} {CX : CXT} {k n : Nat} {f : Addr} {fd : FuncData} {ps ks : List Str} {sp : Sp} {E : L2.St → XK} {x : Str} {p pos : Pos} {e : Expr} {es : List Expr} {kws : List Keyword} {t tk : TA} {g : List Value → List Value → List Value} {gV : List V → List V → List V}
theorem back_of {pins : List (Addr × Obj)} {σ : L2.St} {H : Hp} {s : Shared} {Q : VK} (hx : PassesAt CX X σ (E σ)) (I : Inv X pins σ H s) {args : Args} (h : codeAny (model X.prog X.w) X.A (.call (.ref f) args) (CR CX X.stack X.prog X.w H s Q (E σ)) s) :
    codeAny (model X.prog X.w) X.A (.call (.ref f) args) (fun r s' => match r with | .ok (.ret u) => EP X pins σ Q u s' | .ok _ => False | .error e => X.xe e s') s := codeAny_mono h fun r s' hq => by
  match r, hq with
  | .error e, hq => exact hx pins H s e s' I hq
  | .ok (.ret u), hq => exact I.after hq
def tCallNS (n m : Nat) (sp : Sp) (gV : List V → List V → List V) (E : L2.St → XK) (t tk : TA) : TE := fun σ H Q => t σ H fun vs H1 => tk σ H1 fun zs H2 => vs.length = n ∧ zs.length = m ∧ sp (gV vs zs) H2 Q (E σ)
theorem pe_gS (F : FnG X.prog X.w X.K X.mg X.base CX k f fd ps sp) (hr : Room k X.A) (hd : X.A.guards = some []) (hg : Gl X x) (hm : X.mg x = some (.ref f)) (hk : PySem.W.keepIn X.K (.ref f) = true) (hb : Binds X.K fd ps []) (hx : ∀ σ, PassesAt CX X σ (E σ))
    (ha : PA X (e :: es) t) (hdb : (x == ("__debug__" : Str)) = false) (he : starEach (e :: es) X.env = (false, eval e X.env) :: starEach es X.env) (hpl : (backTo pos (starEach es X.env)).any (·.1) = false) :
    PE X (.Call (.Name x p) (e :: es) [] pos) (tCallS sp E t) := by
  refine ⟨fun pins s σ H Q I h => wpAny_Call_Name_kw (ld_glob I hg hm (PySem.W.callWith_K (h₀ := X.base) I.ok.mod.kin hk (thn (ha.run pos pins s σ H _ I h) fun us s1 ⟨vs, H1, I1, r, q⟩ => ⟨I1.kIn, ?_⟩) he hpl) hdb)⟩
  have hl : us.length = ps.length := by
    rw [← r.length]
    exact F.len _ _ _ _ q
  have b := hb s1 us I1.kIn (by rw [List.append_nil]; exact hl)
  rw [List.append_nil] at b
  have q' := back_of (hx σ) I1 (F.go X.A X.stack s1 H1 ⟨us, []⟩ us vs _ _ hr hd I1.env0 b r q)
  exact (wpAny_call q' : wpAny _ _ (call (.ref f) us) _ _ _)
theorem pe_gNS (F : FnG X.prog X.w X.K X.mg X.base CX k f fd ps sp) (hr : Room k X.A) (hd : X.A.guards = some []) (hg : Gl X x) (hm : X.mg x = some (.ref f)) (hk : PySem.W.keepIn X.K (.ref f) = true) (hb : KBn X.K fd ps n ks g gV) (hx : ∀ σ, PassesAt CX X σ (E σ))
    (ha : PA X (e :: es) t) (hkw : PK X kws tk) (hall : (backToKw pos (keywordEach kws X.env)).all (·.1.isSome) = true) (hks : (backToKw pos (keywordEach kws X.env)).filterMap (·.1) = ks)
    (hdb : (x == ("__debug__" : Str)) = false) (he : starEach (e :: es) X.env = (false, eval e X.env) :: starEach es X.env)
    (hpl : ((backTo pos (starEach (e :: es) X.env)).any (·.1) || (backToKw pos (keywordEach kws X.env)).any (·.1.isNone)) = false) :
    PE X (.Call (.Name x p) (e :: es) kws pos) (tCallNS n ks.length sp gV E t tk) := by
  refine ⟨fun pins s σ H Q I h => wpAny_Call_Name_kw (ld_glob I hg hm (PySem.W.callWith_KW (h₀ := X.base) I.ok.mod.kin hk hall (thn (ha.run pos pins s σ H _ I h) fun us s1 ⟨vs, H1, I1, r, q⟩ => ?_) hpl he) hdb)⟩
  refine thn (hkw.run pos pins s1 σ H1 _ I1 q) fun ws s2 ⟨zs, H2, I2, rz, l1, l2, q2⟩ => ⟨I2.kIn, ?_⟩
  rw [hks]
  exact wpAny_call (back_of (hx σ) I2 (F.go X.A X.stack s2 H2 ⟨us, ks.zip ws⟩ (g us ws) (gV vs zs) _ _ hr hd I2.env0 (hb.to s2 us ws I2.kIn (r.length.symm.trans l1) (rz.length.symm.trans l2)) (hb.rel r rz) q2))
theorem pe_gNS0 (F : FnG X.prog X.w X.K X.mg X.base CX k f fd ps sp) (hr : Room k X.A) (hd : X.A.guards = some []) (hg : Gl X x) (hm : X.mg x = some (.ref f)) (hk : PySem.W.keepIn X.K (.ref f) = true) (hb : KBn X.K fd ps 0 ks g gV) (hx : ∀ σ, PassesAt CX X σ (E σ))
    (hkw : PK X kws tk) (hall : (backToKw pos (keywordEach kws X.env)).all (·.1.isSome) = true) (hks : (backToKw pos (keywordEach kws X.env)).filterMap (·.1) = ks)
    (hdb : (x == ("__debug__" : Str)) = false) (hpl : ((backTo pos (starEach [] X.env)).any (·.1) || (backToKw pos (keywordEach kws X.env)).any (·.1.isNone)) = false) :
    PE X (.Call (.Name x p) [] kws pos) (tCallNS 0 ks.length sp gV E tNil tk) := by
  refine ⟨fun pins s σ H Q I h => wpAny_Call_Name_kw (ld_glob I hg hm (PySem.W.callWith_KW0 (h₀ := X.base) I.ok.mod.kin hk hall (thn (hkw.run pos pins s σ H _ I h) fun ws s2 ⟨zs, H2, I2, rz, l1, l2, q2⟩ => ⟨I2.kIn, ?_⟩) hpl) hdb)⟩
  rw [hks]
  exact wpAny_call (back_of (hx σ) I2 (F.go X.A X.stack s2 H2 ⟨[], ks.zip ws⟩ (g [] ws) (gV [] zs) _ _ hr hd I2.env0 (hb.to s2 [] ws I2.kIn l1 (rz.length.symm.trans l2)) (hb.rel .nil rz) q2))
end
/-- the module's x is a def that promises sp -/
def HasG (P : Program) (w : World) (K : PySem.W.Frag) (mg : Str → Option Value) (base : Heap) (CX : CXT) (x : Str) (ps : List Str) (k : Nat) (sp : Sp) : Prop :=
  ∃ f fd, FnG P w K mg base CX k f fd ps sp ∧ mg x = some (.ref f) ∧ PySem.W.keepIn K (.ref f) = true ∧ Binds K fd ps []
def HasGK (P : Program) (w : World) (K : PySem.W.Frag) (mg : Str → Option Value) (base : Heap) (CX : CXT) (x : Str) (ps : List Str) (k : Nat) (sp : Sp) (n : Nat) (ks : List Str) (ix : List Nat) : Prop :=
  ∃ f fd, FnG P w K mg base CX k f fd ps sp ∧ mg x = some (.ref f) ∧ PySem.W.keepIn K (.ref f) = true ∧ KBn K fd ps n ks (fun us ws => perm ix (us ++ ws)) (fun vs zs => perm ix (vs ++ zs))
abbrev Ez : L2.St → XK := fun _ => E0
theorem pz0 {X : Cx} (σ : L2.St) : PassesAt CX0 X σ (Ez σ) := fun _ _ _ _ _ _ h => h.elim
theorem pzL {X : Cx} (σ : L2.St) : PassesAt (L2.CX X.prog X.w) X σ (Ez σ) := fun pins H s e s' I c => passL pins σ H s e s' I c
section
variable {X : Cx} {CX : CXT} {k n m : Nat} {ps ks : List Str} {sp : Sp} {E : L2.St → XK} {x : Str} {p pos : Pos} {e : Expr} {es : List Expr} {kws : List Keyword} {t tk : TA} {ix : List Nat}
theorem pe_hG (h : HasG X.prog X.w X.K X.mg X.base CX x ps k sp) (hr : Room k X.A) (hgd : X.A.guards = some []) (hx : ∀ σ, PassesAt CX X σ (E σ)) (ha : PA X (e :: es) t) (hg : Gl X x := by rfl) (hd : (x == ("__debug__" : Str)) = false := by decide)
    (he : starEach (e :: es) X.env = (false, eval e X.env) :: starEach es X.env := by rfl) (hpl : (backTo pos (starEach es X.env)).any (·.1) = false := by rfl) : PE X (.Call (.Name x p) (e :: es) [] pos) (tCallS sp E t) := by
  obtain ⟨f, fd, G, hmg, kp, b⟩ := h
  exact pe_gS G hr hgd hg hmg kp b hx ha hd he hpl
theorem pe_hGN (h : HasGK X.prog X.w X.K X.mg X.base CX x ps k sp n ks ix) (hr : Room k X.A) (hgd : X.A.guards = some []) (hx : ∀ σ, PassesAt CX X σ (E σ)) (ha : PA X (e :: es) t) (hk : PK X kws tk) (hm : ks.length = m := by rfl) (hg : Gl X x := by rfl)
    (hall : (backToKw pos (keywordEach kws X.env)).all (·.1.isSome) = true := by rfl) (hks : (backToKw pos (keywordEach kws X.env)).filterMap (·.1) = ks := by rfl) (hdb : (x == ("__debug__" : Str)) = false := by decide)
    (he : starEach (e :: es) X.env = (false, eval e X.env) :: starEach es X.env := by rfl) (hpl : ((backTo pos (starEach (e :: es) X.env)).any (·.1) || (backToKw pos (keywordEach kws X.env)).any (·.1.isNone)) = false := by rfl) :
    PE X (.Call (.Name x p) (e :: es) kws pos) (tCallNS n m sp (fun vs zs => perm ix (vs ++ zs)) E t tk) := by
  subst hm
  obtain ⟨f, fd, G, hmg, kp, b⟩ := h
  exact pe_gNS G hr hgd hg hmg kp b hx ha hk hall hks hdb he hpl
theorem pe_hGN0 (h : HasGK X.prog X.w X.K X.mg X.base CX x ps k sp 0 ks ix) (hr : Room k X.A) (hgd : X.A.guards = some []) (hx : ∀ σ, PassesAt CX X σ (E σ)) (hk : PK X kws tk) (hm : ks.length = m := by rfl) (hg : Gl X x := by rfl)
    (hall : (backToKw pos (keywordEach kws X.env)).all (·.1.isSome) = true := by rfl) (hks : (backToKw pos (keywordEach kws X.env)).filterMap (·.1) = ks := by rfl) (hdb : (x == ("__debug__" : Str)) = false := by decide)
    (hpl : ((backTo pos (starEach [] X.env)).any (·.1) || (backToKw pos (keywordEach kws X.env)).any (·.1.isNone)) = false := by rfl) :
    PE X (.Call (.Name x p) [] kws pos) (tCallNS 0 m sp (fun vs zs => perm ix (vs ++ zs)) E tNil tk) := by
  subst hm
  obtain ⟨f, fd, G, hmg, kp, b⟩ := h
  exact pe_gNS0 G hr hgd hg hmg kp b hx hk hall hks hdb hpl
end
theorem hasg_of {P : Program} {w : World} {K : PySem.W.Frag} {mg : Str → Option Value} {base : Heap} {CX : CXT} {x qual : Str} {st : Stmt} {f : Addr} {fd : FuncData} {ps : List Str} {k : Nat} {sp : Sp} (Fu : Fun K x qual st f fd) (m : mg x = some (.ref f)) (G : FnG P w K mg base CX k f fd ps sp)
    (h : ∀ (kV doc pm : Value) (an : Option Addr) (cdv ct : Value) (us : List Value), us.length = ps.length → bindArgs (PySem.W.fnOf x qual (defArgs st) (defBody st) (defScope st) .none kV doc pm an cdv ct) ⟨us, []⟩ = pure (ps.zip us)) : HasG P w K mg base CX x ps k sp := ⟨f, fd, G, m, Fu.kp, Fu.binds h⟩
theorem hasgk_of {P : Program} {w : World} {K : PySem.W.Frag} {mg : Str → Option Value} {base : Heap} {CX : CXT} {x qual : Str} {st : Stmt} {f : Addr} {fd : FuncData} {ps : List Str} {k : Nat} {sp : Sp} (Fu : Fun K x qual st f fd) (m : mg x = some (.ref f)) (G : FnG P w K mg base CX k f fd ps sp) (n : Nat) (ks : List Str) (ix : List Nat)
    (h : ∀ (kV doc pm : Value) (an : Option Addr) (cdv ct : Value) (us ws : List Value), us.length = n → ws.length = ks.length → bindArgs (PySem.W.fnOf x qual (defArgs st) (defBody st) (defScope st) .none kV doc pm an cdv ct) ⟨us, ks.zip ws⟩ = pure (ps.zip (perm ix (us ++ ws)))) : HasGK P w K mg base CX x ps k sp n ks ix := by
  obtain ⟨oc, od, kV, doc, pm, an, cdv, ct, osl, rfl, lk, hcd⟩ := Fu.ex
  exact ⟨f, _, G, m, Fu.kp, fun s us ws _ h1 h2 => .of_eq (h kV doc pm an cdv ct us ws h1 h2), fun h1 h2 => vals_perm (h1.append h2) ix⟩
/-! the rules for a def, by values -/
section
variable {P : Program} {w : World} {K : PySem.W.Frag} {mg : Str → Option Value} {base : Heap} {x qual : Str} {st : Stmt} {f : Addr} {fd : FuncData} {N ps : List Str} {k : Nat}
theorem fnG_ok {F : FS} (Fu : Fun K x qual st f fd) (S : FnScope N ps (defScope st)) (len : ∀ ws μ R, F ws μ R → ws.length = ps.length)
    (hbody : ∀ (cdv : Value) (A : Around) (fr : List Env) (s : Shared) (H : Hp) (E : XK), Room k (A.deeper (envOfC qual (defScope st) s.heap.objs.size f cdv)) → (A.deeper (envOfC qual (defScope st) s.heap.objs.size f cdv)).guards = some [] →
      ∃ t, PSs (cxOf CX0 P w K mg base N qual (defScope st) f cdv A fr s H E).nox (defBody st) t ∧ ∀ ws μ R, F ws μ R → AS K t { nx := fun _ μ' => R (.d .none) μ', rt := R } (stG N ws) μ) : FnG P w K mg base CX0 (k + 1) f fd ps (spD K F) := by
  obtain ⟨oc, od, kV, doc, pm, an, cdv, ct, osl, rfl, lk, hcd⟩ := Fu.ex
  refine fnG_of lk hcd S (fun vs H Q E ⟨A, M, μ, ws, R, mo, r, h, _⟩ => by rw [r.length]; exact len ws μ R h) fun A fr s H vs Q E hr hgd ⟨A', M, μ, ws, R, mo, r, h, q⟩ => ?_
  obtain ⟨t, ht, hs⟩ := hbody cdv A fr s H E hr hgd
  exact ⟨t, ht.nox, hs ws μ R h A' M _ H ⟨mo, gr_start r⟩ _ ⟨fun M' σ' H' Γ' μ' c e h => q M' H' _ _ μ' c.mo e (.d .non) h, fun M' H' v w μ' mo' e' r' h => q M' H' v w μ' mo' e' r' h, fun _ _ _ _ _ _ _ h => h.elim, fun _ _ _ _ _ _ _ h => h.elim, fun _ _ _ _ _ _ _ _ _ _ _ _ h => h.elim⟩⟩
theorem fnG_okX {F : FX} (Fu : Fun K x qual st f fd) (S : FnScope N ps (defScope st)) (len : ∀ ws μ R S, F ws μ R S → ws.length = ps.length)
    (hbody : ∀ (cdv : Value) (A : Around) (fr : List Env) (s : Shared) (H : Hp) (E : XK), Room k (A.deeper (envOfC qual (defScope st) s.heap.objs.size f cdv)) → (A.deeper (envOfC qual (defScope st) s.heap.objs.size f cdv)).guards = some [] →
      ∃ t, PSs (cxOf (L2.CX P w) P w K mg base N qual (defScope st) f cdv A fr s H E) (defBody st) t ∧ ∀ ws μ R S, F ws μ R S → AS K t { nx := fun _ μ' => R (.d .none) μ', rt := R, xw := fun c d _ H => E c d H, xc := fun x w _ μ' => S x w μ' } (stG N ws) μ) :
    FnG P w K mg base (L2.CX P w) (k + 1) f fd ps (spX K F) := by
  obtain ⟨oc, od, kV, doc, pm, an, cdv, ct, osl, rfl, lk, hcd⟩ := Fu.ex
  refine fnG_of lk hcd S (fun vs H Q E ⟨A, M, μ, ws, R, S, mo, r, h, _⟩ => by rw [r.length]; exact len ws μ R S h) fun A fr s H vs Q E hr hgd ⟨A', M, μ, ws, R, S, mo, r, h, q, qx⟩ => ?_
  obtain ⟨t, ht, hs⟩ := hbody cdv A fr s H E hr hgd
  exact ⟨t, ht, hs ws μ R S h A' M _ H ⟨mo, gr_start r⟩ _ ⟨fun M' σ' H' Γ' μ' c e h => q M' H' _ _ μ' c.mo e (.d .non) h, fun M' H' v w μ' mo' e' r' h => q M' H' v w μ' mo' e' r' h, fun _ _ _ _ _ _ _ h => h.elim, fun _ _ _ _ _ _ _ h => h.elim,
    fun M' σ' H' Γ' x a d w μ' hc c e h => qx M' H' x a d w μ' hc c.mo e h⟩⟩
end
/-! calls by values -/
section
variable {K : PySem.W.Frag} {Γ : G} {μ : Mu} {R : W → Mu → Prop} {ta tk : TA} {E : L2.St → XK} {xw : L2.WX} {xc : Str → W → G → Mu → Prop} {n m : Nat} {ix : List Nat}
theorem ax_g {F : FS} (h : AXA K ta Γ μ fun ws μ1 => F ws μ1 R) : AX K (tCallS (spD K F) E ta) Γ μ R := fun A M σ H c Q q =>
  h A M σ H c _ fun M1 H1 vs ws μ1 mo1 e1 r1 h1 => ⟨A, M1, μ1, ws, R, mo1, r1, h1, fun M' H' v w μ' mo' e' r' hR => q M' H' v w μ' mo' (e1.trans e') r' hR⟩
theorem ax_gN {F : FS} (h : AXA K ta Γ μ fun ws μ1 => ws.length = n ∧ AXA K tk Γ μ1 fun us μ2 => us.length = m ∧ F (perm ix (ws ++ us)) μ2 R) : AX K (tCallNS n m (spD K F) (fun vs zs => perm ix (vs ++ zs)) E ta tk) Γ μ R := fun A M σ H c Q q =>
  h A M σ H c _ fun M1 H1 vs ws μ1 mo1 e1 r1 ⟨l1, h1⟩ => h1 A M1 σ H1 (c.eff e1 mo1) _ fun M2 H2 zs us μ2 mo2 e2 r2 ⟨l2, h2⟩ =>
    ⟨r1.length.trans l1, r2.length.trans l2, A, M2, μ2, _, R, mo2, vrs_perm ((r1.mono e2.ex e2.pre).append r2) ix, h2, fun M' H' v w μ' mo' e' r' hR => q M' H' v w μ' mo' ((e1.trans e2).trans e') r' hR⟩
/-- called where it does not raise -/
theorem ax_gX {F : FX} (h : AXA K ta Γ μ fun ws μ1 => F ws μ1 R NoX) : AX K (tCallS (spX K F) E ta) Γ μ R := fun A M σ H c Q q =>
  h A M σ H c _ fun M1 H1 vs ws μ1 mo1 e1 r1 h1 => ⟨A, M1, μ1, ws, R, NoX, mo1, r1, h1, fun M' H' v w μ' mo' e' r' hR => q M' H' v w μ' mo' (e1.trans e') r' hR, fun _ _ _ _ _ _ _ _ _ _ z => z.elim⟩
theorem ax_gXN {F : FX} (h : AXA K ta Γ μ fun ws μ1 => ws.length = n ∧ AXA K tk Γ μ1 fun us μ2 => us.length = m ∧ F (perm ix (ws ++ us)) μ2 R NoX) : AX K (tCallNS n m (spX K F) (fun vs zs => perm ix (vs ++ zs)) E ta tk) Γ μ R := fun A M σ H c Q q =>
  h A M σ H c _ fun M1 H1 vs ws μ1 mo1 e1 r1 ⟨l1, h1⟩ => h1 A M1 σ H1 (c.eff e1 mo1) _ fun M2 H2 zs us μ2 mo2 e2 r2 ⟨l2, h2⟩ =>
    ⟨r1.length.trans l1, r2.length.trans l2, A, M2, μ2, _, R, NoX, mo2, vrs_perm ((r1.mono e2.ex e2.pre).append r2) ix, h2, fun M' H' v w μ' mo' e' r' hR => q M' H' v w μ' mo' ((e1.trans e2).trans e') r' hR, fun _ _ _ _ _ _ _ _ _ _ z => z.elim⟩
/-- called where it may raise, by keywords -/
theorem axx_callN {F : FX} (h : AXA K ta Γ μ fun ws μ1 => ws.length = n ∧ AXA K tk Γ μ1 fun us μ2 => us.length = m ∧ F (perm ix (ws ++ us)) μ2 R fun x w μ3 => xc x w Γ μ3) : AXx K xw xc (tCallNS n m (spX K F) (fun vs zs => perm ix (vs ++ zs)) (WE xw) ta tk) Γ μ R := fun A M σ H c x Q q =>
  h A M σ H c _ fun M1 H1 vs ws μ1 mo1 e1 r1 ⟨l1, h1⟩ => h1 A M1 σ H1 (c.eff e1 mo1) _ fun M2 H2 zs us μ2 mo2 e2 r2 ⟨l2, h2⟩ =>
    ⟨r1.length.trans l1, r2.length.trans l2, A, M2, μ2, _, R, _, mo2, vrs_perm ((r1.mono e2.ex e2.pre).append r2) ix, h2, fun M' H' v w μ' mo' e' r' hR => q M' H' v w μ' mo' ((e1.trans e2).trans e') r' hR,
      fun M' H' y a d w μ' hc mo' e' hS => x M' σ H' Γ y a d w μ' hc (c.eff ((e1.trans e2).trans e') mo') ((e1.trans e2).trans e') hS⟩
end
/-! ### the law's end -/
theorem law_callG {P : Program} {w : World} {K : PySem.W.Frag} {mg mb : Str → Option Value} {CX : CXT} {k : Nat} {fa a : Addr} {fd : FuncData} {x : Str} {sp : Sp} {s₁ : Shared} {vs : List Value} {ns : List Int}
    (KX : K.In s₁.heap) (hns : s₁.heap.Ns mainGlobals mg) (hb : s₁.heap.Ns builtinsNs mb) (hbb : ∀ x : Str, x ≠ "__name__" → mb x = bootBuiltins x) (hlim : s₁.heap.NoLimit) (hg : s₁.gens = #[])
    (ha : s₁.heap.get? a = some { cls := .type "list", data := .seq vs.toArray }) (hi : IntsAre vs ns) (hl : ns.length ≤ sizeLine) (hr : Room k callerA)
    (F : ∀ base : Heap, K.In base → base.Ns mainGlobals mg → FnG P w K mg base CX k fa fd [x] sp) (hbd : ∀ (s : Shared) (u : Value), BindsTo s fd ⟨[u], []⟩ [(x, u)])
    (hsp : ∀ H : Hp, Only H → SqL K H a (ns.map V.int) → sp [.ref a] H (fun v _ => v = .bl true) fun _ _ _ => False) (hCX : ∀ H e s', CX [] H s₁ (fun _ _ _ => False) e s' → False) :
    codeAny (model P w) callerA (.call (.ref fa) ⟨[.ref a], []⟩) (fun r s' => r = .ok (.ret (.bool true)) ∧ OldK s₁.heap s'.heap ∧ s'.os = s₁.os ∧ AllBare s'.gens) s₁ := by
  have rv := vals_ints hi
  have core : ∀ H : Hp, Only H → SqL K H a (ns.map V.int) → HOk P w H s₁.heap → (∀ b, H b ≠ none → b = a) → (H a ≠ none → K.lookup a = none) →
      codeAny (model P w) callerA (.call (.ref fa) ⟨[.ref a], []⟩) (fun r s' => r = .ok (.ret (.bool true)) ∧ OldK s₁.heap s'.heap ∧ s'.os = s₁.os ∧ AllBare s'.gens) s₁ := fun H hO hS hok hA hK => by
    have isA : ∀ {b : Addr} {u : HO}, H b = some u → b = a := fun {b u} q => hA b (by rw [q]; simp)
    have noA : ∀ {b : Addr} {o : Obj} {es : Array DictEntry} {ep : Nat}, s₁.heap.get? b = some o → o.data = .dict es ep → H b = none := fun {b o es ep} e d => by
      cases q : H b with
      | none => rfl
      | some u =>
        rw [isA q, ha] at e
        cases e
        cases d
    have toK : ∀ {b : Addr} {m : Str → Option Value}, s₁.heap.Ns b m → (hidT s₁.heap H).Ns b m := fun {b m} ⟨o, es, ep, e, d, r⟩ => ⟨o, es, ep, hidT_get e (noA e d), d, r⟩
    have KB : K.In (hidT s₁.heap H) := fun b o e => hidT_get (KX b o e) (by
      cases q : H b with
      | none => rfl
      | some u =>
        have z := isA q
        subst z
        rw [hK (by rw [q]; simp)] at e
        cases e)
    have md : Mod K mg (hidT s₁.heap H) := ⟨KB, toK hns, ⟨mb, toK hb, hbb⟩, let ⟨mc, h1, h2⟩ := hlim; ⟨mc, toK h1, h2⟩⟩
    have e0 : Env0 P w K mg (hidT s₁.heap H) callerA [] s₁ H := ⟨rfl, md, fun b o e => of_hidT e, Nat.le_of_eq (hidT_size _ _), trivial, fun b hb => (by cases hb), hok, .of_eq hg⟩
    refine codeAny_mono ((F _ KB (toK hns)).go callerA [] s₁ H ⟨[.ref a], []⟩ [.ref a] [.ref a] _ _ hr rfl e0 (hbd s₁ (.ref a)) (.cons rfl .nil) (hsp H hO hS)) fun r s' h => ?_
    match r, h with
    | .error e, h => exact (hCX H e s' h).elim
    | .ok (.ret u), ⟨v, H', os, bare, un, hok', r', q⟩ =>
      have q' : v = .bl true := q
      subst q'
      obtain rfl : u = Value.bool true := r'
      refine ⟨rfl, OldK.of_keep fun b o e => ?_, os, bare⟩
      cases q : H b with
      | none => exact un.keep b o e q (fun z => by cases z) (by simp)
      | some u =>
        rcases hO b with z | ⟨ob, xs, z⟩
        · rw [q] at z
          cases z
        · have e1 := (hok b _ z).1
          have e2 := (hok' b _ (un.frzs b ob _ z)).1
          rw [e] at e1
          cases e1
          exact e2
  cases hk : K.lookup a with
  | some o =>
    have e := KX a o hk
    rw [ha] at e
    cases e
    exact core (fun _ => none) (fun _ => .inl rfl) (.inr ⟨_, vs.toArray, _, hk, rfl, rfl, rfl, by rw [List.size_toArray, hi.length]; exact hl, by simpa using rv⟩) (fun b u z => by cases z) (fun b z => (z rfl).elim) fun z => (z rfl).elim
  | none =>
    have some_of : ∀ {b : Addr} {u : HO}, (if b = a then some (HO.frz { cls := .type "list", data := .seq vs.toArray } (.lst (ns.map V.int))) else none) = some u → b = a ∧ u = .frz { cls := .type "list", data := .seq vs.toArray } (.lst (ns.map V.int)) := fun {b u} z => by
      by_cases hb : b = a
      · rw [if_pos hb] at z
        exact ⟨hb, (Option.some.inj z).symm⟩
      · rw [if_neg hb] at z
        cases z
    refine core (fun b => if b = a then some (.frz { cls := .type "list", data := .seq vs.toArray } (.lst (ns.map V.int))) else none) (fun b => ?_) (.inl (.inr ⟨{ cls := .type "list", data := .seq vs.toArray }, if_pos rfl⟩)) (fun b u z => ?_) (fun b z => ?_) fun _ => hk
    · by_cases hb : b = a
      · exact .inr ⟨_, _, if_pos hb⟩
      · exact .inl (if_neg hb)
    · obtain ⟨rfl, rfl⟩ := some_of z
      exact ⟨ha, by rw [List.length_map]; exact hl, vs, _, rv, ha⟩
    · by_cases hb : b = a
      · exact hb
      · exact (z (if_neg hb)).elim
/-- the goal that k_head leaves, from the law's promise -/
theorem walk_ofG {l : PySem.W.OpenLaw} {n k : Nat} {q : Program} {loose : List Str} {XP : (Str → Option Value) → Heap → Prop} {YP : World → Heap → Prop} {d : DefRec} {K : Params → PySem.W.Frag} {CX : World → CXT} {sp : World → Sp} {x : Str}
    (hn : l.most = some n) (hn2 : n ≤ sizeLine) (hdf : d.params.defaults = []) (hr : Room k callerA) (hY : ∀ (w : World) (h : Heap), YP w h → (K w.params).In h)
    (F : ∀ (w : World) (mg : Str → Option Value) (fa : Addr) (h : Heap), (K w.params).In h → h.Ns mainGlobals mg → mg d.name = some (.ref fa) →
      ∃ fd : FuncData, (∀ (s : Shared) (u : Value), BindsTo s fd ⟨[u], []⟩ [(x, u)]) ∧ ∀ base : Heap, (K w.params).In base → base.Ns mainGlobals mg → FnG l.prog w (K w.params) mg base (CX w) k fa fd [x] (sp w))
    (hsp : ∀ (w : World) (H : Hp) (a : Addr) (ns : List Int), ns.length ≤ n → Only H → SqL (K w.params) H a (ns.map V.int) → sp w [.ref a] H (fun v _ => v = .bl true) fun _ _ _ => False)
    (hCX : ∀ (w : World) (H : Hp) (s : Shared) (e : Value) (s' : Shared), CX w [] H s (fun _ _ _ => False) e s' → False) : PySem.W.WalkO q loose XP YP l.row.toRowW d [] (fun f vs => PySem.call f vs) :=
  Att.attach_call hn hdf fun w s₀ s₁ mg mb fa o pm cd doc a vs ns G Y ho hd hcd hmg hobj hints hlen hg => by
    have KX := hY w _ Y
    obtain ⟨fd, hb, hF⟩ := F w mg fa _ KX G.T.g hmg
    exact law_callG KX G.T.g G.T.b G.T.builtins G.T.nolimit hg hobj hints (Nat.le_trans hlen hn2) hr hF hb (fun H hO hS => hsp w H a ns hlen hO hS) fun H e s' => hCX w H s₁ e s'
end Pd

/-! Pd11: repr of data. -/
namespace Pd
open PySem PySem.Spec L2
open Evl (Ex)
open PyProof.Rows
/-- data that may be shown -/
structure Shw (d : PyData) : Prop where
  s : d.showable = true
  n : d.hasDict = false
  dp : d.depth ≤ 60
  ln : d.shown.length ≤ sizeLine
mutual
/-- integers below 10 ** 50, proper texts, no dicts -/
def bd : PyData → Prop
  | .none | .bool _ => True
  | .int i => i.natAbs < 10 ^ 50
  | .str x => ∀ c ∈ x.cps.toList, c < 16 ^ 8
  | .list xs | .tuple xs => bds xs
  | .dict _ => False
def bds : List PyData → Prop
  | [] => True
  | x :: xs => bd x ∧ bds xs
end
mutual
def nd : PyData → Nat
  | .none | .bool _ | .int _ => 1
  | .str x => x.cps.size + 1
  | .list xs | .tuple xs => nds xs + 1
  | .dict _ => 1
def nds : List PyData → Nat
  | [] => 0
  | x :: xs => nd x + nds xs
end
theorem log_of {n : Nat} (h : n < 10 ^ 50) : n.log2 < 167 := by
  by_cases z : n = 0
  · subst z
    decide
  · exact (Nat.log2_lt z).mpr (Nat.lt_trans h (by decide))
mutual
theorem bd_all : ∀ d : PyData, bd d → d.showable = true ∧ d.hasDict = false ∧ d.leavesShort 60 = true ∧ d.weight + 1 ≤ 200 * nd d
  | .none, _ => ⟨rfl, rfl, rfl, by decide⟩
  | .bool _, _ => ⟨rfl, rfl, rfl, by simp [PyData.weight, nd]⟩
  | .int i, h => by
    have h' : i.natAbs < 10 ^ 50 := h
    have l := log_of h'
    refine ⟨decide_eq_true (Nat.lt_trans l (by decide)), rfl, decide_eq_true ?_, ?_⟩
    · have e := int_text_length_le10 (a := i) (k := 50) (by decide) h'
      have e2 : (PyData.shown (.int i)).length = (toString i).length := by
        show (Str.ofString (toString i)).length = _
        exact PySem.ofString_length _
      omega
    · show (if i == 0 then 0 else i.natAbs.log2 + 1) + 1 ≤ 200 * 1
      split <;> omega
  | .str x, h => ⟨rfl, rfl, by
      have h' : ∀ c ∈ x.cps.toList, c < 16 ^ 8 := h
      show (x.cps.toList.all fun c => decide (c < 16 ^ 8)) = true
      rw [List.all_eq_true]
      exact fun c m => decide_eq_true (h' c m), by
      show x.cps.size + 1 ≤ 200 * (x.cps.size + 1)
      omega⟩
  | .list xs, h => by
    obtain ⟨a, b, c, e⟩ := bds_all xs h
    exact ⟨a, b, c, by show PyData.weightAll xs + 1 ≤ 200 * (nds xs + 1); omega⟩
  | .tuple xs, h => by
    obtain ⟨a, b, c, e⟩ := bds_all xs h
    exact ⟨a, b, c, by show PyData.weightAll xs + 1 ≤ 200 * (nds xs + 1); omega⟩
  | .dict _, h => h.elim
theorem bds_all : ∀ xs : List PyData, bds xs → PyData.showableAll xs = true ∧ PyData.hasDictAll xs = false ∧ PyData.leavesShortAll 60 xs = true ∧ PyData.weightAll xs ≤ 200 * nds xs
  | [], _ => ⟨rfl, rfl, rfl, Nat.zero_le _⟩
  | x :: xs, h => by
    obtain ⟨a, b, c, e⟩ := bd_all x h.1
    obtain ⟨a', b', c', e'⟩ := bds_all xs h.2
    refine ⟨?_, ?_, ?_, ?_⟩
    · simp [PyData.showableAll, a, a']
    · simp [PyData.hasDictAll, b, b']
    · simp [PyData.leavesShortAll, c, c']
    · show PyData.weight x + 1 + PyData.weightAll xs ≤ 200 * (nd x + nds xs)
      omega
end
theorem shw_of {d : PyData} (h : bd d) (hn : nd d ≤ 1000) (hd : d.depth ≤ 60) : Shw d := by
  obtain ⟨a, b, c, e⟩ := bd_all d h
  refine ⟨a, b, hd, ?_⟩
  have := PyData.shown_le 60 (by decide) d c
  rw [sizeLine_eq]
  omega
theorem bds_ints : ∀ {ns : List Int}, (∀ n ∈ ns, n.natAbs < 10 ^ 50) → bds (ns.map PyData.int)
  | [], _ => trivial
  | n :: ns, h => ⟨h n (.head _), bds_ints fun m k => h m (.tail _ k)⟩
theorem nds_ints : ∀ ns : List Int, nds (ns.map PyData.int) = ns.length
  | [] => rfl
  | n :: ns => by
    show 1 + nds (ns.map PyData.int) = ns.length + 1
    rw [nds_ints ns]
    omega
theorem shw_ints {ns : List Int} (h : ∀ n ∈ ns, n.natAbs < 10 ^ 50) (hl : ns.length ≤ 900) : Shw (dInts ns) :=
  shw_of (bds_ints h) (by show nds (ns.map PyData.int) + 1 ≤ 1000; rw [nds_ints]; omega) (by have := depthAll_ints ns; simp only [dInts, PyData.depth]; omega)
def rRep (K : PySem.W.Frag) : List V → Hp → VK → Prop := fun xs H Q => ∃ v d, xs = [v] ∧ Dp K H v d ∧ Shw d ∧ Q (.str d.shown) H
theorem call_rep {X : Cx} (hg : X.A.guards = some []) (hu : X.A.units + 64 < cLine) : CallR X (.builtin "repr") (rRep X.K) := by
  intro pins s σ H xs us Q I r h
  obtain ⟨v, d, rfl, hd, S, q⟩ := h
  cases r with
  | @cons _ u _ _ rv rn =>
    cases rn
    have viaRef : ∀ a : Addr, v = .ref a → wpAny (model X.prog X.w) X.A (call (.builtin "repr") [u]) (EP X pins σ Q) X.xe s := fun a e => by
      subst e
      obtain rfl : u = Value.ref a := rv
      obtain ⟨as, rd⟩ := Dp.reads I d _ _ hd rfl
      refine repr_of_reads' rd S.s (fun z => by rw [S.n] at z; cases z) hg (by have := S.dp; omega) (fun _ _ e => e) (fun h' t tk k => ⟨.str d.shown, H, ?_, ⟨_, rfl⟩, q⟩) S.ln
      exact I.kept (t' := tk) k
    cases hd with
    | non =>
      obtain rfl : u = Value.none := rv
      exact PySem.P.repr_of_none ⟨.str (PyData.shown .none), H, I.tok _, ⟨_, rfl⟩, q⟩
    | bl b =>
      obtain rfl : u = Value.bool b := rv
      exact PySem.P.repr_of_bool ⟨.str (PyData.shown (.bool b)), H, I.tok _, ⟨_, by cases b <;> rfl⟩, q⟩
    | int i =>
      obtain ⟨t, rfl⟩ := rv
      exact PySem.P.repr_of_int (of_decide_eq_true S.s) ⟨.str (PyData.shown (.int i)), H, I.tok _, ⟨_, rfl⟩, q⟩
    | str x =>
      obtain ⟨t, rfl⟩ := rv
      exact PySem.P.repr_of_str ⟨.str (PyData.shown (.str x)), H, I.tok _, ⟨_, rfl⟩, q⟩ S.ln
    | lst _ _ => exact viaRef _ rfl
    | tup _ _ => exact viaRef _ rfl
theorem c_rep {K : PySem.W.Frag} {μ : Mu} {R : W → Mu → Prop} {x : W} {d : PyData} (hx : Rs μ x d) (S : Shw d) (q : R (.d (.str d.shown)) μ) : AC K (rRep K) [x] μ R := fun A M H vs mo rs Q h => by
  cases rs with
  | cons rw rn =>
    cases rn
    exact ⟨_, d, rfl, hx.dp mo rw, S, h M H _ _ μ mo Eff.refl (.d (.str _)) q⟩
/-- the module's x is the constant v -/
def Cst (mg : Str → Option Value) (x : Str) (v : V) : Prop := ∃ u, mg x = some u ∧ RelV v u
theorem pe_con0 {X : Cx} {x : Str} {v : V} {pos : Pos} (h : Cst X.mg x v) (hg : Gl X x) (hd : (x == ("__debug__" : Str)) = false := by decide) : PE X (.Name x pos) (tC v) := by
  obtain ⟨u, hm, r⟩ := h
  exact pe_glob hg hm r hd
end Pd

/-! Pd12: shorter readings: pure comprehensions, draws, clauses. -/
namespace Pd
open PySem PySem.Spec L2
open Evl (Ex)
open PyProof.Rows
section
variable {K : PySem.W.Frag} {Γ : G} {μ : Mu} {R : W → Mu → Prop} {wi : TI} {g : TG} {te : TE} {vs : List Nat}
theorem ai_weak {RI RI' : List W → (Mu → Prop) → Mu → Prop} (h : AI K wi Γ μ RI) (k : ∀ items S μ', RI items S μ' → RI' items S μ') : AI K wi Γ μ RI' := fun A M σ H c Q q => h A M σ H c Q fun M' H' J items S μ' mo e hJ hR => q M' H' J items S μ' mo e hJ (k _ _ _ hR)
theorem ag_weak {w : W} {RG RG' : G → Mu → Prop} (h : AG K g w Γ μ RG) (k : ∀ Γ' μ', RG Γ' μ' → RG' Γ' μ') : AG K g w Γ μ RG' := fun A M σ H v c r Q q => h A M σ H v c r Q fun M' σ' H' Γ' μ' c' e hR => q M' σ' H' Γ' μ' c' e (k _ _ hR)
/-- a comprehension that changes nothing -/
theorem ax_lcP {α : Type} (f : α → W) (ns : List α) (gf : α → W) (hz : ns.length ≤ sizeLine) (hw : WipeOk g vs) (h : AI K wi Γ μ fun items S μ1 => items = ns.map f ∧ S μ ∧ μ1 = μ)
    (hs : ∀ x, x ∈ ns → AG K g (f x) (wipeG Γ vs) μ fun Γ2 μ2 => AX K te Γ2 μ2 fun w μ4 => w = gf x ∧ μ4 = μ) (q : NL (ns.map gf) μ R) : AX K (tLc wi g tYes te vs) Γ μ R := by
  refine ax_lc f ns (fun pre acc μ' => acc = pre.map gf ∧ μ' = μ) hz hw ?_ ?_ ?_
  · refine ai_weak h fun items S μ1 ⟨a, b, c⟩ => ⟨a, fun pre acc μ' e => ?_, rfl, c⟩
    rw [e.2]
    exact b
  · rintro pre x post acc μ' e hl ⟨rfl, rfl⟩
    refine ag_weak (hs x (by rw [e]; simp)) fun Γ2 μ2 h2 => at_yes ?_
    rw [if_pos rfl]
    exact ax_weak h2 fun w μ4 ⟨a, b⟩ => ⟨by rw [a]; simp, b⟩
  · rintro acc μ' ⟨rfl, rfl⟩
    exact q
theorem ax_lcI {α : Type} (f : α → W) (ns : List α) (gf : α → Int) (hz : ns.length ≤ sizeLine) (hw : WipeOk g vs) (h : AI K wi Γ μ fun items S μ1 => items = ns.map f ∧ S μ ∧ μ1 = μ)
    (hs : ∀ x, x ∈ ns → AG K g (f x) (wipeG Γ vs) μ fun Γ2 μ2 => AX K te Γ2 μ2 fun w μ4 => w = .d (.int (gf x)) ∧ μ4 = μ) (q : NL (wInts (ns.map gf)) μ R) : AX K (tLc wi g tYes te vs) Γ μ R :=
  ax_lcP f ns (fun x => .d (.int (gf x))) hz hw h hs (by
    have e : ns.map (fun x => W.d (.int (gf x))) = wInts (ns.map gf) := by simp [wInts]
    rw [e]
    exact q)
/-- all([.. for ..]) -/
theorem ax_allP {α : Type} (f : α → W) (ns : List α) (pf : α → Bool) (hz : ns.length ≤ sizeLine) (hw : WipeOk g vs) (h : AI K wi Γ μ fun items S μ1 => items = ns.map f ∧ S μ ∧ μ1 = μ)
    (hs : ∀ x, x ∈ ns → AG K g (f x) (wipeG Γ vs) μ fun Γ2 μ2 => AX K te Γ2 μ2 fun w μ4 => w = .d (.bool (pf x)) ∧ μ4 = μ) (q : R (.d (.bool (ns.all pf))) μ) : AX K (tCB (rAll K) (tCons (tLc wi g tYes te vs) tNil)) Γ μ R := by
  refine ax_cb (aa_cons (ax_lcP f ns (fun x => .d (.bool (pf x))) hz hw h hs (NL.d (xs := ns.map fun x => PyData.bool (pf x)) ?_ (by simp))))
  refine aa_nil (ac_all (bs := ns.map pf) ?_ ?_)
  · have e : (ns.map pf).map (fun n => W.d (.bool n)) = (ns.map fun x => PyData.bool (pf x)).map W.d := by simp
    rw [e]
    exact .d _
  · have e : (ns.map pf).all id = ns.all pf := by simp [List.all_map]
    rw [e]
    exact q
theorem as_raiseE {D : AEn} {ta : TA} {x : PySem.Str} {xw : L2.WX} (hx : D.xw = xw) (h : AXA K ta Γ μ fun ws μ1 => ∃ w, ws = [w] ∧ D.xc x w Γ μ1) : AS K (tRaiseE K x xw ta) D Γ μ := by
  subst hx
  exact as_raise h
end
/-- as ax_lc, the list told once the iterator is made -/
theorem ax_lcD {K : PySem.W.Frag} {Γ : G} {μ : Mu} {wi : TI} {g : TG} {tt : TT} {te : TE} {vs : List Nat} {R : W → Mu → Prop} {α : Type} (f : α → W) (hw : WipeOk g vs)
    (h : AI K wi Γ μ fun items S μ1 => ∃ (ns : List α) (I : List α → List W → Mu → Prop), items = ns.map f ∧ ns.length ≤ sizeLine ∧ (∀ pre acc μ', I pre acc μ' → S μ') ∧ I [] [] μ1 ∧
      (∀ pre x post acc μ', ns = pre ++ x :: post → acc.length ≤ pre.length → I pre acc μ' → AG K g (f x) (wipeG Γ vs) μ' fun Γ2 μ2 => AXT K tt Γ2 μ2 fun b μ3 => if b = true then AX K te Γ2 μ3 fun w μ4 => I (pre ++ [x]) (acc ++ [w]) μ4 else I (pre ++ [x]) acc μ3) ∧
      ∀ acc μ', I ns acc μ' → NL acc μ' R) : AX K (tLc wi g tt te vs) Γ μ R := fun A M σ H cn Q q =>
  h A M σ H cn _ fun M1 H1 J items S μ1 mo1 e1 hJ ⟨ns, I, hi, hz, hS, h0, hs, hd⟩ => by
    subst hi
    intro p hp
    have hA : ¬ A p := fun z => mo1.aA p z hp
    refine ⟨fun i m H' => i ≤ ns.length ∧ m = ns.length - i ∧ LcI K A M1 μ1 H1 p (fun acc μ' => acc.length ≤ i ∧ I (ns.take i) acc μ') H',
      ⟨ns.length, Nat.zero_le _, rfl, M1, μ1, [], [], upd_same, mo1.add hp, by rw [delH_upd2, delH_none hp]; exact Eff.refl, .nil, Nat.le_refl _, h0⟩, fun i m H' hW => ?_⟩
    obtain ⟨hi, rfl, M', μ', us, acc, hu, mo', e', ru, hal, hI⟩ := hW
    have hex : Ex (vw A M1 μ1 H1) (vw (addA A p) M' μ' H') := by
      rw [vw_add]
      exact e'.ex
    have hit := hJ (addA A p) M' H' μ' mo' hex e'.pre (hS _ _ _ hI) i
    by_cases hlt : i < ns.length
    · have hx : ns[i]? = some ns[i] := List.getElem?_eq_getElem hlt
      have hw' : (ns.map f)[i]? = some (f ns[i]) := by rw [List.getElem?_map, hx]; rfl
      obtain ⟨hgo, hy⟩ := hit.1 _ hw'
      refine .inr ⟨hgo, LcI K A M1 μ1 H1 p (fun acc μ' => acc.length ≤ i + 1 ∧ I (ns.take (i + 1)) acc μ'), fun H2 h2 => ⟨ns.length - (i + 1), by omega, hlt, rfl, h2⟩, fun x H2 hyld => ?_⟩
      obtain ⟨ex2, rx⟩ := hy x H2 hyld
      have eH2 : Eff (addA A p) M' μ' H' M' μ' H2 := Eff.of_ex ex2
      have c0 : GR K (vw A M1 μ1 H1) M1 (wipe σ vs) (wipeG Γ vs) := (cn.gr.mono e1.ex e1.pre).wipeG vs
      have c2 : Cn K (addA A p) M' (wipe σ vs) H2 (wipeG Γ vs) μ' := ⟨mo'.ex ex2, (c0.mono hex e'.pre).mono (vw_ex ex2) (Pre.refl _)⟩
      have hlen : (ns.take i).length = i := by rw [List.length_take]; omega
      refine hw x σ H2 _ ?_
      refine hs (ns.take i) ns[i] (ns.drop (i + 1)) acc μ' (split_at hx) (by omega) hI (addA A p) M' (wipe σ vs) H2 x c2 rx _ fun M3 σ3 H3 Γ3 μ3 c3 e3 h3 => ?_
      refine h3 (addA A p) M3 σ3 H3 c3 _ fun M4 H4 b μ4 mo4 e4 h4 => ?_
      have eA : Eff (addA A p) M' μ' H' M4 μ4 H4 := (eH2.trans e3).trans e4
      have hu4 : H4 p = some (.lst us) := eA.own p _ (.inr rfl) hu
      cases b with
      | false =>
        refine ⟨M4, μ4, us, acc, hu4, mo4, e'.trans eA.del2, ru.mono eA.ex eA.pre, by omega, ?_⟩
        rw [take_snoc hx]
        exact h4
      | true =>
        refine h4 (addA A p) M4 σ3 H4 (c3.eff e4 mo4) _ fun M5 H5 y w μ5 mo5 e5 r5 h5 => ?_
        have eB : Eff (addA A p) M' μ' H' M5 μ5 H5 := eA.trans e5
        have hu5 : H5 p = some (.lst us) := eB.own p _ (.inr rfl) hu
        have rus : VRs K (vw (addA A p) M5 μ5 H5) M5 (us ++ [y]) (acc ++ [w]) := (ru.mono eB.ex eB.pre).snoc r5
        refine ⟨us, hu5, ?_, M5, μ5, us ++ [y], acc ++ [w], upd_same, mo5.wr, ?_, ?_, by simp; omega, ?_⟩
        · rw [ru.length]
          omega
        · rw [delH_upd2]
          exact e'.trans eB.del2
        · rw [vw_add, delH_upd2, ← vw_add]
          exact rus
        · rw [take_snoc hx]
          exact h5
    · have hei : i = ns.length := by omega
      subst hei
      refine .inl ⟨hit.2 (by simp), ?_⟩
      rw [List.take_length] at hI
      have md := mo'.del hA
      have rd : VRs K (vw A M' μ' (delH H' p)) M' us acc := by
        rw [← vw_add]
        exact ru
      obtain ⟨M2, μ2, w, m2, e2, r2, hR⟩ := (hd acc μ' hI).use md rd (show delH H' p p = none from if_pos rfl)
      rw [delH_upd hu] at m2 e2 r2
      exact q M2 H' _ w μ2 m2 ((e1.trans e').trans e2) r2 hR
/-- as as_for, the list told once the iterator is made -/
theorem as_forD {K : PySem.W.Frag} {Γ : G} {μ : Mu} {wi : TI} {g : TG} {tb : TS} {D : AEn} {α : Type} (f : α → W)
    (h : AI K wi Γ μ fun items S μ1 => ∃ (ns : List α) (I : List α → G → Mu → Prop), items = ns.map f ∧ (∀ pre Γ' μ', I pre Γ' μ' → S μ') ∧ I [] Γ μ1 ∧
      (∀ pre x post Γ' μ', ns = pre ++ x :: post → I pre Γ' μ' → AG K g (f x) Γ' μ' fun Γ2 μ2 => AS K tb { D with nx := I (pre ++ [x]), ct := I (pre ++ [x]), bk := D.nx } Γ2 μ2) ∧
      ∀ Γ' μ', I ns Γ' μ' → D.nx Γ' μ') : AS K (tFor wi g tb) D Γ μ := fun A M σ H cn E hE =>
  h A M σ H cn _ fun M1 H1 J items S μ1 mo1 e1 hJ ⟨ns, I, hi, hS, h0, hs, hd⟩ => by
    subst hi
    refine ⟨fun i m σ' H' => ∃ M' Γ' μ', Cn K A M' σ' H' Γ' μ' ∧ Eff A M1 μ1 H1 M' μ' H' ∧ i ≤ ns.length ∧ m = ns.length - i ∧ I (ns.take i) Γ' μ',
      ⟨ns.length, M1, Γ, μ1, cn.eff e1 mo1, Eff.refl, Nat.zero_le _, rfl, h0⟩, fun i m σ' H' hW => ?_⟩
    obtain ⟨M', Γ', μ', c', e', hi, rfl, hI⟩ := hW
    have hit := hJ A M' H' μ' c'.mo e'.ex e'.pre (hS _ _ _ hI) i
    by_cases hlt : i < ns.length
    · have hx : ns[i]? = some ns[i] := List.getElem?_eq_getElem hlt
      have hw : (ns.map f)[i]? = some (f ns[i]) := by rw [List.getElem?_map, hx]; rfl
      obtain ⟨hgo, hy⟩ := hit.1 _ hw
      refine .inr ⟨hgo, fun σ2 H2 => ∃ M2 Γ2 μ2, Cn K A M2 σ2 H2 Γ2 μ2 ∧ Eff A M1 μ1 H1 M2 μ2 H2 ∧ I (ns.take (i + 1)) Γ2 μ2,
        fun σ2 H2 ⟨M2, Γ2, μ2, c2, e2, hI2⟩ => ⟨ns.length - (i + 1), by omega, M2, Γ2, μ2, c2, e2, hlt, rfl, hI2⟩, fun x H2 hyld => ?_⟩
      obtain ⟨ex2, rx⟩ := hy x H2 hyld
      have e2' : Eff A M' μ' H' M' μ' H2 := Eff.of_ex ex2
      refine hs (ns.take i) ns[i] (ns.drop (i + 1)) Γ' μ' (split_at hx) hI A M' σ' H2 x (c'.ex ex2) rx _ fun M3 σ3 H3 Γ3 μ3 c3 e3 h3 => ?_
      have e13 : Eff A M1 μ1 H1 M3 μ3 H3 := (e'.trans e2').trans e3
      refine h3 A M3 σ3 H3 c3 _ ⟨fun M4 σ4 H4 Γ4 μ4 c4 e4 h4 => ?_, fun M4 H4 v w μ4 m4 e4 r4 h4 => hE.rt M4 H4 v w μ4 m4 ((e1.trans e13).trans e4) r4 h4, fun M4 σ4 H4 Γ4 μ4 c4 e4 h4 => hE.nx M4 σ4 H4 Γ4 μ4 c4 ((e1.trans e13).trans e4) h4, fun M4 σ4 H4 Γ4 μ4 c4 e4 h4 => ?_, hE.xx.after (e1.trans e13)⟩
      · refine ⟨M4, Γ4, μ4, c4, e13.trans e4, ?_⟩
        rw [take_snoc hx]
        exact h4
      · refine ⟨M4, Γ4, μ4, c4, e13.trans e4, ?_⟩
        rw [take_snoc hx]
        exact h4
    · have hei : i = ns.length := by omega
      subst hei
      refine .inl ⟨hit.2 (by simp), ?_⟩
      rw [List.take_length] at hI
      exact hE.nx M' σ' H' Γ' μ' c' (e1.trans e') (hd Γ' μ' hI)
theorem ax_xvV {K : PySem.W.Frag} {Γ : G} {μ : Mu} {R : W → Mu → Prop} {a C d : Addr} {x : PySem.Str} {k i : Nat} {w : W} (hx : ErrV K x) (hC : clA K x C) (hi : Γ[i]? = some (some (.k (.ref a)))) (hk : μ[k]? = some (some (.xd d w))) (q : R w μ) : AX K (tXv K a (.ref C) (some d) (tVar i)) Γ μ R :=
  ax_xv hx hC (ax_var hi ⟨rfl, hk, q⟩)
theorem set_self {μ : Mu} {k : Nat} {c : Option C} (h : μ[k]? = some c) : μ.set k c = μ := by
  apply List.ext_getElem?
  intro j
  rw [List.getElem?_set]
  by_cases e : k = j
  · subst e
    rw [if_pos rfl, if_pos (List.getElem?_eq_some_iff.mp h).1, h]
  · rw [if_neg e]
theorem eqv_rs {d : PyData} (h : SeqAt.shaped d = true) : PyData.eqv d d = true := SeqAt.eqv_refl d (SeqAt.canLay_of_shaped h)
/-! ### the list that is drawn from -/
def PotOk (n : Nat) (c : Option C) : Prop := ∃ a b k : Int, c = some (.lst (wInts [a, b, k])) ∧ 0 ≤ a ∧ 0 ≤ b ∧ b < 2 ^ 200 ∧ 0 ≤ k ∧ k ≤ n
theorem PotOk.le {n m : Nat} {c : Option C} (h : PotOk n c) (e : n ≤ m) : PotOk m c := let ⟨a, b, k, h0, h1, h2, h3, h4, h5⟩ := h; ⟨a, b, k, h0, h1, h2, h3, h4, by omega⟩
def F_draw : FS := fun ws μ R => ∃ k many p n, ws = [.m k, .d (.int many)] ∧ μ[k]? = some p ∧ PotOk n p ∧ n ≤ 1000000 ∧ 0 < many ∧ many < 2 ^ 200 ∧ ∀ r p', 0 ≤ r → r < many → PotOk (n + 1) p' → R (.d (.int r)) (μ.set k p')
theorem draw_at {μ : Mu} {R : W → Mu → Prop} {k : Nat} {many : Int} {p : Option C} {n : Nat} (hk : μ[k]? = some p) (hp : PotOk n p) (hn : n ≤ 1000000) (h0 : 0 < many) (h1 : many < 2 ^ 200) (q : ∀ r p', 0 ≤ r → r < many → PotOk (n + 1) p' → R (.d (.int r)) (μ.set k p')) : F_draw [.m k, .d (.int many)] μ R := ⟨k, many, p, n, rfl, hk, hp, hn, h0, h1, q⟩
theorem Keeps.pot {μ : Mu} {k n : Nat} {p : Option C} (h : PotOk n p) : Keeps μ (μ.set k p) := by
  obtain ⟨a, b, c, rfl, _⟩ := h
  exact Keeps.set (xs := [.int a, .int b, .int c])
/-! ### what the clauses do -/
section
variable {K : PySem.W.Frag} {D : AEn} {x y : PySem.Str} {w : W} {Γ : G} {μ : Mu} {i : Nat} {ts : Addr → PySem.Value → Option Addr → TS} {r : List Hn}
theorem hX_yes (h : SubIs K x y true) (q : ∀ a C d, clA K x C → AS K (ts a (.ref C) (some d)) { D with nx := fun g m => D.nx (g.set i none) m, bk := fun g m => D.bk (g.set i none) m, ct := fun g m => D.ct (g.set i none) m } (Γ.set i (some (.k (.ref a)))) (μ ++ [some (.xd d w)])) :
    hX K D (⟨y, some i, ts⟩ :: r) x w Γ μ := ⟨true, h, fun _ a C d hc => q a C d hc, fun z => by cases z⟩
theorem hX_yesA (h : SubIs K x y true) (q : ∀ a C d, clA K x C → AS K (ts a (.ref C) (some d)) D Γ (μ ++ [some (.xd d w)])) : hX K D (⟨y, none, ts⟩ :: r) x w Γ μ := ⟨true, h, fun _ a C d hc => q a C d hc, fun z => by cases z⟩
theorem hX_no {j : Option Nat} (h : SubIs K x y false) (q : hX K D r x w Γ μ) : hX K D (⟨y, j, ts⟩ :: r) x w Γ μ := ⟨false, h, fun z => absurd z (by decide), fun _ => q⟩
end
end Pd

namespace M72
/-- what run_of finds -/
inductive Run
  | step (a b : Int)
  | round (ys : List Int)
def g (xs : List Int) (i : Nat) : Int := (xs[i]?).getD 0
def Run.at : Run → Int → Int
  | .step a b, p => a + p * b
  | .round ys, p => g ys (p % ys.length).toNat
def Run.ok : Run → Prop
  | .step _ _ => True
  | .round ys => ys ≠ [] ∧ ys.length ≤ 100
def Stp (xs : List Int) : Prop := 1 < xs.length ∧ ∀ i, i + 1 < xs.length → g xs (i + 1) - g xs i = g xs 1 - g xs 0
def Rnd (xs : List Int) (s : Nat) : Prop := ∀ i, i < xs.length → g xs i = g xs (i % s)
def IsRun (xs : List Int) (r : Run) : Prop := (Stp xs ∧ r = .step (g xs 0) (g xs 1 - g xs 0)) ∨ (¬ Stp xs ∧ ∃ s, 1 ≤ s ∧ s ≤ xs.length ∧ Rnd xs s ∧ (∀ t, 1 ≤ t → t < s → ¬ Rnd xs t) ∧ r = .round (xs.take s))
theorem g_get {xs : List Int} {i : Nat} (h : i < xs.length) : xs[i]? = some (g xs i) := by
  unfold g
  rw [List.getElem?_eq_getElem h]
  rfl
theorem g_mem {xs : List Int} {i : Nat} (h : i < xs.length) : g xs i ∈ xs := by
  have := g_get h
  exact List.mem_of_getElem? this
theorem g_take {xs : List Int} {i s : Nat} (h : i < s) : g (xs.take s) i = g xs i := by
  unfold g
  rw [List.getElem?_take, if_pos h]
theorem rnd_len (xs : List Int) : Rnd xs xs.length := fun i h => by rw [Nat.mod_eq_of_lt h]
theorem IsRun.uniq {xs : List Int} {r r' : Run} (h : IsRun xs r) (h' : IsRun xs r') : r = r' := by
  rcases h with ⟨a, rfl⟩ | ⟨a, s, s1, s2, s3, s4, rfl⟩ <;> rcases h' with ⟨a', rfl⟩ | ⟨a', s', s1', s2', s3', s4', rfl⟩
  · rfl
  · exact absurd a a'
  · exact absurd a' a
  · have e : s = s' := by
      rcases Nat.lt_trichotomy s s' with z | z | z
      · exact absurd s3 (s4' s s1 z)
      · exact z
      · exact absurd s3' (s4 s' s1' z)
    rw [e]
theorem IsRun.ok {xs : List Int} {r : Run} (h : IsRun xs r) (hl : xs.length ≤ 100) : r.ok := by
  rcases h with ⟨a, rfl⟩ | ⟨a, s, s1, s2, s3, s4, rfl⟩
  · trivial
  · refine ⟨fun z => ?_, by rw [List.length_take]; omega⟩
    have := congrArg List.length z
    rw [List.length_take, List.length_nil] at this
    omega
theorem step_at {xs : List Int} (h : Stp xs) : ∀ i, i < xs.length → g xs 0 + (i : Int) * (g xs 1 - g xs 0) = g xs i
  | 0, _ => by simp
  | i + 1, hi => by
    have e := step_at h i (by omega)
    have d := h.2 i hi
    have m : ((i + 1 : Nat) : Int) * (g xs 1 - g xs 0) = (i : Int) * (g xs 1 - g xs 0) + (g xs 1 - g xs 0) := by
      rw [Int.natCast_add, Int.add_mul]
      simp
    rw [m]
    omega
theorem round_at {xs : List Int} {s : Nat} (s1 : 1 ≤ s) (s2 : s ≤ xs.length) (p : Int) (hp : 0 ≤ p) : (Run.round (xs.take s)).at p = g xs (p.toNat % s) := by
  show g (xs.take s) (p % ((xs.take s).length : Int)).toNat = _
  have hl : (xs.take s).length = s := by rw [List.length_take]; omega
  rw [hl]
  have e : (p % (s : Int)).toNat = p.toNat % s := by
    obtain ⟨n, rfl⟩ := Int.eq_ofNat_of_zero_le hp
    rfl
  rw [e]
  exact g_take (Nat.mod_lt _ s1)
theorem IsRun.at_eq {xs : List Int} {r : Run} (h : IsRun xs r) {i : Nat} (hi : i < xs.length) : r.at i = g xs i := by
  rcases h with ⟨a, rfl⟩ | ⟨a, s, s1, s2, s3, s4, rfl⟩
  · exact step_at a i hi
  · rw [round_at s1 s2 _ (by omega)]
    exact (s3 i hi).symm
theorem IsRun.all_eq {xs : List Int} {r : Run} (h : IsRun xs r) : (List.range xs.length).map (fun (i : Nat) => r.at (0 + (i : Int))) = xs := by
  apply List.ext_getElem?
  intro i
  rw [List.getElem?_map]
  by_cases hi : i < xs.length
  · rw [List.getElem?_range hi, g_get hi]
    show some (r.at (0 + (i : Int))) = _
    rw [Int.zero_add, h.at_eq hi]
  · rw [List.getElem?_eq_none (by simp; omega), List.getElem?_eq_none (by omega)]
    rfl
/-! ### how great -/
abbrev B : Nat := 10 ^ 22
def Bnd (xs : List Int) : Prop := ∀ x ∈ xs, x.natAbs ≤ B
def Run.bnd : Run → Prop
  | .step a b => a.natAbs ≤ 2 * B ∧ b.natAbs ≤ 2 * B
  | .round ys => Bnd ys
theorem IsRun.bnd {xs : List Int} {r : Run} (h : IsRun xs r) (hb : Bnd xs) : r.bnd := by
  rcases h with ⟨a, rfl⟩ | ⟨a, s, s1, s2, s3, s4, rfl⟩
  · have h0 := hb _ (g_mem (xs := xs) (i := 0) (by have := a.1; omega))
    have h1 := hb _ (g_mem (xs := xs) (i := 1) a.1)
    exact ⟨by omega, by omega⟩
  · exact fun x hx => hb x (List.mem_of_mem_take hx)
theorem at_bnd {r : Run} (hr : r.bnd) (ho : r.ok) {p : Int} (hp : p.natAbs ≤ 10 ^ 8) : (r.at p).natAbs < 10 ^ 50 := by
  cases r with
  | step a b =>
    obtain ⟨h1, h2⟩ := hr
    have h3 : (a + p * b).natAbs ≤ a.natAbs + (p * b).natAbs := Int.natAbs_add_le _ _
    rw [Int.natAbs_mul] at h3
    have h4 : p.natAbs * b.natAbs ≤ 10 ^ 8 * (2 * B) := Nat.mul_le_mul hp h2
    have h5 : 2 * B + 10 ^ 8 * (2 * B) < 10 ^ 50 := by decide
    show (a + p * b).natAbs < _
    exact Nat.lt_of_le_of_lt (Nat.le_trans h3 (Nat.add_le_add h1 h4)) h5
  | round ys =>
    obtain ⟨h1, h2⟩ := ho
    have hl : 0 < ys.length := List.length_pos_iff.mpr h1
    have h3 := hr (g ys (p % ys.length).toNat) (g_mem (by
      have := Int.emod_lt_of_pos p (show (0 : Int) < ys.length by omega)
      have := Int.emod_nonneg p (show (ys.length : Int) ≠ 0 by omega)
      omega))
    exact Nat.lt_of_le_of_lt h3 (by decide)
/-! ### the ways in which the steps are looked at -/
def dif (xs : List Int) : List Int := (xs.zip (xs.drop 1)).map fun p => p.2 - p.1
theorem dif_len (xs : List Int) : (dif xs).length = xs.length - 1 := by
  unfold dif
  rw [List.length_map, List.length_zip, List.length_drop]
  omega
theorem dif_get {xs : List Int} {i : Nat} (h : i + 1 < xs.length) : (dif xs)[i]? = some (g xs (i + 1) - g xs i) := by
  unfold dif
  rw [List.getElem?_map, List.zip, List.getElem?_zipWith]
  rw [g_get (show i < xs.length by omega), List.getElem?_drop, Nat.add_comm 1 i, g_get h]
  rfl
theorem stp_dif {xs : List Int} : Stp xs ↔ (dif xs ≠ [] ∧ dif xs = List.replicate (dif xs).length (g (dif xs) 0)) := by
  have l := dif_len xs
  constructor
  · rintro ⟨h1, h2⟩
    refine ⟨fun z => ?_, ?_⟩
    · rw [z] at l
      simp at l
      omega
    · apply List.ext_getElem?
      intro i
      rw [List.getElem?_replicate]
      by_cases hi : i < (dif xs).length
      · rw [if_pos hi, dif_get (by omega), h2 i (by omega)]
        have := dif_get (xs := xs) (i := 0) (by omega)
        unfold g at this ⊢
        rw [this]
        rfl
      · rw [if_neg hi, List.getElem?_eq_none (by omega)]
  · rintro ⟨h1, h2⟩
    have h0 : 0 < (dif xs).length := List.length_pos_iff.mpr h1
    refine ⟨by omega, fun i hi => ?_⟩
    have e0 : ∀ j, j < (dif xs).length → (dif xs)[j]? = some (g (dif xs) 0) := fun j hj => by
      have z := congrArg (fun l => l[j]?) h2
      simp only [List.getElem?_replicate] at z
      rw [if_pos hj] at z
      exact z
    have a := e0 i (by omega)
    have b := e0 0 h0
    rw [dif_get (by omega)] at a b
    have a' := Option.some.inj a
    have b' := Option.some.inj b
    rw [a', ← b']
theorem dif0 {xs : List Int} (h : Stp xs) : g (dif xs) 0 = g xs 1 - g xs 0 := by
  have := dif_get (xs := xs) (i := 0) h.1
  unfold g at this ⊢
  rw [this]
  rfl
end M72

namespace Lw
open PySem PySem.Spec PyProof.Rows L2 Pd
/-! printed by gen.py: the text's defs -/
def topS (i : Nat) : Stmt := PySem.Challenge.pw_listworks_k72_runs_that_go_on.main.body.getD i (.Pass ⟨0, 0, 0, 0⟩)
abbrev s_need_least : Stmt := topS 5
abbrev n_need_least : List Str := ["number", "least"]
abbrev p_need_least : List Str := ["number", "least"]
theorem sc_need_least : FnScope n_need_least p_need_least (defScope s_need_least) := ⟨rfl, rfl, rfl, by decide +kernel, rfl, by decide +kernel, by decide +kernel⟩
abbrev s_is_round : Stmt := topS 9
abbrev n_is_round : List Str := ["cells", "size", "place", "cell"]
abbrev p_is_round : List Str := ["cells", "size"]
theorem sc_is_round : FnScope n_is_round p_is_round (defScope s_is_round) := ⟨rfl, rfl, rfl, by decide +kernel, rfl, by decide +kernel, by decide +kernel⟩
abbrev s_run_in : Stmt := topS 10
abbrev n_run_in : List Str := ["cells", "steps", "size", "one", "other"]
abbrev p_run_in : List Str := ["cells"]
theorem sc_run_in : FnScope n_run_in p_run_in (defScope s_run_in) := ⟨rfl, rfl, rfl, by decide +kernel, rfl, by decide +kernel, by decide +kernel⟩
abbrev s_run_of : Stmt := topS 11
abbrev n_run_of : List Str := ["cells"]
abbrev p_run_of : List Str := ["cells"]
theorem sc_run_of : FnScope n_run_of p_run_of (defScope s_run_of) := ⟨rfl, rfl, rfl, by decide +kernel, rfl, by decide +kernel, by decide +kernel⟩
abbrev s_cell_of : Stmt := topS 12
abbrev n_cell_of : List Str := ["run", "index"]
abbrev p_cell_of : List Str := ["run", "index"]
theorem sc_cell_of : FnScope n_cell_of p_cell_of (defScope s_cell_of) := ⟨rfl, rfl, rfl, by decide +kernel, rfl, by decide +kernel, by decide +kernel⟩
abbrev s_gone_on : Stmt := topS 13
abbrev n_gone_on : List Str := ["run", "start", "number", "turn"]
abbrev p_gone_on : List Str := ["run", "start", "number"]
theorem sc_gone_on : FnScope n_gone_on p_gone_on (defScope s_gone_on) := ⟨rfl, rfl, rfl, by decide +kernel, rfl, by decide +kernel, by decide +kernel⟩
abbrev s__law_pot : Stmt := topS 15
abbrev n__law_pot : List Str := ["script", "k", "total", "number", "cell"]
abbrev p__law_pot : List Str := ["script", "k"]
theorem sc__law_pot : FnScope n__law_pot p__law_pot (defScope s__law_pot) := ⟨rfl, rfl, rfl, by decide +kernel, rfl, by decide +kernel, by decide +kernel⟩
abbrev s__law_draw : Stmt := topS 16
abbrev n__law_draw : List Str := ["pot", "many", "found", "mixed"]
abbrev p__law_draw : List Str := ["pot", "many"]
theorem sc__law_draw : FnScope n__law_draw p__law_draw (defScope s__law_draw) := ⟨rfl, rfl, rfl, by decide +kernel, rfl, by decide +kernel, by decide +kernel⟩
abbrev s__law_cells : Stmt := topS 17
abbrev n__law_cells : List Str := ["pot", "way", "many", "first", "step", "some", "found", "at", "place"]
abbrev p__law_cells : List Str := ["pot"]
theorem sc__law_cells : FnScope n__law_cells p__law_cells (defScope s__law_cells) := ⟨rfl, rfl, rfl, by decide +kernel, rfl, by decide +kernel, by decide +kernel⟩
abbrev s__law_run : Stmt := topS 18
abbrev n__law_run : List Str := ["cells", "size", "at"]
abbrev p__law_run : List Str := ["cells"]
theorem sc__law_run : FnScope n__law_run p__law_run (defScope s__law_run) := ⟨rfl, rfl, rfl, by decide +kernel, rfl, by decide +kernel, by decide +kernel⟩
abbrev s__law_at : Stmt := topS 19
abbrev n__law_at : List Str := ["run", "place"]
abbrev p__law_at : List Str := ["run", "place"]
theorem sc__law_at : FnScope n__law_at p__law_at (defScope s__law_at) := ⟨rfl, rfl, rfl, by decide +kernel, rfl, by decide +kernel, by decide +kernel⟩
abbrev s__law_value : Stmt := topS 20
abbrev n__law_value : List Str := ["which", "run", "start", "number", "found", "e"]
abbrev p__law_value : List Str := ["which", "run", "start", "number"]
theorem sc__law_value : FnScope n__law_value p__law_value (defScope s__law_value) := ⟨rfl, rfl, rfl, by decide +kernel, rfl, by decide +kernel, by decide +kernel⟩
abbrev s__law_right : Stmt := topS 21
abbrev n__law_right : List Str := ["pot", "turn", "cells", "kept", "due", "run", "start", "number", "further", "wrong", "place"]
abbrev p__law_right : List Str := ["pot"]
theorem sc__law_right : FnScope n__law_right p__law_right (defScope s__law_right) := ⟨rfl, rfl, rfl, by decide +kernel, rfl, by decide +kernel, by decide +kernel⟩
abbrev s_law : Stmt := topS 22
abbrev n_law : List Str := ["script", "k"]
abbrev p_law : List Str := ["script"]
theorem sc_law : FnScope n_law p_law (defScope s_law) := ⟨rfl, rfl, rfl, by decide +kernel, rfl, by decide +kernel, by decide +kernel⟩
/-- the text's errors: which clause takes which -/
structure ErrF (K : PySem.W.Frag) : Prop where
  s_InvalidNumber_InvalidNumber : SubIs K "InvalidNumber" "InvalidNumber" true
  s_InvalidNumber_InvalidRows : SubIs K "InvalidNumber" "InvalidRows" false
  v_InvalidNumber : ErrV K "InvalidNumber"
  s_InvalidRows_InvalidNumber : SubIs K "InvalidRows" "InvalidNumber" false
  s_InvalidRows_InvalidRows : SubIs K "InvalidRows" "InvalidRows" true
  v_InvalidRows : ErrV K "InvalidRows"
/-! what each def is worth -/
open M72 (IsRun Bnd Rnd Stp)
def rdat : M72.Run → PyData
  | .step a b => .tuple [.str "step", .int a, .int b]
  | .round ys => .tuple [.str "round", dInts ys]
def F_need_least : FX := fun ws μ R S => ∃ a b, ws = [.d (.int a), .d (.int b)] ∧ (a < b → S "InvalidNumber" (.d (.int a)) μ) ∧ (b ≤ a → R (.d .none) μ)
def F_is_round : FS := fun ws μ R => ∃ xs s, ws = [.d (dInts xs), .d (.int s)] ∧ 0 < s ∧ xs.length ≤ 100 ∧ s ≤ xs.length ∧ ∀ b : Bool, (b = true ↔ Rnd xs s.toNat) → R (.d (.bool b)) μ
def F_run_in : FS := fun ws μ R => ∃ xs, ws = [.d (dInts xs)] ∧ xs ≠ [] ∧ xs.length ≤ 100 ∧ ∀ r, IsRun xs r → R (.d (rdat r)) μ
def F_run_of : FX := fun ws μ R S => ∃ xs, ws = [.d (dInts xs)] ∧ xs.length ≤ 100 ∧ (xs = [] → S "InvalidRows" (.d (.list [])) μ) ∧ (xs ≠ [] → ∀ r, IsRun xs r → R (.d (rdat r)) μ)
def F_cell_of : FS := fun ws μ R => ∃ r i, ws = [.d (rdat r), .d (.int i)] ∧ r.ok ∧ -(2 ^ 64) < i ∧ i < 2 ^ 64 ∧ R (.d (.int (r.at i))) μ
def F_gone_on : FX := fun ws μ R S => ∃ r s n, ws = [.d (rdat r), .d (.int s), .d (.int n)] ∧ r.ok ∧ s < 2 ^ 60 ∧ n ≤ 100 ∧ (s < 0 → S "InvalidNumber" (.d (.int s)) μ) ∧ (0 ≤ s → n < 0 → S "InvalidNumber" (.d (.int n)) μ) ∧
  (0 ≤ s → 0 ≤ n → R (.d (dInts ((List.range n.toNat).map fun (i : Nat) => r.at (s + i)))) μ)
def F__law_pot : FS := fun ws μ R => ∃ ns k, ws = [.f (wInts ns), .d (.int k)] ∧ 0 ≤ k ∧ k ≤ 100 ∧ ∀ p, PotOk 0 p → R (.m μ.length) (μ ++ [p])
abbrev F__law_draw : FS := F_draw
def F__law_cells : FS := fun ws μ R => ∃ k p n, ws = [.m k] ∧ μ[k]? = some p ∧ PotOk n p ∧ n ≤ 900000 ∧ ∀ xs p', xs ≠ [] → xs.length ≤ 10 → Bnd xs → PotOk (n + 20) p' → R (.d (dInts xs)) (μ.set k p')
def F__law_run : FS := fun ws μ R => ∃ xs, ws = [.d (dInts xs)] ∧ xs ≠ [] ∧ xs.length ≤ 100 ∧ ∀ r, IsRun xs r → R (.d (rdat r)) μ
def F__law_at : FS := F_cell_of
def F__law_value : FS := fun ws μ R => (∃ r s n, ws = [.d (.int 1), .d (rdat r), .d (.int s), .d (.int n)] ∧ r.ok ∧ (s < 0 ∨ (0 ≤ s ∧ n < 0)) ∧ s < 2 ^ 60 ∧ n ≤ 100 ∧ R (.d (.list [.str "number", .int (if s < 0 then s else n)])) μ) ∨
  (ws = [.d (.int 0), .d .none, .d (.int 0), .d (.int 0)] ∧ R (.d (.list [.str "rows", .list []])) μ)
def F__law_right : FS := fun ws μ R => ∃ k p, ws = [.m k] ∧ μ[k]? = some p ∧ PotOk 0 p ∧ ∀ n p', PotOk n p' → R (.d (.bool true)) (μ.set k p')
def F_law : FS := fun ws μ R => ∃ ns, ws = [.f (wInts ns)] ∧ ns.length ≤ 63 ∧ R (.d (.bool true)) μ
def t_need_least (K : PySem.W.Frag) (xw : L2.WX) : TS := (tIfS (tTest (tOp rLtU (tVar 0) (tVar 1))) (tRaiseE K "InvalidNumber" xw (tCons (tVar 0) tNil)) tNext)
theorem dv_need_least {P : Program} {w : World} {K : PySem.W.Frag} {mg : Str → Option Value} {base : Heap} {f : Addr} {cdv : Value} {A : Around} {outer : List Env} {s : Shared} {H : Hp} {E : XK}
    (hr : Room 0 (A.deeper (envOfC "need_least" (defScope s_need_least) s.heap.objs.size f cdv)))
    (hgd : (A.deeper (envOfC "need_least" (defScope s_need_least) s.heap.objs.size f cdv)).guards = some [])
    (e_InvalidNumber : IsErr P K mg "InvalidNumber") :
    PSs (cxOf (L2.CX P w) P w K mg base n_need_least "need_least" (defScope s_need_least) f cdv A outer s H E) (defBody s_need_least) (t_need_least K fun c d _ H => E c d H) := by
  have S := sc_need_least
  have hu : (A.deeper (envOfC "need_least" (defScope s_need_least) s.heap.objs.size f cdv)).units + 64 < cLine := by have := hr.un; omega
  let xw : L2.WX := fun c d _ H => E c d H
  exact (pss_one (ps_if (pt_cmpR op_ltU (pv 0) (pv 1) (nomark _)) (pss_one (ps_raiseE rfl e_InvalidNumber hr (takes_of rfl rfl rfl rfl) (pa_cons (pv 0) pa_nil))) pss_nil))
def t_is_round (K : PySem.W.Frag) : TS := (tRet (tCB (rAll K) (tCons (tLc (iEnum K (tCons (tVar 0) tNil)) (gTup K 2 (gCons (gName 2) (gCons (gName 3) gNil))) tYes (tOp (rEqU K) (tVar 3) (tOp (rIx K) (tVar 0) (tOp rModI (tVar 2) (tVar 1)))) [2, 3]) tNil)))
theorem dv_is_round {P : Program} {w : World} {K : PySem.W.Frag} {mg : Str → Option Value} {base : Heap} {f : Addr} {cdv : Value} {A : Around} {outer : List Env} {s : Shared} {H : Hp} {E : XK}
    (hr : Room 0 (A.deeper (envOfC "is_round" (defScope s_is_round) s.heap.objs.size f cdv)))
    (hgd : (A.deeper (envOfC "is_round" (defScope s_is_round) s.heap.objs.size f cdv)).guards = some [])
    (n_all : mg "all" = none)
    (n_enumerate : mg "enumerate" = none) :
    PSs (cxOf CX0 P w K mg base n_is_round "is_round" (defScope s_is_round) f cdv A outer s H E).nox (defBody s_is_round) (t_is_round K) := by
  have S := sc_is_round
  have hu : (A.deeper (envOfC "is_round" (defScope s_is_round) s.heap.objs.size f cdv)).units + 64 < cLine := by have := hr.un; omega
  exact (pss_one (ps_ret (pe_callB (cr_all rfl) (by rfl) n_all (by decide +kernel) (pa_cons (pe_lc (own := [("place", 2), ("cell", 3)]) (g := (gTup K 2 (gCons (gName 2) (gCons (gName 3) gNil)))) (tt := tYes) rfl S.nd (pi_enum (by rfl) n_enumerate (pa_cons (pv 0) pa_nil)) (blkOk_by (N := n_is_round) (sc := defScope s_is_round) (by decide +kernel)) (fun _ _ _ _ _ => (pg_tup rfl (pgs_cons (pg_name (i := 2) S.nd rfl (.inl rfl)) (pgs_cons (pg_name (i := 3) S.nd rfl (.inl rfl)) pgs_nil)))) (fun _ _ _ _ _ => pts_nil) (fun _ _ _ _ _ => (pe_cmpR (op_eqU hu) (pv 3) (pe_ix ix_seq (pv 0) (pe_op op_modU (pv 2) (pv 1)) (fun _ _ => rfl)) (nomark _)))) pa_nil))))
def t_run_in (K : PySem.W.Frag) : TS := (tSeq (tAsg (tLc (iZip K (tCons (tVar 0) (tCons (tSl (rSlU K) (tVar 0) (tPart (tC (.int 1))) tNoPart) tNil))) (gTup K 2 (gCons (gName 3) (gCons (gName 4) gNil))) tYes (tOp rSubI (tVar 4) (tVar 3)) [3, 4]) (gName 1))
    (tSeq (tIfS (tAnd (tTest (tOp (rNeU K) (tVar 1) (tLst tNil))) (tTest (tOp (rEqU K) (tVar 1) (tOp rMulU (tLst (tCons (tOp (rIx K) (tVar 1) (tC (.int 0))) tNil)) (tCB (rLenU K) (tCons (tVar 1) tNil)))))) (tRet (tTup (tCons (tC (.str "step")) (tCons (tOp (rIx K) (tVar 0) (tC (.int 0))) (tCons (tOp (rIx K) (tVar 1) (tC (.int 0))) tNil))))) tNext)
    (tSeq (tAsg (tC (.int 1)) (gName 2))
    (tSeq (tWhile (tNot (tTru K (tCallS (spD K F_is_round) Ez (tCons (tVar 0) (tCons (tVar 2) tNil))))) (tAug 2 (tC (.int 1)) (fun x y H Q => rAddI x y H Q ∨ rAddS x y H Q)))
    (tRet (tTup (tCons (tC (.str "round")) (tCons (tCB (rListU K) (tCons (tSl (rSlU K) (tVar 0) tNoPart (tPart (tVar 2))) tNil)) tNil))))))))
theorem dv_run_in {P : Program} {w : World} {K : PySem.W.Frag} {mg : Str → Option Value} {base : Heap} {f : Addr} {cdv : Value} {A : Around} {outer : List Env} {s : Shared} {H : Hp} {E : XK}
    (hr : Room 1 (A.deeper (envOfC "run_in" (defScope s_run_in) s.heap.objs.size f cdv)))
    (hgd : (A.deeper (envOfC "run_in" (defScope s_run_in) s.heap.objs.size f cdv)).guards = some [])
    (h_is_round : HasG P w K mg base CX0 "is_round" p_is_round 1 (spD K F_is_round))
    (n_len : mg "len" = none)
    (n_list : mg "list" = none)
    (n_zip : mg "zip" = none)
    (m_ROUND : Cst mg "ROUND" (.str "round"))
    (m_STEP : Cst mg "STEP" (.str "step")) :
    PSs (cxOf CX0 P w K mg base n_run_in "run_in" (defScope s_run_in) f cdv A outer s H E).nox (defBody s_run_in) (t_run_in K) := by
  have S := sc_run_in
  have hu : (A.deeper (envOfC "run_in" (defScope s_run_in) s.heap.objs.size f cdv)).units + 64 < cLine := by have := hr.un; omega
  exact (pss_cons (ps_setLc (i := 1) (own := [("one", 3), ("other", 4)]) (g := (gTup K 2 (gCons (gName 3) (gCons (gName 4) gNil)))) (tt := tYes) rfl S.nd rfl rfl (sw_true rfl rfl rfl (by decide +kernel)) (pi_zip (by rfl) n_zip (pa_cons (pv 0) (pa_cons (pe_slice sl_U (pv 0) (po_some pe_int) po_none) pa_nil))) (blkOk_by (N := n_run_in) (sc := defScope s_run_in) (by decide +kernel)) (fun _ _ _ _ _ => (pg_tup rfl (pgs_cons (pg_name (i := 3) S.nd rfl (.inl rfl)) (pgs_cons (pg_name (i := 4) S.nd rfl (.inl rfl)) pgs_nil)))) (fun _ _ _ _ _ => pts_nil) (fun _ _ _ _ _ => (pe_op op_subU (pv 4) (pv 3))))
      (pss_cons (ps_if (PW.pt (pw_and (pt_cmpR (op_neU hu) (pv 1) (pe_lst pa_nil) (nomark _)) (pw_and1 (pt_cmpR (op_eqU hu) (pv 1) (pe_op op_mulU (pe_lst (pa_cons (pe_ix ix_seq (pv 1) pe_int (fun _ _ => rfl)) pa_nil)) (pe_callB call_lenU (by rfl) n_len (by decide +kernel) (pa_cons (pv 1) pa_nil))) (nomark _))))) (pss_one (ps_ret (pe_tup (pa_cons (pe_con0 m_STEP (by rfl)) (pa_cons (pe_ix ix_seq (pv 0) pe_int (fun _ _ => rfl)) (pa_cons (pe_ix ix_seq (pv 1) pe_int (fun _ _ => rfl)) pa_nil)))))) pss_nil)
      (pss_cons (ps_asg pe_int (pg_name (i := 2) S.nd rfl (.inl rfl)))
      (pss_cons (ps_while PassesOwn.never (pt_not (pt_tru (pe_hG h_is_round (hr.mono (by decide)) hgd pz0 (pa_cons (pv 0) (pa_cons (pv 2) pa_nil))))) (pss_one (ps_aug (i := 2) S.nd rfl (.inl rfl) pe_int iop_addU)))
      (pss_one (ps_ret (pe_tup (pa_cons (pe_con0 m_ROUND (by rfl)) (pa_cons (pe_callTy call_listU (by rfl) n_list (by decide +kernel) (pa_cons (pe_slice sl_U (pv 0) po_none (po_some (pv 2))) pa_nil)) pa_nil)))))))))
def t_run_of (K : PySem.W.Frag) (xw : L2.WX) : TS := (tSeq (tIfS (tTest (tOp (rEqU K) (tVar 0) (tLst tNil))) (tRaiseE K "InvalidRows" xw (tCons (tLst tNil) tNil)) tNext)
    (tRet (tCallS (spD K F_run_in) Ez (tCons (tVar 0) tNil))))
theorem dv_run_of {P : Program} {w : World} {K : PySem.W.Frag} {mg : Str → Option Value} {base : Heap} {f : Addr} {cdv : Value} {A : Around} {outer : List Env} {s : Shared} {H : Hp} {E : XK}
    (hr : Room 2 (A.deeper (envOfC "run_of" (defScope s_run_of) s.heap.objs.size f cdv)))
    (hgd : (A.deeper (envOfC "run_of" (defScope s_run_of) s.heap.objs.size f cdv)).guards = some [])
    (h_run_in : HasG P w K mg base CX0 "run_in" p_run_in 2 (spD K F_run_in))
    (e_InvalidRows : IsErr P K mg "InvalidRows") :
    PSs (cxOf (L2.CX P w) P w K mg base n_run_of "run_of" (defScope s_run_of) f cdv A outer s H E) (defBody s_run_of) (t_run_of K fun c d _ H => E c d H) := by
  have S := sc_run_of
  have hu : (A.deeper (envOfC "run_of" (defScope s_run_of) s.heap.objs.size f cdv)).units + 64 < cLine := by have := hr.un; omega
  let xw : L2.WX := fun c d _ H => E c d H
  exact (pss_cons (ps_if (pt_cmpR (op_eqU hu) (pv 0) (pe_lst pa_nil) (nomark _)) (pss_one (ps_raiseE rfl e_InvalidRows hr (takes_of rfl rfl rfl rfl) (pa_cons (pe_lst pa_nil) pa_nil))) pss_nil)
      (pss_one (ps_ret (pe_hG h_run_in (hr.mono (by decide)) hgd pz0 (pa_cons (pv 0) pa_nil)))))
def t_cell_of (K : PySem.W.Frag) : TS := (tSeq (tIfS (tTest (tOp (rEqU K) (tOp (rIx K) (tVar 0) (tC (.int 0))) (tC (.str "step")))) (tRet (tOp (rAddU K) (tOp (rIx K) (tVar 0) (tC (.int 1))) (tOp rMulU (tVar 1) (tOp (rIx K) (tVar 0) (tC (.int 2)))))) tNext)
    (tRet (tOp (rIx K) (tOp (rIx K) (tVar 0) (tC (.int 1))) (tOp rModI (tVar 1) (tCB (rLenU K) (tCons (tOp (rIx K) (tVar 0) (tC (.int 1))) tNil))))))
theorem dv_cell_of {P : Program} {w : World} {K : PySem.W.Frag} {mg : Str → Option Value} {base : Heap} {f : Addr} {cdv : Value} {A : Around} {outer : List Env} {s : Shared} {H : Hp} {E : XK}
    (hr : Room 0 (A.deeper (envOfC "cell_of" (defScope s_cell_of) s.heap.objs.size f cdv)))
    (hgd : (A.deeper (envOfC "cell_of" (defScope s_cell_of) s.heap.objs.size f cdv)).guards = some [])
    (n_len : mg "len" = none)
    (m_STEP : Cst mg "STEP" (.str "step")) :
    PSs (cxOf CX0 P w K mg base n_cell_of "cell_of" (defScope s_cell_of) f cdv A outer s H E).nox (defBody s_cell_of) (t_cell_of K) := by
  have S := sc_cell_of
  have hu : (A.deeper (envOfC "cell_of" (defScope s_cell_of) s.heap.objs.size f cdv)).units + 64 < cLine := by have := hr.un; omega
  exact (pss_cons (ps_if (pt_cmpR (op_eqU hu) (pe_ix ix_seq (pv 0) pe_int (fun _ _ => rfl)) (pe_con0 m_STEP (by rfl)) (nomark _)) (pss_one (ps_ret (pe_op op_addU (pe_ix ix_seq (pv 0) pe_int (fun _ _ => rfl)) (pe_op op_mulU (pv 1) (pe_ix ix_seq (pv 0) pe_int (fun _ _ => rfl)))))) pss_nil)
      (pss_one (ps_ret (pe_ix ix_seq (pe_ix ix_seq (pv 0) pe_int (fun _ _ => rfl)) (pe_op op_modU (pv 1) (pe_callB call_lenU (by rfl) n_len (by decide +kernel) (pa_cons (pe_ix ix_seq (pv 0) pe_int (fun _ _ => rfl)) pa_nil))) (fun _ _ => rfl)))))
def t_gone_on (K : PySem.W.Frag) (xw : L2.WX) : TS := (tSeq (tDrop (tCallS (spX K F_need_least) (WE xw) (tCons (tVar 1) (tCons (tC (.int 0)) tNil))))
    (tSeq (tDrop (tCallS (spX K F_need_least) (WE xw) (tCons (tVar 2) (tCons (tC (.int 0)) tNil))))
    (tRet (tLc (iRng1 (tCons (tVar 2) tNil)) (gName 3) tYes (tCallS (spD K F_cell_of) Ez (tCons (tVar 0) (tCons (tOp (rAddU K) (tVar 1) (tVar 3)) tNil))) [3]))))
theorem dv_gone_on {P : Program} {w : World} {K : PySem.W.Frag} {mg : Str → Option Value} {base : Heap} {f : Addr} {cdv : Value} {A : Around} {outer : List Env} {s : Shared} {H : Hp} {E : XK}
    (hr : Room 1 (A.deeper (envOfC "gone_on" (defScope s_gone_on) s.heap.objs.size f cdv)))
    (hgd : (A.deeper (envOfC "gone_on" (defScope s_gone_on) s.heap.objs.size f cdv)).guards = some [])
    (h_cell_of : HasG P w K mg base CX0 "cell_of" p_cell_of 1 (spD K F_cell_of))
    (h_need_least : HasG P w K mg base (L2.CX P w) "need_least" p_need_least 1 (spX K F_need_least))
    (n_range : mg "range" = none) :
    PSs (cxOf (L2.CX P w) P w K mg base n_gone_on "gone_on" (defScope s_gone_on) f cdv A outer s H E) (defBody s_gone_on) (t_gone_on K fun c d _ H => E c d H) := by
  have S := sc_gone_on
  have hu : (A.deeper (envOfC "gone_on" (defScope s_gone_on) s.heap.objs.size f cdv)).units + 64 < cLine := by have := hr.un; omega
  let xw : L2.WX := fun c d _ H => E c d H
  exact (pss_cons (ps_expr (pe_hG h_need_least (hr.mono (by decide)) hgd (fun σ => passAt (takes_of rfl rfl rfl rfl) σ) (pa_cons (pv 1) (pa_cons pe_int pa_nil))))
      (pss_cons (ps_expr (pe_hG h_need_least (hr.mono (by decide)) hgd (fun σ => passAt (takes_of rfl rfl rfl rfl) σ) (pa_cons (pv 2) (pa_cons pe_int pa_nil))))
      (pss_one (ps_ret (pe_lc (own := [("turn", 3)]) (g := (gName 3)) (tt := tYes) rfl S.nd (pi_range1 (by rfl) n_range (pa_cons (pv 2) pa_nil)) (blkOk_by (N := n_gone_on) (sc := defScope s_gone_on) (by decide +kernel)) (fun _ _ _ _ _ => (pg_name (i := 3) S.nd rfl (.inl rfl))) (fun _ _ _ _ _ => pts_nil) (fun _ _ _ _ _ => (pe_hG h_cell_of (hr.mono (by decide)) hgd pz0 (pa_cons (pv 0) (pa_cons (pe_op op_addU (pv 1) (pv 3)) pa_nil)))))))))
def t__law_pot (K : PySem.W.Frag) : TS := (tSeq (tAsg (tOp (rAddU K) (tOp rMulU (tC (.int 31)) (tVar 1)) (tC (.int 11))) (gName 2))
    (tSeq (tFor (iSeq K (tVar 0)) (gName 3) (tAsg (tOp rModI (tCB (rIntU) (tCons (tOp (rAddU K) (tOp (rAddU K) (tOp rMulU (tVar 2) (tC (.int 7919))) (tOp rMulU (tVar 3) (tC (.int 611953)))) (tC (.int 3))) tNil)) (tOp (rAddU K) (tOp rPowI (tC (.int 10)) (tC (.int 27))) (tC (.int 103)))) (gName 2)))
    (tSeq (tAsg (tIf (tTest (tOp rLtU (tVar 1) (tCB (rLenU K) (tCons (tVar 0) tNil)))) (tOp (rIx K) (tVar 0) (tVar 1)) (tVar 2)) (gName 4))
    (tRet (tLst (tCons (tCB (rMaxU K) (tCons (tC (.int 0)) (tCons (tOp rSubI (tVar 4) (tOp rPowI (tC (.int 10)) (tC (.int 18)))) tNil))) (tCons (tOp rModI (tCB (rIntU) (tCons (tOp (rAddU K) (tOp rMulU (tVar 2) (tC (.int 5))) (tOp rMulU (tVar 4) (tC (.int 9)))) tNil)) (tOp (rAddU K) (tOp rPowI (tC (.int 10)) (tC (.int 29))) (tC (.int 319)))) (tCons (tC (.int 0)) tNil))))))))
theorem dv__law_pot {P : Program} {w : World} {K : PySem.W.Frag} {mg : Str → Option Value} {base : Heap} {f : Addr} {cdv : Value} {A : Around} {outer : List Env} {s : Shared} {H : Hp} {E : XK}
    (hr : Room 0 (A.deeper (envOfC "_law_pot" (defScope s__law_pot) s.heap.objs.size f cdv)))
    (hgd : (A.deeper (envOfC "_law_pot" (defScope s__law_pot) s.heap.objs.size f cdv)).guards = some [])
    (n_int : mg "int" = none)
    (n_len : mg "len" = none)
    (n_max : mg "max" = none) :
    PSs (cxOf CX0 P w K mg base n__law_pot "_law_pot" (defScope s__law_pot) f cdv A outer s H E).nox (defBody s__law_pot) (t__law_pot K) := by
  have S := sc__law_pot
  have hu : (A.deeper (envOfC "_law_pot" (defScope s__law_pot) s.heap.objs.size f cdv)).units + 64 < cLine := by have := hr.un; omega
  exact (pss_cons (ps_asg (pe_op op_addU (pe_op op_mulU pe_int (pv 1)) pe_int) (pg_name (i := 2) S.nd rfl (.inl rfl)))
      (pss_cons (ps_for PassesOwn.never rfl (pi_seq (pv 0)) (pg_name (i := 3) S.nd rfl (.inl rfl)) (pss_one (ps_asg (pe_op op_modU (pe_callTy call_intU (by rfl) n_int (by decide +kernel) (pa_cons (pe_op op_addU (pe_op op_addU (pe_op op_mulU (pv 2) pe_int) (pe_op op_mulU (pv 3) pe_int)) pe_int) pa_nil)) (pe_op op_addU (pe_op op_powU pe_int pe_int) pe_int)) (pg_name (i := 2) S.nd rfl (.inl rfl)))))
      (pss_cons (ps_asg (pe_ifExp (pt_cmpR op_ltU (pv 1) (pe_callB call_lenU (by rfl) n_len (by decide +kernel) (pa_cons (pv 0) pa_nil)) (nomark _)) (pe_ix ix_seq (pv 0) (pv 1) (fun _ _ => rfl)) (pv 2)) (pg_name (i := 4) S.nd rfl (.inl rfl)))
      (pss_one (ps_ret (pe_lst (pa_cons (pe_callB (call_maxU rfl) (by rfl) n_max (by decide +kernel) (pa_cons pe_int (pa_cons (pe_op op_subU (pv 4) (pe_op op_powU pe_int pe_int)) pa_nil))) (pa_cons (pe_op op_modU (pe_callTy call_intU (by rfl) n_int (by decide +kernel) (pa_cons (pe_op op_addU (pe_op op_mulU (pv 2) pe_int) (pe_op op_mulU (pv 4) pe_int)) pa_nil)) (pe_op op_addU (pe_op op_powU pe_int pe_int) pe_int)) (pa_cons pe_int pa_nil)))))))))
def t__law_draw (K : PySem.W.Frag) : TS := (tSeq (tIfS (tTest (tOp rGtI (tOp (rIx K) (tVar 0) (tC (.int 0))) (tC (.int 0)))) (tSeq (tAsg (tOp rModI (tCB (rIntU) (tCons (tOp (rIx K) (tVar 0) (tC (.int 0))) tNil)) (tVar 1)) (gName 2))
    (tSeq (tAsg (tOp rDivI (tOp (rIx K) (tVar 0) (tC (.int 0))) (tVar 1)) (gSub (tVar 0) (tC (.int 0)) rSetL))
    (tRet (tVar 2)))) tNext)
    (tSeq (tAsg (tOp (rAddU K) (tOp (rIx K) (tVar 0) (tC (.int 2))) (tC (.int 1))) (gSub (tVar 0) (tC (.int 2)) rSetL))
    (tSeq (tAsg (tOp rModI (tCB (rIntU) (tCons (tOp (rAddU K) (tOp rPowI (tOp (rAddU K) (tOp (rIx K) (tVar 0) (tC (.int 1))) (tOp rMulU (tC (.int 32452843)) (tOp (rIx K) (tVar 0) (tC (.int 2))))) (tC (.int 3))) (tOp (rIx K) (tVar 0) (tC (.int 2)))) tNil)) (tOp (rAddU K) (tOp rPowI (tC (.int 10)) (tC (.int 30))) (tC (.int 57)))) (gName 3))
    (tSeq (tAsg (tOp rModI (tCB (rIntU) (tCons (tOp (rAddU K) (tOp (rAddU K) (tOp rMulU (tVar 3) (tVar 3)) (tOp (rIx K) (tVar 0) (tC (.int 1)))) (tOp rMulU (tC (.int 7)) (tOp (rIx K) (tVar 0) (tC (.int 2))))) tNil)) (tOp (rAddU K) (tOp rPowI (tC (.int 10)) (tC (.int 28))) (tC (.int 331)))) (gName 3))
    (tRet (tOp rModI (tCB (rIntU) (tCons (tOp rDivI (tVar 3) (tC (.int 15485863))) tNil)) (tVar 1)))))))
theorem dv__law_draw {P : Program} {w : World} {K : PySem.W.Frag} {mg : Str → Option Value} {base : Heap} {f : Addr} {cdv : Value} {A : Around} {outer : List Env} {s : Shared} {H : Hp} {E : XK}
    (hr : Room 0 (A.deeper (envOfC "_law_draw" (defScope s__law_draw) s.heap.objs.size f cdv)))
    (hgd : (A.deeper (envOfC "_law_draw" (defScope s__law_draw) s.heap.objs.size f cdv)).guards = some [])
    (n_int : mg "int" = none) :
    PSs (cxOf CX0 P w K mg base n__law_draw "_law_draw" (defScope s__law_draw) f cdv A outer s H E).nox (defBody s__law_draw) (t__law_draw K) := by
  have S := sc__law_draw
  have hu : (A.deeper (envOfC "_law_draw" (defScope s__law_draw) s.heap.objs.size f cdv)).units + 64 < cLine := by have := hr.un; omega
  exact (pss_cons (ps_if (pt_cmpR op_gtU (pe_ix ix_seq (pv 0) pe_int (fun _ _ => rfl)) pe_int (nomark _)) (pss_cons (ps_asg (pe_op op_modU (pe_callTy call_intU (by rfl) n_int (by decide +kernel) (pa_cons (pe_ix ix_seq (pv 0) pe_int (fun _ _ => rfl)) pa_nil)) (pv 1)) (pg_name (i := 2) S.nd rfl (.inl rfl)))
      (pss_cons (ps_asg (pe_op op_divU (pe_ix ix_seq (pv 0) pe_int (fun _ _ => rfl)) (pv 1)) (pg_sub (pv 0) pe_int set_list))
      (pss_one (ps_ret (pv 2))))) pss_nil)
      (pss_cons (ps_asg (pe_op op_addU (pe_ix ix_seq (pv 0) pe_int (fun _ _ => rfl)) pe_int) (pg_sub (pv 0) pe_int set_list))
      (pss_cons (ps_asg (pe_op op_modU (pe_callTy call_intU (by rfl) n_int (by decide +kernel) (pa_cons (pe_op op_addU (pe_op op_powU (pe_op op_addU (pe_ix ix_seq (pv 0) pe_int (fun _ _ => rfl)) (pe_op op_mulU pe_int (pe_ix ix_seq (pv 0) pe_int (fun _ _ => rfl)))) pe_int) (pe_ix ix_seq (pv 0) pe_int (fun _ _ => rfl))) pa_nil)) (pe_op op_addU (pe_op op_powU pe_int pe_int) pe_int)) (pg_name (i := 3) S.nd rfl (.inl rfl)))
      (pss_cons (ps_asg (pe_op op_modU (pe_callTy call_intU (by rfl) n_int (by decide +kernel) (pa_cons (pe_op op_addU (pe_op op_addU (pe_op op_mulU (pv 3) (pv 3)) (pe_ix ix_seq (pv 0) pe_int (fun _ _ => rfl))) (pe_op op_mulU pe_int (pe_ix ix_seq (pv 0) pe_int (fun _ _ => rfl)))) pa_nil)) (pe_op op_addU (pe_op op_powU pe_int pe_int) pe_int)) (pg_name (i := 3) S.nd rfl (.inl rfl)))
      (pss_one (ps_ret (pe_op op_modU (pe_callTy call_intU (by rfl) n_int (by decide +kernel) (pa_cons (pe_op op_divU (pv 3) pe_int) pa_nil)) (pv 1))))))))
def t__law_cells (K : PySem.W.Frag) : TS := (tSeq (tPar 1 2 (tCons (tCallS (spD K F__law_draw) Ez (tCons (tVar 0) (tCons (tC (.int 4)) tNil))) (tCons (tOp (rAddU K) (tC (.int 1)) (tCallS (spD K F__law_draw) Ez (tCons (tVar 0) (tCons (tC (.int 10)) tNil)))) tNil)))
    (tSeq (tAsg (tTup (tCons (tOp rSubI (tCallS (spD K F__law_draw) Ez (tCons (tVar 0) (tCons (tC (.int 20)) tNil))) (tC (.int 5))) (tCons (tOp rSubI (tCallS (spD K F__law_draw) Ez (tCons (tVar 0) (tCons (tC (.int 9)) tNil))) (tC (.int 4))) tNil))) (gTup K 2 (gCons (gName 3) (gCons (gName 4) gNil))))
    (tSeq (tIfS (tTest (tOp (rEqU K) (tVar 1) (tC (.int 0)))) (tRet (tLc (iRng1 (tCons (tVar 2) tNil)) (gName 8) tYes (tOp (rAddU K) (tVar 3) (tOp rMulU (tVar 4) (tVar 8))) [8])) tNext)
    (tSeq (tAsg (tLc (iRng1 (tCons (tOp (rAddU K) (tC (.int 1)) (tCallS (spD K F__law_draw) Ez (tCons (tVar 0) (tCons (tC (.int 5)) tNil)))) tNil)) (gName 8) tYes (tCallS (spD K F__law_draw) Ez (tCons (tVar 0) (tCons (tOp (rIx K) (tLst (tCons (tC (.int 2)) (tCons (tC (.int 3)) (tCons (tOp rPowI (tC (.int 10)) (tC (.int 20))) tNil)))) (tCallS (spD K F__law_draw) Ez (tCons (tVar 0) (tCons (tC (.int 3)) tNil)))) tNil))) [8]) (gName 5))
    (tSeq (tAsg (tLc (iRng1 (tCons (tVar 2) tNil)) (gName 8) tYes (tOp (rIx K) (tVar 5) (tOp rModI (tCB (rIntU) (tCons (tVar 8) tNil)) (tCB (rLenU K) (tCons (tVar 5) tNil)))) [8]) (gName 6))
    (tSeq (tIfS (tTest (tOp (rEqU K) (tVar 1) (tC (.int 1)))) (tSeq (tAsg (tCallS (spD K F__law_draw) Ez (tCons (tVar 0) (tCons (tVar 2) tNil))) (gName 7))
    (tAsg (tOp (rAddU K) (tOp (rIx K) (tVar 6) (tVar 7)) (tC (.int 1))) (gSub (tVar 6) (tVar 7) rSetL))) tNext)
    (tRet (tVar 6))))))))
theorem dv__law_cells {P : Program} {w : World} {K : PySem.W.Frag} {mg : Str → Option Value} {base : Heap} {f : Addr} {cdv : Value} {A : Around} {outer : List Env} {s : Shared} {H : Hp} {E : XK}
    (hr : Room 1 (A.deeper (envOfC "_law_cells" (defScope s__law_cells) s.heap.objs.size f cdv)))
    (hgd : (A.deeper (envOfC "_law_cells" (defScope s__law_cells) s.heap.objs.size f cdv)).guards = some [])
    (h__law_draw : HasG P w K mg base CX0 "_law_draw" p__law_draw 1 (spD K F__law_draw))
    (n_int : mg "int" = none)
    (n_len : mg "len" = none)
    (n_range : mg "range" = none) :
    PSs (cxOf CX0 P w K mg base n__law_cells "_law_cells" (defScope s__law_cells) f cdv A outer s H E).nox (defBody s__law_cells) (t__law_cells K) := by
  have S := sc__law_cells
  have hu : (A.deeper (envOfC "_law_cells" (defScope s__law_cells) s.heap.objs.size f cdv)).units + 64 < cLine := by have := hr.un; omega
  exact (pss_cons (ps_par (i := 1) (j := 2) (by rfl) S.nd rfl rfl (by decide) rfl rfl (pa_cons (pe_hG h__law_draw (hr.mono (by decide)) hgd pz0 (pa_cons (pv 0) (pa_cons pe_int pa_nil))) (pa_cons (pe_op op_addU pe_int (pe_hG h__law_draw (hr.mono (by decide)) hgd pz0 (pa_cons (pv 0) (pa_cons pe_int pa_nil)))) pa_nil)) (by rfl))
      (pss_cons (ps_asg (pe_tup (pa_cons (pe_op op_subU (pe_hG h__law_draw (hr.mono (by decide)) hgd pz0 (pa_cons (pv 0) (pa_cons pe_int pa_nil))) pe_int) (pa_cons (pe_op op_subU (pe_hG h__law_draw (hr.mono (by decide)) hgd pz0 (pa_cons (pv 0) (pa_cons pe_int pa_nil))) pe_int) pa_nil))) (pg_tup rfl (pgs_cons (pg_name (i := 3) S.nd rfl (.inr rfl)) (pgs_cons (pg_name (i := 4) S.nd rfl (.inr rfl)) pgs_nil))))
      (pss_cons (ps_if (pt_cmpR (op_eqU hu) (pv 1) pe_int (nomark _)) (pss_one (ps_ret (pe_lc (own := [("place", 8)]) (g := (gName 8)) (tt := tYes) rfl S.nd (pi_range1 (by rfl) n_range (pa_cons (pv 2) pa_nil)) (blkOk_by (N := n__law_cells) (sc := defScope s__law_cells) (by decide +kernel)) (fun _ _ _ _ _ => (pg_name (i := 8) S.nd rfl (.inl rfl))) (fun _ _ _ _ _ => pts_nil) (fun _ _ _ _ _ => (pe_op op_addU (pv 3) (pe_op op_mulU (pv 4) (pv 8))))))) pss_nil)
      (pss_cons (ps_asg (pe_lc (own := [("place", 8)]) (g := (gName 8)) (tt := tYes) rfl S.nd (pi_range1 (by rfl) n_range (pa_cons (pe_op op_addU pe_int (pe_hG h__law_draw (hr.mono (by decide)) hgd pz0 (pa_cons (pv 0) (pa_cons pe_int pa_nil)))) pa_nil)) (blkOk_by (N := n__law_cells) (sc := defScope s__law_cells) (by decide +kernel)) (fun _ _ _ _ _ => (pg_name (i := 8) S.nd rfl (.inl rfl))) (fun _ _ _ _ _ => pts_nil) (fun _ _ _ _ _ => (pe_hG h__law_draw (hr.mono (by decide)) hgd pz0 (pa_cons (pv 0) (pa_cons (pe_ix ix_seq (pe_lst (pa_cons pe_int (pa_cons pe_int (pa_cons (pe_op op_powU pe_int pe_int) pa_nil)))) (pe_hG h__law_draw (hr.mono (by decide)) hgd pz0 (pa_cons (pv 0) (pa_cons pe_int pa_nil))) (fun _ _ => rfl)) pa_nil))))) (pg_name (i := 5) S.nd rfl (.inr rfl)))
      (pss_cons (ps_setLc (i := 6) (own := [("place", 8)]) (g := (gName 8)) (tt := tYes) rfl S.nd rfl rfl (sw_true rfl rfl rfl (by decide +kernel)) (pi_range1 (by rfl) n_range (pa_cons (pv 2) pa_nil)) (blkOk_by (N := n__law_cells) (sc := defScope s__law_cells) (by decide +kernel)) (fun _ _ _ _ _ => (pg_name (i := 8) S.nd rfl (.inl rfl))) (fun _ _ _ _ _ => pts_nil) (fun _ _ _ _ _ => (pe_ix ix_seq (pv 5) (pe_op op_modU (pe_callTy call_intU (by rfl) n_int (by decide +kernel) (pa_cons (pv 8) pa_nil)) (pe_callB call_lenU (by rfl) n_len (by decide +kernel) (pa_cons (pv 5) pa_nil))) (fun _ _ => rfl))))
      (pss_cons (ps_if (pt_cmpR (op_eqU hu) (pv 1) pe_int (nomark _)) (pss_cons (ps_asg (pe_hG h__law_draw (hr.mono (by decide)) hgd pz0 (pa_cons (pv 0) (pa_cons (pv 2) pa_nil))) (pg_name (i := 7) S.nd rfl (.inl rfl)))
      (pss_one (ps_asg (pe_op op_addU (pe_ix ix_seq (pv 6) (pv 7) (fun _ _ => rfl)) pe_int) (pg_sub (pv 6) (pv 7) set_list)))) pss_nil)
      (pss_one (ps_ret (pv 6)))))))))
def t__law_run (K : PySem.W.Frag) : TS := (tSeq (tIfS (tAnd (tTest (tOp rGtI (tCB (rLenU K) (tCons (tVar 0) tNil)) (tC (.int 1)))) (tTru K (tCB (rAll K) (tCons (tLc (iRng1 (tCons (tOp rSubI (tCB (rLenU K) (tCons (tVar 0) tNil)) (tC (.int 1))) tNil)) (gName 2) tYes (tOp (rEqU K) (tOp rSubI (tOp (rIx K) (tVar 0) (tOp (rAddU K) (tVar 2) (tC (.int 1)))) (tOp (rIx K) (tVar 0) (tVar 2))) (tOp rSubI (tOp (rIx K) (tVar 0) (tC (.int 1))) (tOp (rIx K) (tVar 0) (tC (.int 0))))) [2]) tNil)))) (tRet (tTup (tCons (tC (.str "step")) (tCons (tOp (rIx K) (tVar 0) (tC (.int 0))) (tCons (tOp rSubI (tOp (rIx K) (tVar 0) (tC (.int 1))) (tOp (rIx K) (tVar 0) (tC (.int 0)))) tNil))))) tNext)
    (tSeq (tFor (iRng2 (tCons (tC (.int 1)) (tCons (tOp (rAddU K) (tCB (rLenU K) (tCons (tVar 0) tNil)) (tC (.int 1))) tNil))) (gName 1) (tIfS (tTru K (tCB (rAll K) (tCons (tLc (iRng1 (tCons (tCB (rLenU K) (tCons (tVar 0) tNil)) tNil)) (gName 2) tYes (tOp (rEqU K) (tOp (rIx K) (tVar 0) (tVar 2)) (tOp (rIx K) (tVar 0) (tOp rModI (tCB (rIntU) (tCons (tVar 2) tNil)) (tVar 1)))) [2]) tNil))) (tRet (tTup (tCons (tC (.str "round")) (tCons (tSl (rSlU K) (tVar 0) tNoPart (tPart (tVar 1))) tNil)))) tNext))
    (tRet (tC .non))))
theorem dv__law_run {P : Program} {w : World} {K : PySem.W.Frag} {mg : Str → Option Value} {base : Heap} {f : Addr} {cdv : Value} {A : Around} {outer : List Env} {s : Shared} {H : Hp} {E : XK}
    (hr : Room 0 (A.deeper (envOfC "_law_run" (defScope s__law_run) s.heap.objs.size f cdv)))
    (hgd : (A.deeper (envOfC "_law_run" (defScope s__law_run) s.heap.objs.size f cdv)).guards = some [])
    (n_all : mg "all" = none)
    (n_int : mg "int" = none)
    (n_len : mg "len" = none)
    (n_range : mg "range" = none) :
    PSs (cxOf CX0 P w K mg base n__law_run "_law_run" (defScope s__law_run) f cdv A outer s H E).nox (defBody s__law_run) (t__law_run K) := by
  have S := sc__law_run
  have hu : (A.deeper (envOfC "_law_run" (defScope s__law_run) s.heap.objs.size f cdv)).units + 64 < cLine := by have := hr.un; omega
  exact (pss_cons (ps_if (PW.pt (pw_and (pt_cmpR op_gtU (pe_callB call_lenU (by rfl) n_len (by decide +kernel) (pa_cons (pv 0) pa_nil)) pe_int (nomark _)) (pw_and1 (pt_tru (pe_callB (cr_all rfl) (by rfl) n_all (by decide +kernel) (pa_cons (pe_lc (own := [("at", 2)]) (g := (gName 2)) (tt := tYes) rfl S.nd (pi_range1 (by rfl) n_range (pa_cons (pe_op op_subU (pe_callB call_lenU (by rfl) n_len (by decide +kernel) (pa_cons (pv 0) pa_nil)) pe_int) pa_nil)) (blkOk_by (N := n__law_run) (sc := defScope s__law_run) (by decide +kernel)) (fun _ _ _ _ _ => (pg_name (i := 2) S.nd rfl (.inl rfl))) (fun _ _ _ _ _ => pts_nil) (fun _ _ _ _ _ => (pe_cmpR (op_eqU hu) (pe_op op_subU (pe_ix ix_seq (pv 0) (pe_op op_addU (pv 2) pe_int) (fun _ _ => rfl)) (pe_ix ix_seq (pv 0) (pv 2) (fun _ _ => rfl))) (pe_op op_subU (pe_ix ix_seq (pv 0) pe_int (fun _ _ => rfl)) (pe_ix ix_seq (pv 0) pe_int (fun _ _ => rfl))) (nomark _)))) pa_nil)))))) (pss_one (ps_ret (pe_tup (pa_cons pe_str (pa_cons (pe_ix ix_seq (pv 0) pe_int (fun _ _ => rfl)) (pa_cons (pe_op op_subU (pe_ix ix_seq (pv 0) pe_int (fun _ _ => rfl)) (pe_ix ix_seq (pv 0) pe_int (fun _ _ => rfl))) pa_nil)))))) pss_nil)
      (pss_cons (ps_for PassesOwn.never rfl (pi_range2 (by rfl) n_range (pa_cons pe_int (pa_cons (pe_op op_addU (pe_callB call_lenU (by rfl) n_len (by decide +kernel) (pa_cons (pv 0) pa_nil)) pe_int) pa_nil))) (pg_name (i := 1) S.nd rfl (.inr rfl)) (pss_one (ps_if (pt_tru (pe_callB (cr_all rfl) (by rfl) n_all (by decide +kernel) (pa_cons (pe_lc (own := [("at", 2)]) (g := (gName 2)) (tt := tYes) rfl S.nd (pi_range1 (by rfl) n_range (pa_cons (pe_callB call_lenU (by rfl) n_len (by decide +kernel) (pa_cons (pv 0) pa_nil)) pa_nil)) (blkOk_by (N := n__law_run) (sc := defScope s__law_run) (by decide +kernel)) (fun _ _ _ _ _ => (pg_name (i := 2) S.nd rfl (.inl rfl))) (fun _ _ _ _ _ => pts_nil) (fun _ _ _ _ _ => (pe_cmpR (op_eqU hu) (pe_ix ix_seq (pv 0) (pv 2) (fun _ _ => rfl)) (pe_ix ix_seq (pv 0) (pe_op op_modU (pe_callTy call_intU (by rfl) n_int (by decide +kernel) (pa_cons (pv 2) pa_nil)) (pv 1)) (fun _ _ => rfl)) (nomark _)))) pa_nil))) (pss_one (ps_ret (pe_tup (pa_cons pe_str (pa_cons (pe_slice sl_U (pv 0) po_none (po_some (pv 1))) pa_nil))))) pss_nil)))
      (pss_one (ps_ret pe_non))))
def t__law_at (K : PySem.W.Frag) : TS := (tRet (tIf (tTest (tOp (rEqU K) (tOp (rIx K) (tVar 0) (tC (.int 0))) (tC (.str "step")))) (tOp (rAddU K) (tOp (rIx K) (tVar 0) (tC (.int 1))) (tOp rMulU (tVar 1) (tOp (rIx K) (tVar 0) (tC (.int 2))))) (tOp (rIx K) (tOp (rIx K) (tVar 0) (tC (.int 1))) (tOp rModI (tCB (rIntU) (tCons (tVar 1) tNil)) (tCB (rLenU K) (tCons (tOp (rIx K) (tVar 0) (tC (.int 1))) tNil))))))
theorem dv__law_at {P : Program} {w : World} {K : PySem.W.Frag} {mg : Str → Option Value} {base : Heap} {f : Addr} {cdv : Value} {A : Around} {outer : List Env} {s : Shared} {H : Hp} {E : XK}
    (hr : Room 0 (A.deeper (envOfC "_law_at" (defScope s__law_at) s.heap.objs.size f cdv)))
    (hgd : (A.deeper (envOfC "_law_at" (defScope s__law_at) s.heap.objs.size f cdv)).guards = some [])
    (n_int : mg "int" = none)
    (n_len : mg "len" = none) :
    PSs (cxOf CX0 P w K mg base n__law_at "_law_at" (defScope s__law_at) f cdv A outer s H E).nox (defBody s__law_at) (t__law_at K) := by
  have S := sc__law_at
  have hu : (A.deeper (envOfC "_law_at" (defScope s__law_at) s.heap.objs.size f cdv)).units + 64 < cLine := by have := hr.un; omega
  exact (pss_one (ps_ret (pe_ifExp (pt_cmpR (op_eqU hu) (pe_ix ix_seq (pv 0) pe_int (fun _ _ => rfl)) pe_str (nomark _)) (pe_op op_addU (pe_ix ix_seq (pv 0) pe_int (fun _ _ => rfl)) (pe_op op_mulU (pv 1) (pe_ix ix_seq (pv 0) pe_int (fun _ _ => rfl)))) (pe_ix ix_seq (pe_ix ix_seq (pv 0) pe_int (fun _ _ => rfl)) (pe_op op_modU (pe_callTy call_intU (by rfl) n_int (by decide +kernel) (pa_cons (pv 1) pa_nil)) (pe_callB call_lenU (by rfl) n_len (by decide +kernel) (pa_cons (pe_ix ix_seq (pv 0) pe_int (fun _ _ => rfl)) pa_nil))) (fun _ _ => rfl)))))
def t__law_value (K : PySem.W.Frag) : TS := (tSeq (tAsg (tC .non) (gName 4))
    (tSeq (tTry K [⟨"InvalidRows", (some 5), fun a1 cls1 d1 => (tAsg (tLst (tCons (tC (.str "rows")) (tCons (tXv K a1 cls1 d1 (tVar 5)) tNil))) (gName 4))⟩, ⟨"InvalidNumber", (some 5), fun a0 cls0 d0 => (tAsg (tLst (tCons (tC (.str "number")) (tCons (tXv K a0 cls0 d0 (tVar 5)) tNil))) (gName 4))⟩] (fun xw0 => (tIfS (tTest (tOp (rEqU K) (tVar 0) (tC (.int 0)))) (tDrop (tCallS (spX K F_run_of) (WE xw0) (tCons (tLst tNil) tNil))) (tDrop (tCallS (spX K F_gone_on) (WE xw0) (tCons (tVar 1) (tCons (tVar 2) (tCons (tVar 3) tNil))))))) (fun _ _ _ _ => False))
    (tRet (tVar 4))))
theorem dv__law_value {P : Program} {w : World} {K : PySem.W.Frag} {mg : Str → Option Value} {base : Heap} {f : Addr} {cdv : Value} {A : Around} {outer : List Env} {s : Shared} {H : Hp} {E : XK}
    (hr : Room 3 (A.deeper (envOfC "_law_value" (defScope s__law_value) s.heap.objs.size f cdv)))
    (hgd : (A.deeper (envOfC "_law_value" (defScope s__law_value) s.heap.objs.size f cdv)).guards = some [])
    (h_gone_on : HasG P w K mg base (L2.CX P w) "gone_on" p_gone_on 2 (spX K F_gone_on))
    (h_run_of : HasG P w K mg base (L2.CX P w) "run_of" p_run_of 3 (spX K F_run_of))
    (e_InvalidNumber : IsErr P K mg "InvalidNumber")
    (e_InvalidRows : IsErr P K mg "InvalidRows") :
    PSs (cxOf CX0 P w K mg base n__law_value "_law_value" (defScope s__law_value) f cdv A outer s H E).nox (defBody s__law_value) (t__law_value K) := by
  have S := sc__law_value
  have hu : (A.deeper (envOfC "_law_value" (defScope s__law_value) s.heap.objs.size f cdv)).units + 64 < cLine := by have := hr.un; omega
  exact (pss_cons (ps_asg pe_non (pg_name (i := 4) S.nd rfl (.inl rfl)))
      (pss_cons (ps_tryN (tb := fun xw0 => (tIfS (tTest (tOp (rEqU K) (tVar 0) (tC (.int 0)))) (tDrop (tCallS (spX K F_run_of) (WE xw0) (tCons (tLst tNil) tNil))) (tDrop (tCallS (spX K F_gone_on) (WE xw0) (tCons (tVar 1) (tCons (tVar 2) (tCons (tVar 3) tNil))))))) takes0 (fun xw0 pn0 xe0 tk0 po0 => (pss_one (ps_if (pt_cmpR (op_eqU hu) (pv 0) pe_int (nomark _)) (pss_one (ps_expr (pe_hG h_run_of (hr.mono (by decide)) hgd (fun σ => passAt tk0 σ) (pa_cons (pe_lst pa_nil) pa_nil)))) (pss_one (ps_expr (pe_hG h_gone_on (hr.mono (by decide)) hgd (fun σ => passAt tk0 σ) (pa_cons (pv 1) (pa_cons (pv 2) (pa_cons (pv 3) pa_nil))))))))) (hs_named (i := 5) (ts := (fun a1 cls1 d1 => (tAsg (tLst (tCons (tC (.str "rows")) (tCons (tXv K a1 cls1 d1 (tVar 5)) tNil))) (gName 4)))) e_InvalidRows S.nd (fun a1 oe1 cls1 d1 pn1 hz1 hf1 => (pss_one (ps_asg (pe_lst (pa_cons pe_str (pa_cons (pe_xv hz1 hf1 (pv 5)) pa_nil))) (pg_name (i := 4) S.nd rfl (.inl rfl))))) (hs_named (i := 5) (ts := (fun a0 cls0 d0 => (tAsg (tLst (tCons (tC (.str "number")) (tCons (tXv K a0 cls0 d0 (tVar 5)) tNil))) (gName 4)))) e_InvalidNumber S.nd (fun a0 oe0 cls0 d0 pn0 hz0 hf0 => (pss_one (ps_asg (pe_lst (pa_cons pe_str (pa_cons (pe_xv hz0 hf0 (pv 5)) pa_nil))) (pg_name (i := 4) S.nd rfl (.inl rfl))))) hs_nil)))
      (pss_one (ps_ret (pv 4)))))
def t__law_right (K : PySem.W.Frag) : TS := (tSeq (tFor (iRng1 (tCons (tC (.int 3)) tNil)) (gName 1) (tSeq (tAsg (tCallS (spD K F__law_cells) Ez (tCons (tVar 0) tNil)) (gName 2))
    (tSeq (tAsg (tTup (tCons (tCB (rRep K) (tCons (tVar 2) tNil)) (tCons (tCallS (spD K F__law_run) Ez (tCons (tVar 2) tNil)) tNil))) (gTup K 2 (gCons (gName 3) (gCons (gName 4) gNil))))
    (tSeq (tAsg (tCallS (spX K F_run_of) Ez (tCons (tVar 2) tNil)) (gName 5))
    (tSeq (tIfS (tOr (tTest (tOp (rNeU K) (tCB (rRep K) (tCons (tVar 5) tNil)) (tCB (rRep K) (tCons (tVar 4) tNil)))) (tOr (tTest (tOp (rNeU K) (tCB (rRep K) (tCons (tCallNS 0 1 (spX K F_run_of) (fun vs zs => perm [0] (vs ++ zs)) Ez tNil (tCons (tVar 2) tNil)) tNil)) (tCB (rRep K) (tCons (tVar 4) tNil)))) (tTest (tOp (rNeU K) (tCB (rRep K) (tCons (tVar 2) tNil)) (tVar 3))))) (tRet (tC (.bl false))) tNext)
    (tSeq (tAsg (tTup (tCons (tOp (rIx K) (tLst (tCons (tC (.int 0)) (tCons (tCB (rLenU K) (tCons (tVar 2) tNil)) (tCons (tCallS (spD K F__law_draw) Ez (tCons (tVar 0) (tCons (tOp rPowI (tC (.int 10)) (tC (.int 6))) tNil))) tNil)))) (tCallS (spD K F__law_draw) Ez (tCons (tVar 0) (tCons (tC (.int 3)) tNil)))) (tCons (tCallS (spD K F__law_draw) Ez (tCons (tVar 0) (tCons (tC (.int 12)) tNil))) tNil))) (gTup K 2 (gCons (gName 6) (gCons (gName 7) gNil))))
    (tSeq (tAsg (tCB (rRep K) (tCons (tLc (iRng1 (tCons (tVar 7) tNil)) (gName 10) tYes (tCallS (spD K F__law_at) Ez (tCons (tVar 4) (tCons (tOp (rAddU K) (tVar 6) (tVar 10)) tNil))) [10]) tNil)) (gName 8))
    (tSeq (tIfS (tTest (tOp (rNeU K) (tCB (rRep K) (tCons (tCallS (spX K F_gone_on) Ez (tCons (tVar 5) (tCons (tVar 6) (tCons (tVar 7) tNil)))) tNil)) (tVar 8))) (tRet (tC (.bl false))) tNext)
    (tSeq (tIfS (tTest (tOp (rNeU K) (tCB (rRep K) (tCons (tCallNS 0 3 (spX K F_gone_on) (fun vs zs => perm [2, 1, 0] (vs ++ zs)) Ez tNil (tCons (tVar 7) (tCons (tVar 6) (tCons (tVar 5) tNil)))) tNil)) (tVar 8))) (tRet (tC (.bl false))) tNext)
    (tSeq (tIfS (tTest (tOp (rNeU K) (tCB (rRep K) (tCons (tCallS (spX K F_gone_on) Ez (tCons (tVar 5) (tCons (tC (.int 0)) (tCons (tCB (rLenU K) (tCons (tVar 2) tNil)) tNil)))) tNil)) (tVar 3))) (tRet (tC (.bl false))) tNext)
    (tSeq (tAsg (tOp rSubI (tUn (rU fun i => .int (-i)) (tC (.int 1))) (tCallS (spD K F__law_draw) Ez (tCons (tVar 0) (tCons (tC (.int 5)) tNil)))) (gName 9))
    (tSeq (tIfS (tTest (tOp (rNeU K) (tCallS (spD K F__law_value) Ez (tCons (tC (.int 1)) (tCons (tVar 5) (tCons (tVar 9) (tCons (tOp rSubI (tVar 9) (tC (.int 1))) tNil))))) (tLst (tCons (tC (.str "number")) (tCons (tVar 9) tNil))))) (tRet (tC (.bl false))) tNext)
    (tIfS (tTest (tOp (rNeU K) (tCallS (spD K F__law_value) Ez (tCons (tC (.int 1)) (tCons (tVar 5) (tCons (tC (.int 0)) (tCons (tVar 9) tNil))))) (tLst (tCons (tC (.str "number")) (tCons (tVar 9) tNil))))) (tRet (tC (.bl false))) tNext)))))))))))))
    (tRet (tOp (rEqU K) (tCallS (spD K F__law_value) Ez (tCons (tC (.int 0)) (tCons (tC .non) (tCons (tC (.int 0)) (tCons (tC (.int 0)) tNil))))) (tLst (tCons (tC (.str "rows")) (tCons (tLst tNil) tNil))))))
theorem dv__law_right {P : Program} {w : World} {K : PySem.W.Frag} {mg : Str → Option Value} {base : Heap} {f : Addr} {cdv : Value} {A : Around} {outer : List Env} {s : Shared} {H : Hp} {E : XK}
    (hr : Room 4 (A.deeper (envOfC "_law_right" (defScope s__law_right) s.heap.objs.size f cdv)))
    (hgd : (A.deeper (envOfC "_law_right" (defScope s__law_right) s.heap.objs.size f cdv)).guards = some [])
    (h__law_at : HasG P w K mg base CX0 "_law_at" p__law_at 1 (spD K F__law_at))
    (h__law_cells : HasG P w K mg base CX0 "_law_cells" p__law_cells 2 (spD K F__law_cells))
    (h__law_draw : HasG P w K mg base CX0 "_law_draw" p__law_draw 1 (spD K F__law_draw))
    (h__law_run : HasG P w K mg base CX0 "_law_run" p__law_run 1 (spD K F__law_run))
    (h__law_value : HasG P w K mg base CX0 "_law_value" p__law_value 4 (spD K F__law_value))
    (h_gone_on : HasG P w K mg base (L2.CX P w) "gone_on" p_gone_on 2 (spX K F_gone_on))
    (hk_gone_on_0 : HasGK P w K mg base (L2.CX P w) "gone_on" p_gone_on 2 (spX K F_gone_on) 0 ["number", "start", "run"] [2, 1, 0])
    (h_run_of : HasG P w K mg base (L2.CX P w) "run_of" p_run_of 3 (spX K F_run_of))
    (hk_run_of_0 : HasGK P w K mg base (L2.CX P w) "run_of" p_run_of 3 (spX K F_run_of) 0 ["cells"] [0])
    (n_len : mg "len" = none)
    (n_range : mg "range" = none)
    (n_repr : mg "repr" = none) :
    PSs (cxOf CX0 P w K mg base n__law_right "_law_right" (defScope s__law_right) f cdv A outer s H E).nox (defBody s__law_right) (t__law_right K) := by
  have S := sc__law_right
  have hu : (A.deeper (envOfC "_law_right" (defScope s__law_right) s.heap.objs.size f cdv)).units + 64 < cLine := by have := hr.un; omega
  exact (pss_cons (ps_for PassesOwn.never rfl (pi_range1 (by rfl) n_range (pa_cons pe_int pa_nil)) (pg_name (i := 1) S.nd rfl (.inl rfl)) (pss_cons (ps_asg (pe_hG h__law_cells (hr.mono (by decide)) hgd pz0 (pa_cons (pv 0) pa_nil)) (pg_name (i := 2) S.nd rfl (.inl rfl)))
      (pss_cons (ps_asg (pe_tup (pa_cons (pe_callB (call_rep hgd hu) (by rfl) n_repr (by decide +kernel) (pa_cons (pv 2) pa_nil)) (pa_cons (pe_hG h__law_run (hr.mono (by decide)) hgd pz0 (pa_cons (pv 2) pa_nil)) pa_nil))) (pg_tup rfl (pgs_cons (pg_name (i := 3) S.nd rfl (.inl rfl)) (pgs_cons (pg_name (i := 4) S.nd rfl (.inr rfl)) pgs_nil))))
      (pss_cons (ps_asg (pe_hG h_run_of (hr.mono (by decide)) hgd pzL (pa_cons (pv 2) pa_nil)) (pg_name (i := 5) S.nd rfl (.inl rfl)))
      (pss_cons (ps_if (PW.pt (pw_or (pt_cmpR (op_neU hu) (pe_callB (call_rep hgd hu) (by rfl) n_repr (by decide +kernel) (pa_cons (pv 5) pa_nil)) (pe_callB (call_rep hgd hu) (by rfl) n_repr (by decide +kernel) (pa_cons (pv 4) pa_nil)) (nomark _)) (pw_or (pt_cmpR (op_neU hu) (pe_callB (call_rep hgd hu) (by rfl) n_repr (by decide +kernel) (pa_cons (pe_hGN0 hk_run_of_0 (hr.mono (by decide)) hgd pzL (pk_cons (pv 2) pk_nil)) pa_nil)) (pe_callB (call_rep hgd hu) (by rfl) n_repr (by decide +kernel) (pa_cons (pv 4) pa_nil)) (nomark _)) (pw_or1 (pt_cmpR (op_neU hu) (pe_callB (call_rep hgd hu) (by rfl) n_repr (by decide +kernel) (pa_cons (pv 2) pa_nil)) (pv 3) (nomark _)))))) (pss_one (ps_ret pe_bl)) pss_nil)
      (pss_cons (ps_asg (pe_tup (pa_cons (pe_ix ix_seq (pe_lst (pa_cons pe_int (pa_cons (pe_callB call_lenU (by rfl) n_len (by decide +kernel) (pa_cons (pv 2) pa_nil)) (pa_cons (pe_hG h__law_draw (hr.mono (by decide)) hgd pz0 (pa_cons (pv 0) (pa_cons (pe_op op_powU pe_int pe_int) pa_nil))) pa_nil)))) (pe_hG h__law_draw (hr.mono (by decide)) hgd pz0 (pa_cons (pv 0) (pa_cons pe_int pa_nil))) (fun _ _ => rfl)) (pa_cons (pe_hG h__law_draw (hr.mono (by decide)) hgd pz0 (pa_cons (pv 0) (pa_cons pe_int pa_nil))) pa_nil))) (pg_tup rfl (pgs_cons (pg_name (i := 6) S.nd rfl (.inr rfl)) (pgs_cons (pg_name (i := 7) S.nd rfl (.inl rfl)) pgs_nil))))
      (pss_cons (ps_asg (pe_callB (call_rep hgd hu) (by rfl) n_repr (by decide +kernel) (pa_cons (pe_lc (own := [("place", 10)]) (g := (gName 10)) (tt := tYes) rfl S.nd (pi_range1 (by rfl) n_range (pa_cons (pv 7) pa_nil)) (blkOk_by (N := n__law_right) (sc := defScope s__law_right) (by decide +kernel)) (fun _ _ _ _ _ => (pg_name (i := 10) S.nd rfl (.inl rfl))) (fun _ _ _ _ _ => pts_nil) (fun _ _ _ _ _ => (pe_hG h__law_at (hr.mono (by decide)) hgd pz0 (pa_cons (pv 4) (pa_cons (pe_op op_addU (pv 6) (pv 10)) pa_nil))))) pa_nil)) (pg_name (i := 8) S.nd rfl (.inl rfl)))
      (pss_cons (ps_if (pt_cmpR (op_neU hu) (pe_callB (call_rep hgd hu) (by rfl) n_repr (by decide +kernel) (pa_cons (pe_hG h_gone_on (hr.mono (by decide)) hgd pzL (pa_cons (pv 5) (pa_cons (pv 6) (pa_cons (pv 7) pa_nil)))) pa_nil)) (pv 8) (nomark _)) (pss_one (ps_ret pe_bl)) pss_nil)
      (pss_cons (ps_if (pt_cmpR (op_neU hu) (pe_callB (call_rep hgd hu) (by rfl) n_repr (by decide +kernel) (pa_cons (pe_hGN0 hk_gone_on_0 (hr.mono (by decide)) hgd pzL (pk_cons (pv 7) (pk_cons (pv 6) (pk_cons (pv 5) pk_nil)))) pa_nil)) (pv 8) (nomark _)) (pss_one (ps_ret pe_bl)) pss_nil)
      (pss_cons (ps_if (pt_cmpR (op_neU hu) (pe_callB (call_rep hgd hu) (by rfl) n_repr (by decide +kernel) (pa_cons (pe_hG h_gone_on (hr.mono (by decide)) hgd pzL (pa_cons (pv 5) (pa_cons pe_int (pa_cons (pe_callB call_lenU (by rfl) n_len (by decide +kernel) (pa_cons (pv 2) pa_nil)) pa_nil)))) pa_nil)) (pv 3) (nomark _)) (pss_one (ps_ret pe_bl)) pss_nil)
      (pss_cons (ps_asg (pe_op op_subU (pe_un un_neg pe_int) (pe_hG h__law_draw (hr.mono (by decide)) hgd pz0 (pa_cons (pv 0) (pa_cons pe_int pa_nil)))) (pg_name (i := 9) S.nd rfl (.inl rfl)))
      (pss_cons (ps_if (pt_cmpR (op_neU hu) (pe_hG h__law_value (hr.mono (by decide)) hgd pz0 (pa_cons pe_int (pa_cons (pv 5) (pa_cons (pv 9) (pa_cons (pe_op op_subU (pv 9) pe_int) pa_nil))))) (pe_lst (pa_cons pe_str (pa_cons (pv 9) pa_nil))) (nomark _)) (pss_one (ps_ret pe_bl)) pss_nil)
      (pss_one (ps_if (pt_cmpR (op_neU hu) (pe_hG h__law_value (hr.mono (by decide)) hgd pz0 (pa_cons pe_int (pa_cons (pv 5) (pa_cons pe_int (pa_cons (pv 9) pa_nil))))) (pe_lst (pa_cons pe_str (pa_cons (pv 9) pa_nil))) (nomark _)) (pss_one (ps_ret pe_bl)) pss_nil))))))))))))))
      (pss_one (ps_ret (pe_cmpR (op_eqU hu) (pe_hG h__law_value (hr.mono (by decide)) hgd pz0 (pa_cons pe_int (pa_cons pe_non (pa_cons pe_int (pa_cons pe_int pa_nil))))) (pe_lst (pa_cons pe_str (pa_cons (pe_lst pa_nil) pa_nil))) (nomark _)))))
def t_law (K : PySem.W.Frag) : TS := (tSeq (tFor (iRng1 (tCons (tCB (rMaxU K) (tCons (tC (.int 1)) (tCons (tCB (rMinU K) (tCons (tC (.int 5)) (tCons (tCB (rLenU K) (tCons (tVar 0) tNil)) tNil))) tNil))) tNil)) (gName 1) (tIfS (tNot (tTru K (tCallS (spD K F__law_right) Ez (tCons (tCallS (spD K F__law_pot) Ez (tCons (tVar 0) (tCons (tVar 1) tNil))) tNil)))) (tRet (tC (.bl false))) tNext))
    (tRet (tC (.bl true))))
theorem dv_law {P : Program} {w : World} {K : PySem.W.Frag} {mg : Str → Option Value} {base : Heap} {f : Addr} {cdv : Value} {A : Around} {outer : List Env} {s : Shared} {H : Hp} {E : XK}
    (hr : Room 5 (A.deeper (envOfC "law" (defScope s_law) s.heap.objs.size f cdv)))
    (hgd : (A.deeper (envOfC "law" (defScope s_law) s.heap.objs.size f cdv)).guards = some [])
    (h__law_pot : HasG P w K mg base CX0 "_law_pot" p__law_pot 1 (spD K F__law_pot))
    (h__law_right : HasG P w K mg base CX0 "_law_right" p__law_right 5 (spD K F__law_right))
    (n_len : mg "len" = none)
    (n_max : mg "max" = none)
    (n_min : mg "min" = none)
    (n_range : mg "range" = none) :
    PSs (cxOf CX0 P w K mg base n_law "law" (defScope s_law) f cdv A outer s H E).nox (defBody s_law) (t_law K) := by
  have S := sc_law
  have hu : (A.deeper (envOfC "law" (defScope s_law) s.heap.objs.size f cdv)).units + 64 < cLine := by have := hr.un; omega
  exact (pss_cons (ps_for PassesOwn.never rfl (pi_range1 (by rfl) n_range (pa_cons (pe_callB (call_maxU rfl) (by rfl) n_max (by decide +kernel) (pa_cons pe_int (pa_cons (pe_callB (call_minU rfl) (by rfl) n_min (by decide +kernel) (pa_cons pe_int (pa_cons (pe_callB call_lenU (by rfl) n_len (by decide +kernel) (pa_cons (pv 0) pa_nil)) pa_nil))) pa_nil))) pa_nil)) (pg_name (i := 1) S.nd rfl (.inl rfl)) (pss_one (ps_if (pt_not (pt_tru (pe_hG h__law_right (hr.mono (by decide)) hgd pz0 (pa_cons (pe_hG h__law_pot (hr.mono (by decide)) hgd pz0 (pa_cons (pv 0) (pa_cons (pv 1) pa_nil))) pa_nil)))) (pss_one (ps_ret pe_bl)) pss_nil)))
      (pss_one (ps_ret pe_bl)))
end Lw

namespace Lw
open PySem PySem.Spec PyProof.Rows L2 Pd
/-! one step of a reading -/
local macro_rules | `(tactic| walk_at "mu") => `(tactic| first | with_reducible assumption | with_reducible exact mu_end | ((with_reducible refine' mu_set ?hm2); (case hm2 => walk_at "mu")) | ((with_reducible refine' mu_app ?hm2); (case hm2 => walk_at "mu")))
local macro_rules | `(tactic| walk_at "lw") => `(tactic| first | with_reducible assumption | with_reducible exact lw_ints _ _ | with_reducible exact ln_ints _ _ | with_reducible exact LW.d _ | with_reducible exact LN.d _ | with_reducible exact TW.d2 | with_reducible exact TW.d3 | with_reducible exact TW.d4 | with_reducible exact TW.d5 | with_reducible exact TW.d1 | with_reducible exact TW.d _ | with_reducible exact TW.t _ | with_reducible exact LW.f _ | (refine' LW.m ?hmu; (case hmu => walk_at "mu")) | (refine' LN.m ?hmu; (case hmu => walk_at "mu")))
local macro_rules | `(tactic| walk_at "sz") => `(tactic| first | exact rfl | with_reducible assumption | (refine sz_ok ?_; (try simp only [List.length_map, List.length_append, List.length_cons, List.length_nil]); omega) | (refine sz_lt ?_; (try simp only [List.length_map, List.length_append, List.length_cons, List.length_nil]); omega))
local macro_rules | `(tactic| walk_at "rs") => `(tactic| first | with_reducible assumption | with_reducible exact Rs.d _ | (refine' Rs.m ?hmu (rss_ints _); (case hmu => walk_at "mu")) | (refine' Rs.f (rss_ints _)))
local macro_rules | `(tactic| walk_at "sh") => `(tactic| first | with_reducible assumption | with_reducible exact shaped_ints _ | rfl | decide)
local macro_rules | `(tactic| walk_at "x") => `(tactic| (first
  | ((with_reducible refine' ax_var ?hv ?_); (case hv => exact rfl))
  | (with_reducible refine' ax_int ?_)
  | (with_reducible refine' ax_bl ?_)
  | (with_reducible refine' ax_str ?_)
  | (with_reducible refine' ax_non ?_)
  | (with_reducible refine' ax_cV ?_)
  | (with_reducible refine' ax_op ?_)
  | (with_reducible refine' ax_un ?_)
  | (with_reducible refine' au_neg ?_)
  | (with_reducible refine' o_addI ?_)
  | (with_reducible refine' o_subI ?_)
  | (with_reducible refine' o_gtI ?_)
  | (with_reducible refine' o_ltI ?_)
  | (with_reducible refine' o_leI ?_)
  | (with_reducible refine' o_geI ?_)
  | (with_reducible refine' o_eqI ?_)
  | (with_reducible refine' o_neI ?_)
  | (with_reducible refine' o_eqB ?_)
  | (with_reducible refine' o_neB ?_)
  | ((with_reducible refine' o_eqD ?a1 ?a2 ?a3 ?a4 ?_); (case a1 => walk_at "rs"); (case a2 => walk_at "rs"); (case a3 => walk_at "sh"); (case a4 => walk_at "sh"))
  | ((with_reducible refine' o_neD ?a1 ?a2 ?a3 ?a4 ?_); (case a1 => walk_at "rs"); (case a2 => walk_at "rs"); (case a3 => walk_at "sh"); (case a4 => walk_at "sh"))
  | (with_reducible refine' o_is ?_)
  | (with_reducible refine' o_isB ?_)
  | ((with_reducible refine' o_addL ?a1 ?a2 ?a3 ?_); (case a1 => walk_at "lw"); (case a2 => walk_at "lw"); (case a3 => walk_at "sz"))
  | (with_reducible refine' aa_cons ?_)
  | (with_reducible refine' aa_nil ?_)
  | (with_reducible refine' ax_cb ?_)
  | (with_reducible refine' c_abs ?_)
  | (with_reducible refine' c_int ?_)
  | (with_reducible refine' c_max2 ?_)
  | (with_reducible refine' c_min2 ?_)
  | ((with_reducible refine' c_lenL ?a1 ?_); (case a1 => walk_at "lw"))
  | ((with_reducible refine' c_lenT ?a1 ?_); (case a1 => walk_at "lw"))
  | (with_reducible refine' ax_lst ?_)
  | (with_reducible refine' ax_tup ?_)
  | ((with_reducible refine' And.intro ?a1 ?_); (case a1 => walk_at "sz"))
  | (with_reducible refine' at_test ?_)
  | (with_reducible refine' at_truB ?_)
  | (with_reducible refine' at_and ?_)
  | (with_reducible refine' at_or ?_)
  | (with_reducible refine' at_not ?_)
  | (with_reducible refine' at_yes ?_)
  | (with_reducible refine' ax_if ?_)
  | (with_reducible refine' as_seq ?_)
  | (with_reducible refine' as_asg ?_)
  | ((with_reducible refine' ag_name ?_); dsimp only [List.set_cons_zero, List.set_cons_succ])
  | (with_reducible refine' as_ret ?_)
  | (with_reducible refine' as_if ?_)
  | (with_reducible refine' as_drop ?_)
  | (with_reducible refine' as_next ?_)
  | (with_reducible refine' as_break ?_)
  | (with_reducible refine' as_cont ?_)
  | (with_reducible refine' as_retN ?_)
  | (with_reducible refine' ax_call ?_)
  | (with_reducible refine' ax_callN ?_)
  | ((with_reducible refine' c_isi ?a1 ?a2 ?_); (case a1 => with_reducible first | exact tyw_l | exact tyw_b | exact tyw_i | exact tyw_t | exact tyw_s | exact tyw_n); (case a2 => walk_at "kb"))
  | ((with_reducible refine' c_listL ?a1 ?_); (case a1 => walk_at "lw"))
  | (with_reducible refine' ax_sl ?_)
  | (with_reducible refine' xo_no ?_)
  | (with_reducible refine' xo_some ?_)
  | (with_reducible refine' ags_nil ?_)
  | (with_reducible refine' ags_cons ?_)
  | ((with_reducible refine' ag_tup ?a1 ?a2 ?_); (case a1 => walk_at "lw"); (case a2 => rfl))
  | (with_reducible refine' ag_sub ?_)
  | ((with_reducible refine' ax_bm ?_); (with_reducible refine' ax_var ?hv ?_); (case hv => exact rfl); refine ⟨?ty, ?_⟩; (case ty => walk_at "ty"))
  | ((with_reducible refine' ax_bm0 ?_); (with_reducible refine' ax_var ?hv ?_); (case hv => exact rfl); refine ⟨?ty, ?_⟩; (case ty => walk_at "ty"))
  | (with_reducible refine' Exists.intro _ (And.intro rfl ?_))))
local macro_rules | `(tactic| walk_at "ty") => `(tactic| first | exact ⟨rfl, _, by walk_at "mu"⟩ | exact rfl)
local macro_rules | `(tactic| walk_at "xs") => `(tactic| repeat walk_at "x")
local macro_rules | `(tactic| walk_at "kb") => `(tactic| with_reducible first | exact kb_NoneType_list | exact kb_NoneType_tuple | exact kb_NoneType_bool | exact kb_NoneType_int | exact kb_NoneType_str | exact kb_bool_list | exact kb_bool_tuple | exact kb_bool_bool | exact kb_bool_int | exact kb_bool_str | exact kb_int_list | exact kb_int_tuple | exact kb_int_bool | exact kb_int_int | exact kb_int_str | exact kb_str_list | exact kb_str_tuple | exact kb_str_bool | exact kb_str_int | exact kb_str_str | exact kb_list_list | exact kb_list_tuple | exact kb_list_bool | exact kb_list_int | exact kb_list_str | exact kb_tuple_list | exact kb_tuple_tuple | exact kb_tuple_bool | exact kb_tuple_int | exact kb_tuple_str)
/-! more steps: promises, raising, repr -/
local macro_rules | `(tactic| walk_at "x") => `(tactic| (first
  | (with_reducible refine' as_dropX (axx_call ?_))
  | (with_reducible refine' as_retX (axx_call ?_))
  | (with_reducible refine' as_asgX (axx_call ?_))
  | ((with_reducible refine' as_raiseE ?hv ?_); (case hv => exact rfl))
  | (with_reducible refine' ax_g ?_)
  | (with_reducible refine' ax_gX ?_)
  | (with_reducible refine' ax_gN ?_)
  | (with_reducible refine' ax_gXN ?_)
  | ((with_reducible refine' as_augR ?hv ?_); (case hv => exact rfl))
  | (with_reducible refine' o_eqS ?_)
  | (with_reducible refine' o_neS ?_)
  | (with_reducible refine' as_par ?_)
  | (with_reducible refine' as_par3 ?_)
  | (with_reducible refine' ao_l (ao_iI ?_))))
/-- a list or tuple of data is data -/
local macro_rules | `(tactic| walk_at "d") => `(tactic| with_reducible first | refine' NL.d0 ?_ | refine' NL.d1 ?_ | refine' NL.d2 ?_ | refine' NL.d3 ?_ | refine' NL.di ?_ | refine' NT.d1 ?_ | refine' NT.d2 ?_ | refine' NT.d3 ?_)
/-- a draw -/
local macro_rules | `(tactic| walk_at "dr") => `(tactic| (refine draw_at (by walk_at "mu") (by assumption) (by omega) (by first | decide | omega) (by first | decide | omega) ?_))
open M72 (IsRun Bnd Rnd Stp)
abbrev xD (R : W → Mu → Prop) (S : Str → W → Mu → Prop) (xk : L2.XK) : AEn := { nx := fun _ μ' => R (.d .none) μ', rt := R, xw := fun c d _ H => xk c d H, xc := fun x w _ μ' => S x w μ' }
theorem rd_need_least {K : PySem.W.Frag} (xk : L2.XK) : ∀ ws μ R S, F_need_least ws μ R S → AS K (t_need_least K fun c d _ H => xk c d H) (xD R S xk) (stG n_need_least ws) μ := by
  rintro ws μ R S ⟨a, b, rfl, h1, h2⟩
  show AS K _ _ [some (.d (.int a)), some (.d (.int b))] μ
  unfold t_need_least
  walk_at "xs"
  refine ite_b (fun h => ?_) (fun h => ?_)
  · have := of_decide_eq_true h
    walk_at "xs"
    exact h1 this
  · have := of_decide_eq_false h
    walk_at "xs"
    exact h2 (by omega)
theorem enum_eq (f : List Int) : (wInts f).mapIdx (fun i z => pairW (.d (.int (i : Nat))) z) = f.zipIdx.map fun p => W.d (.tuple [.int (p.2 : Nat), .int p.1]) := by
  apply List.ext_getElem?
  intro i
  rw [List.getElem?_mapIdx, List.getElem?_map, List.getElem?_map, List.getElem?_zipIdx]
  cases f[i]? with
  | none => rfl
  | some x => simp [pairW]
theorem zipIdx_mem {f : List Int} {x : Int × Nat} (h : x ∈ f.zipIdx) : x.2 < f.length ∧ x.1 = M72.g f x.2 := by
  obtain ⟨i, hi, e⟩ := List.getElem_of_mem h
  have e' : f.zipIdx[i]? = some x := by rw [List.getElem?_eq_getElem hi, e]
  rw [List.getElem?_zipIdx] at e'
  cases q : f[i]? with
  | none => rw [q] at e'; cases e'
  | some y =>
    rw [q] at e'
    have z : (y, 0 + i) = x := Option.some.inj e'
    subst z
    have hl := (List.getElem?_eq_some_iff.mp q).1
    refine ⟨by simpa using hl, ?_⟩
    show y = M72.g f (0 + i)
    unfold M72.g
    rw [Nat.zero_add, q]
    rfl
theorem atI_g {xs : List Int} {i : Nat} (h : i < xs.length) : atI (wInts xs) (i : Int) = some (.d (.int (M72.g xs i))) := atI_int (atI_get (M72.g_get h))
theorem rd_is_round {K : PySem.W.Frag} : ∀ ws μ R, F_is_round ws μ R → AS K (t_is_round K) { nx := fun _ μ' => R (.d .none) μ', rt := R } (stG n_is_round ws) μ := by
  rintro ws μ R ⟨xs, s, rfl, h0, hl, hs, q⟩
  show AS K _ _ [some (.d (dInts xs)), some (.d (.int s)), none, none] μ
  unfold t_is_round
  refine as_ret ?_
  refine ax_allP (fun p : Int × Nat => W.d (.tuple [.int (p.2 : Nat), .int p.1])) xs.zipIdx (fun p => decide (p.1 = M72.g xs (p.2 % s.toNat))) (sz_ok (by simp; omega)) (wk_tup (wks_cons (by decide) (wks_cons (by decide) wks_nil))) (ai_enum ?_) ?_ ?_
  · walk_at "xs"
    exact ⟨_, _, rfl, lw_ints _ _, enum_eq xs, lw_ints _ _, rfl⟩
  · rintro ⟨x, i⟩ hm
    obtain ⟨hi, hx⟩ := zipIdx_mem hm
    show AG K _ _ [some (.d (dInts xs)), some (.d (.int s)), none, none] _ _
    walk_at "xs"
    refine o_modI h0 ?_
    have e : ((i : Int) % s) = ((i % s.toNat : Nat) : Int) := by
      obtain ⟨n, rfl⟩ := Int.eq_ofNat_of_zero_le (Int.le_of_lt h0)
      rfl
    have hi2 : i % s.toNat < xs.length := Nat.lt_of_lt_of_le (Nat.mod_lt _ (by omega)) (by omega)
    rw [e]
    refine o_ixL (lw_ints _ _) (atI_g hi2) ?_
    walk_at "xs"
    exact rfl
  · refine q _ ?_
    rw [List.all_eq_true]
    constructor
    · intro h i hi
      have m : (M72.g xs i, i) ∈ xs.zipIdx := by
        refine List.mem_of_getElem? (i := i) ?_
        rw [List.getElem?_zipIdx, M72.g_get hi]
        simp
      exact of_decide_eq_true (h _ m)
    · rintro h ⟨x, i⟩ hm
      obtain ⟨hi, hx⟩ := zipIdx_mem hm
      refine decide_eq_true ?_
      dsimp only at hx ⊢
      rw [hx]
      exact h i hi
theorem dr1 (xs : List Int) : cutW (wInts xs) (some 1) none = wInts (xs.drop 1) := by
  rw [cut_int]
  have e : HT.sIx xs.length 0 (some ((1 : Nat) : Int)) = min 1 xs.length := HT.sIx_nat _ _ _
  rw [show (some (1 : Int)) = some ((1 : Nat) : Int) from rfl, e, HT.sIx_none]
  congr 1
  rw [List.take_of_length_le (by simp)]
  by_cases h : 1 ≤ xs.length
  · rw [show min 1 xs.length = 1 by omega]
  · have : xs = [] := List.length_eq_zero_iff.mp (by omega)
    subst this
    rfl
theorem cut_to {ns : List Int} {k : Nat} : cutW (wInts ns) none (some (k : Int)) = wInts (ns.take k) := by
  rw [cut_int, HT.sIx_none, HT.sIx_nat, List.drop_zero, Nat.sub_zero]
  exact congrArg wInts (List.take_eq_take_iff.mpr (by omega))
theorem zip_eq (xs ys : List Int) : List.zipWith pairW (wInts xs) (wInts ys) = (xs.zip ys).map fun p => W.d (.tuple [.int p.1, .int p.2]) := by
  simp only [wInts, List.zipWith_map, List.zip, List.map_zipWith]
  rfl
theorem repI (a : Int) (n : Nat) : (List.replicate n (wInts [a])).flatten = wInts (List.replicate n a) := by
  induction n with
  | zero => rfl
  | succ n ih =>
    rw [List.replicate_succ, List.flatten_cons, ih, List.replicate_succ]
    rfl
theorem rd_run_in {K : PySem.W.Frag} : ∀ ws μ R, F_run_in ws μ R → AS K (t_run_in K) { nx := fun _ μ' => R (.d .none) μ', rt := R } (stG n_run_in ws) μ := by
  rintro ws μ R ⟨xs, rfl, hx, hl, q⟩
  show AS K _ _ [some (.d (dInts xs)), none, none, none, none] μ
  unfold t_run_in
  have h0 : 0 < xs.length := List.length_pos_iff.mpr hx
  have dl := M72.dif_len xs
  walk_at "x"
  walk_at "x"
  refine ax_lcI (fun p : Int × Int => W.d (.tuple [.int p.1, .int p.2])) (xs.zip (xs.drop 1)) (fun p => p.2 - p.1) (sz_ok (by simp; omega)) (wk_tup (wks_cons (by decide) (wks_cons (by decide) wks_nil))) (ai_zip ?_) ?_ ?_
  · walk_at "xs"
    refine o_slL (lw_ints _ _) ?_
    rw [dr1]
    walk_at "d"
    walk_at "xs"
    exact ⟨_, _, _, _, rfl, lw_ints _ _, lw_ints _ _, zip_eq _ _, ⟨lw_ints _ _, lw_ints _ _⟩, rfl⟩
  · rintro ⟨a, b⟩ hm
    show AG K _ _ [some (.d (dInts xs)), none, none, none, none] _ _
    walk_at "xs"
    exact rfl
  · show NL (wInts (M72.dif xs)) _ _
    walk_at "d"
    refine ag_name ?_
    show AS K _ _ [some (.d (dInts xs)), some (.d (dInts (M72.dif xs))), none, none, none] _
    refine as_seq (as_if (at_and (at_test ?_)))
    walk_at "xs"
    walk_at "d"
    refine o_neD (.d _) (.d _) (shaped_ints _) rfl ?_
    rw [eqv_nil]
    have tail : ¬ Stp xs → AS K (tSeq (tAsg (tC (.int 1)) (gName 2)) (tSeq (tWhile (tNot (tTru K (tCallS (spD K F_is_round) Ez (tCons (tVar 0) (tCons (tVar 2) tNil))))) (tAug 2 (tC (.int 1)) (fun x y H Q => rAddI x y H Q ∨ rAddS x y H Q)))
        (tRet (tTup (tCons (tC (.str "round")) (tCons (tCB (rListU K) (tCons (tSl (rSlU K) (tVar 0) tNoPart (tPart (tVar 2))) tNil)) tNil)))))) { nx := fun _ μ' => R (.d .none) μ', rt := R } [some (.d (dInts xs)), some (.d (dInts (M72.dif xs))), none, none, none] μ := fun hs => by
      walk_at "xs"
      refine as_while (fun m Γ' μ' => ∃ s : Nat, Γ' = [some (.d (dInts xs)), some (.d (dInts (M72.dif xs))), some (.d (.int s)), none, none] ∧ μ' = μ ∧ 1 ≤ s ∧ s ≤ xs.length ∧ (∀ t, 1 ≤ t → t < s → ¬ Rnd xs t) ∧ m = xs.length - s) _ ⟨1, rfl, rfl, by omega, h0, fun t a b => by omega, rfl⟩ ?_
      rintro m Γ' μ' ⟨s, rfl, rfl, s1, s2, s3, rfl⟩
      refine at_not (at_truB ?_)
      walk_at "xs"
      refine ⟨xs, s, rfl, by omega, hl, by omega, fun b hb => ?_⟩
      refine ⟨b, rfl, ?_⟩
      cases b with
      | false =>
        refine ite_t rfl ?_
        have hn : ¬ Rnd xs s := fun z => by
          have := hb.mpr z
          cases this
        have hlt : s < xs.length := by
          rcases Nat.lt_or_ge s xs.length with z | z
          · exact z
          · have : s = xs.length := by omega
            rw [this] at hn
            exact absurd (M72.rnd_len xs) hn
        walk_at "xs"
        refine ⟨_, ?_, s + 1, rfl, rfl, by omega, hlt, fun t a b => ?_, rfl⟩
        · omega
        · by_cases e : t = s
          · rw [e]; exact hn
          · exact s3 t a (by omega)
      | true =>
        refine ite_f rfl ?_
        have hr : Rnd xs s := hb.mp rfl
        walk_at "xs"
        refine o_slL (lw_ints _ _) ?_
        rw [cut_to]
        walk_at "d"
        walk_at "xs"
        walk_at "d"
        walk_at "xs"
        walk_at "d"
        exact q (.round (xs.take s)) (.inr ⟨hs, s, s1, s2, hr, s3, rfl⟩)
    refine ⟨_, rfl, ?_⟩
    refine ite_b (fun h => ?_) (fun h => ?_)
    · have hd : M72.dif xs ≠ [] := by simpa using h
      have hp : 0 < (M72.dif xs).length := List.length_pos_iff.mpr hd
      refine at_test ?_
      walk_at "xs"
      refine o_ixL (lw_ints _ _) (atI_g hp) ?_
      walk_at "xs"
      walk_at "d"
      walk_at "xs"
      refine o_rep (ws := wInts [M72.g (M72.dif xs) 0]) (ln_ints _ [M72.g (M72.dif xs) 0]) (by simp; omega) (sz_ok (by simp; omega)) ?_
      rw [repI]
      walk_at "d"
      walk_at "xs"
      rw [eqv_ints]
      have e : (List.length (wInts (M72.dif xs)) : Int).toNat = (M72.dif xs).length := by simp
      rw [e]
      refine ite_b (fun h2 => ?_) (fun h2 => ?_)
      · have hs : Stp xs := M72.stp_dif.mpr ⟨hd, of_decide_eq_true h2⟩
        walk_at "xs"
        refine o_ixL (lw_ints _ _) (atI_g h0) ?_
        walk_at "xs"
        refine o_ixL (lw_ints _ _) (atI_g hp) ?_
        walk_at "xs"
        walk_at "d"
        rw [M72.dif0 hs]
        exact q _ (.inl ⟨hs, rfl⟩)
      · refine as_next ?_
        exact tail fun z => of_decide_eq_false h2 (M72.stp_dif.mp z).2
    · refine ite_f rfl ?_
      refine as_next ?_
      exact tail fun z => (M72.stp_dif.mp z).1 (by simpa using h)
theorem rd_run_of {K : PySem.W.Frag} (xk : L2.XK) : ∀ ws μ R S, F_run_of ws μ R S → AS K (t_run_of K fun c d _ H => xk c d H) (xD R S xk) (stG n_run_of ws) μ := by
  rintro ws μ R S ⟨xs, rfl, hl, h1, h2⟩
  show AS K _ _ [some (.d (dInts xs))] μ
  unfold t_run_of
  walk_at "xs"
  walk_at "d"
  refine o_eqD (.d _) (.d _) (shaped_ints _) rfl ?_
  rw [eqv_nil]
  walk_at "xs"
  refine ite_b (fun h => ?_) (fun h => ?_)
  · walk_at "xs"
    walk_at "d"
    walk_at "xs"
    exact h1 (by simpa using h)
  · walk_at "xs"
    exact ⟨xs, rfl, by simpa using h, hl, h2 (by simpa using h)⟩
theorem str_sr : (("step" : Str) = "round") = False := by simp; decide
theorem atI_w {ws : List W} {i : Nat} {w : W} (h : ws[i]? = some w) : atI ws (i : Int) = some w := atI_get h
theorem rdat_tw : ∀ r, TW (.d (rdat r)) (match r with | .step a b => [.d (.str "step"), .d (.int a), .d (.int b)] | .round ys => [.d (.str "round"), .d (dInts ys)])
  | .step _ _ => .d _
  | .round _ => .d _
theorem rd_cell_of {K : PySem.W.Frag} : ∀ ws μ R, F_cell_of ws μ R → AS K (t_cell_of K) { nx := fun _ μ' => R (.d .none) μ', rt := R } (stG n_cell_of ws) μ := by
  rintro ws μ R ⟨r, i, rfl, ho, i0, i1, q⟩
  show AS K _ _ [some (.d (rdat r)), some (.d (.int i))] μ
  unfold t_cell_of
  cases r with
  | step a b =>
    walk_at "xs"
    refine o_ixT TW.d3 rfl ?_
    walk_at "xs"
    refine ite_t (by decide) ?_
    walk_at "xs"
    refine o_ixT TW.d3 rfl ?_
    walk_at "xs"
    refine o_ixT TW.d3 rfl ?_
    refine o_mulI (.inl ⟨i0, i1⟩) ?_
    walk_at "xs"
    exact q
  | round ys =>
    obtain ⟨h1, h2⟩ := ho
    have hl : 0 < ys.length := List.length_pos_iff.mpr h1
    walk_at "xs"
    refine o_ixT TW.d2 rfl ?_
    walk_at "xs"
    refine ite_f (by decide) ?_
    walk_at "xs"
    refine o_ixT TW.d2 rfl ?_
    walk_at "xs"
    refine o_ixT TW.d2 rfl ?_
    walk_at "xs"
    refine o_modI (by simp; omega) ?_
    have e0 := Int.emod_nonneg i (show ((wInts ys).length : Int) ≠ 0 by simp; omega)
    have e1 := Int.emod_lt_of_pos i (show 0 < ((wInts ys).length : Int) by simp; omega)
    have e2 : (wInts ys).length = ys.length := by simp
    rw [e2] at e0 e1 ⊢
    have ga := atI_g (xs := ys) (i := (i % (ys.length : Int)).toNat) (by omega)
    rw [show (((i % (ys.length : Int)).toNat : Nat) : Int) = i % (ys.length : Int) by omega] at ga
    refine o_ixL (lw_ints _ _) ga ?_
    exact q
theorem rd_gone_on {K : PySem.W.Frag} (xk : L2.XK) : ∀ ws μ R S, F_gone_on ws μ R S → AS K (t_gone_on K fun c d _ H => xk c d H) (xD R S xk) (stG n_gone_on ws) μ := by
  rintro ws μ R S ⟨r, s, n, rfl, ho, s1, n1, h1, h2, h3⟩
  show AS K _ _ [some (.d (rdat r)), some (.d (.int s)), some (.d (.int n)), none] μ
  unfold t_gone_on
  walk_at "xs"
  refine ⟨s, 0, rfl, h1, fun hs => ?_⟩
  walk_at "xs"
  refine ⟨n, 0, rfl, h2 hs, fun hn => ?_⟩
  walk_at "xs"
  refine ax_lcI (fun (i : Nat) => W.d (.int (0 + i))) (List.range n.toNat) (fun i => r.at (s + i)) (sz_ok (by simp; omega)) (wk_name (by decide)) (ai_rng1 ?_) ?_ ?_
  · walk_at "xs"
    exact ⟨by omega, rfl, trivial, rfl⟩
  · intro i hi
    have := List.mem_range.mp hi
    show AG K _ _ [some (.d (rdat r)), some (.d (.int s)), some (.d (.int n)), none] _ _
    walk_at "xs"
    refine ⟨r, _, rfl, ho, by omega, by omega, ?_⟩
    rw [Int.zero_add]
    exact ⟨rfl, rfl⟩
  · walk_at "d"
    exact h3 hs hn
theorem rd__law_at {K : PySem.W.Frag} : ∀ ws μ R, F__law_at ws μ R → AS K (t__law_at K) { nx := fun _ μ' => R (.d .none) μ', rt := R } (stG n__law_at ws) μ := by
  rintro ws μ R ⟨r, i, rfl, ho, i0, i1, q⟩
  show AS K _ _ [some (.d (rdat r)), some (.d (.int i))] μ
  unfold t__law_at
  cases r with
  | step a b =>
    walk_at "xs"
    refine o_ixT TW.d3 rfl ?_
    walk_at "xs"
    refine ite_t (by decide) ?_
    walk_at "xs"
    refine o_ixT TW.d3 rfl ?_
    walk_at "xs"
    refine o_ixT TW.d3 rfl ?_
    refine o_mulI (.inl ⟨i0, i1⟩) ?_
    walk_at "xs"
    exact q
  | round ys =>
    obtain ⟨h1, h2⟩ := ho
    have hl : 0 < ys.length := List.length_pos_iff.mpr h1
    walk_at "xs"
    refine o_ixT TW.d2 rfl ?_
    walk_at "xs"
    refine ite_f (by decide) ?_
    walk_at "xs"
    refine o_ixT TW.d2 rfl ?_
    walk_at "xs"
    refine o_ixT TW.d2 rfl ?_
    walk_at "xs"
    refine o_modI (by simp; omega) ?_
    have e0 := Int.emod_nonneg i (show ((wInts ys).length : Int) ≠ 0 by simp; omega)
    have e1 := Int.emod_lt_of_pos i (show 0 < ((wInts ys).length : Int) by simp; omega)
    have e2 : (wInts ys).length = ys.length := by simp
    rw [e2] at e0 e1 ⊢
    have ga := atI_g (xs := ys) (i := (i % (ys.length : Int)).toNat) (by omega)
    rw [show (((i % (ys.length : Int)).toNat : Nat) : Int) = i % (ys.length : Int) by omega] at ga
    refine o_ixL (lw_ints _ _) ga ?_
    exact q
theorem p18 : (10 : Int) ^ (18 : Int).toNat = 1000000000000000000 := by decide +kernel
theorem p27 : (10 : Int) ^ (27 : Int).toNat = 1000000000000000000000000000 := by decide +kernel
theorem p28 : (10 : Int) ^ (28 : Int).toNat = 10000000000000000000000000000 := by decide +kernel
theorem p29 : (10 : Int) ^ (29 : Int).toNat = 100000000000000000000000000000 := by decide +kernel
theorem p30 : (10 : Int) ^ (30 : Int).toNat = 1000000000000000000000000000000 := by decide +kernel
theorem p20 : (10 : Int) ^ (20 : Int).toNat = 100000000000000000000 := by decide +kernel
theorem p6 : (10 : Int) ^ (6 : Int).toNat = 1000000 := by decide +kernel
theorem ten_ok {j : Int} (h0 : 0 ≤ j) (h1 : j ≤ 1000) : COp 10 j := pow_ok (a := 4) h0 (by decide) (by omega)
theorem mul_r {i j : Int} (h : -(2 ^ 64) < j ∧ j < 2 ^ 64) : CMul i j := .inr h
theorem mul_l {i j : Int} (h : -(2 ^ 64) < i ∧ i < 2 ^ 64) : CMul i j := .inl h
theorem div_ok {i j : Int} (h : 0 < j) (hb : j < 2 ^ 200) : CDivW i j := wide_div (b := 200) h (by omega) (by decide) (by decide)
theorem pot_ok {a b c : Int} {n : Nat} (h0 : 0 ≤ a) (h1 : 0 ≤ b) (h2 : b < 2 ^ 200) (h3 : 0 ≤ c) (h4 : c ≤ n) : PotOk n (some (.lst (wInts [a, b, c]))) := ⟨a, b, c, rfl, h0, h1, h2, h3, h4⟩
theorem rd__law_pot {K : PySem.W.Frag} : ∀ ws μ R, F__law_pot ws μ R → AS K (t__law_pot K) { nx := fun _ μ' => R (.d .none) μ', rt := R } (stG n__law_pot ws) μ := by
  rintro ws μ R ⟨ns, k, rfl, k0, k1, q⟩
  show AS K (t__law_pot K) _ [some (.f (wInts ns)), some (.d (.int k)), none, none, none] μ
  unfold t__law_pot
  walk_at "xs"
  refine o_mulI (mul_l (by decide)) ?_
  walk_at "xs"
  refine as_for (fun n : Int => W.d (.int n)) ns (fun pre Γ' μ' => ∃ t z, Γ' = [some (.f (wInts ns)), some (.d (.int k)), some (.d (.int t)), z, none] ∧ μ' = μ) (ai_l (ai_list ?_)) ?_ ?_
  · walk_at "xs"
    exact ⟨_, LW.f _, rfl, fun _ _ _ _ => LW.f _, _, none, rfl, rfl⟩
  · rintro pre x post Γ' μ' e ⟨t, z, rfl, rfl⟩
    walk_at "xs"
    refine o_mulI (mul_r (by decide)) ?_
    walk_at "xs"
    refine o_mulI (mul_r (by decide)) ?_
    walk_at "xs"
    refine o_powI (ten_ok (by decide) (by decide)) ?_
    walk_at "xs"
    refine o_modI (by rw [p27]; decide) ?_
    walk_at "xs"
    exact ⟨_, _, rfl, rfl⟩
  · rintro Γ' μ0 ⟨t, z, rfl, rfl⟩
    refine as_cut (fun Γ' μ' => ∃ c, Γ' = [some (.f (wInts ns)), some (.d (.int k)), some (.d (.int t)), z, some (.d (.int c))] ∧ μ' = μ0) ?_ ?_
    · walk_at "xs"
      refine ite_b (fun h => ?_) (fun h => ?_)
      · walk_at "xs"
        have hk : k.toNat < ns.length := by
          have := of_decide_eq_true h
          simp at this
          omega
        have hx : ns[k.toNat]? = some ns[k.toNat] := List.getElem?_eq_getElem hk
        have e := atI_get hx
        rw [show ((k.toNat : Nat) : Int) = k by omega] at e
        refine o_ixL (LW.f _) (atI_int e) ?_
        walk_at "xs"
        exact rfl
      · walk_at "xs"
        exact rfl
    · rintro Γ' μ' ⟨c, rfl, rfl⟩
      walk_at "xs"
      refine o_powI (ten_ok (by decide) (by decide)) ?_
      walk_at "xs"
      refine o_mulI (mul_r (by decide)) ?_
      walk_at "xs"
      refine o_mulI (mul_r (by decide)) ?_
      walk_at "xs"
      refine o_powI (ten_ok (by decide) (by decide)) ?_
      walk_at "xs"
      refine o_modI (by rw [p29]; decide) ?_
      walk_at "xs"
      refine NL.m ?_
      rw [p29]
      have h1 := Int.emod_nonneg (t * 5 + c * 9) (show (100000000000000000000000000000 + 319 : Int) ≠ 0 by decide)
      have h2 := Int.emod_lt_of_pos (t * 5 + c * 9) (show (0 : Int) < 100000000000000000000000000000 + 319 by decide)
      exact q _ (pot_ok (c := 0) (by omega) (by omega) (by omega) (by decide) (by decide))
theorem rd__law_draw {K : PySem.W.Frag} : ∀ ws μ R, F__law_draw ws μ R → AS K (t__law_draw K) { nx := fun _ μ' => R (.d .none) μ', rt := R } (stG n__law_draw ws) μ := by
  rintro ws μ R ⟨k, many, p, n, rfl, hk, ⟨a, b, c, rfl, a0, b0, b1, c0, c1⟩, n1, m0, m1, q⟩
  show AS K (t__law_draw K) _ [some (.m k), some (.d (.int many)), none, none] μ
  unfold t__law_draw
  have g0 : LW μ (.m k) (wInts [a, b, c]) := .m hk
  walk_at "xs"
  refine o_ixL g0 (atI_int (x := a) rfl) ?_
  walk_at "xs"
  refine ite_b (fun h => ?_) (fun h => ?_)
  · have ha : 0 < a := of_decide_eq_true h
    walk_at "xs"
    refine o_ixL g0 (atI_int (x := a) rfl) ?_
    walk_at "xs"
    refine o_modI m0 ?_
    walk_at "xs"
    refine o_ixL g0 (atI_int (x := a) rfl) ?_
    walk_at "xs"
    refine o_divI (div_ok m0 m1) ?_
    walk_at "xs"
    refine aset_L (j := 0) hk rfl ?_
    walk_at "xs"
    exact q _ _ (Int.emod_nonneg _ (by omega)) (Int.emod_lt_of_pos _ m0) (pot_ok (Int.ediv_nonneg a0 (by omega)) b0 b1 c0 (by omega))
  · refine as_next ?_
    walk_at "xs"
    refine o_ixL g0 (atI_int (x := c) rfl) ?_
    walk_at "xs"
    refine aset_L (j := 2) hk rfl ?_
    have ej : (some (C.lst ((wInts [a, b, c]).set 2 (W.d (PyData.int (c + 1)))))) = some (C.lst (wInts [a, b, c + 1])) := rfl
    rw [ej]
    have hk2 : (μ.set k (some (C.lst (wInts [a, b, c + 1]))))[k]? = some (some (C.lst (wInts [a, b, c + 1]))) := mu_set hk
    have g2 : LW (μ.set k (some (C.lst (wInts [a, b, c + 1])))) (.m k) (wInts [a, b, c + 1]) := .m hk2
    walk_at "xs"
    refine o_ixL g2 (atI_int (x := b) rfl) ?_
    walk_at "xs"
    refine o_ixL g2 (atI_int (x := c + 1) rfl) ?_
    refine o_mulI (mul_l (by decide)) ?_
    walk_at "xs"
    refine o_powI (pow_ok (a := 201) (by decide) (by omega) (by decide)) ?_
    walk_at "xs"
    refine o_ixL g2 (atI_int (x := c + 1) rfl) ?_
    walk_at "xs"
    refine o_powI (ten_ok (by decide) (by decide)) ?_
    walk_at "xs"
    rw [p30]
    refine o_modI (by decide) ?_
    generalize (b + 32452843 * (c + 1)) ^ (3 : Int).toNat + (c + 1) = z
    have h1 := Int.emod_nonneg z (show (1000000000000000000000000000000 + 57 : Int) ≠ 0 by decide)
    have h2 := Int.emod_lt_of_pos z (show (0 : Int) < 1000000000000000000000000000000 + 57 by decide)
    generalize z % (1000000000000000000000000000000 + 57 : Int) = z2 at *
    walk_at "xs"
    refine o_mulX (mulx_ok (a := 200) (b := 200) (by omega) (by omega) (by decide)) ?_
    walk_at "xs"
    refine o_ixL g2 (atI_int (x := b) rfl) ?_
    walk_at "xs"
    refine o_ixL g2 (atI_int (x := c + 1) rfl) ?_
    refine o_mulI (mul_l (by decide)) ?_
    walk_at "xs"
    refine o_powI (ten_ok (by decide) (by decide)) ?_
    walk_at "xs"
    rw [p28]
    refine o_modI (by decide) ?_
    walk_at "xs"
    refine o_divI (div_ok (by decide) (by decide)) ?_
    walk_at "xs"
    refine o_modI m0 ?_
    exact q _ _ (Int.emod_nonneg _ (by omega)) (Int.emod_lt_of_pos _ m0) (pot_ok a0 b0 b1 (by omega) (by omega))
theorem fz_pot {μ : Mu} {k n : Nat} {p : Option C} {d : PyData} {R : W → Mu → Prop} (hp : PotOk n p) (q : R (.d d) (μ.set k p)) : Fz μ (.d d) (μ.set k p) R := ⟨_, [], d, by simp, by simp, Keeps.pot hp, .d d, q⟩
theorem fz_potI {μ : Mu} {k n : Nat} {p : Option C} {xs : List Int} {R : W → Mu → Prop} (hp : PotOk n p) (q : R (.d (dInts xs)) (μ.set k p)) : Fz μ (.m (μ.set k p).length) (μ.set k p ++ [some (.lst (wInts xs))]) R :=
  ⟨_, [some (.lst (wInts xs))], dInts xs, rfl, by simp, Keeps.pot hp, .m (by simp) mu_end (rns_ints xs), q⟩
theorem rng_split {n : Nat} {pre post : List Nat} {x : Nat} (h : List.range n = pre ++ x :: post) : x = pre.length ∧ x < n := by
  have e : (List.range n)[pre.length]? = some x := by rw [h]; simp
  have l := congrArg List.length h
  simp at l
  rw [List.getElem?_range (by omega)] at e
  have e' := Option.some.inj e
  exact ⟨e'.symm, by omega⟩
theorem rd__law_cells {K : PySem.W.Frag} : ∀ ws μ R, F__law_cells ws μ R → AS K (t__law_cells K) { nx := fun _ μ' => R (.d .none) μ', rt := R } (stG n__law_cells ws) μ := by
  rintro ws μ R ⟨k, p, n, rfl, hk, hp, hn, q⟩
  refine as_fz ?_
  show AS K _ _ [some (.m k), none, none, none, none, none, none, none, none] μ
  unfold t__law_cells
  walk_at "xs"
  walk_at "dr"
  intro r1 p1 a1 b1 hp1
  walk_at "xs"
  walk_at "dr"
  intro r2 p2 a2 b2 hp2
  rw [mu_set2]
  walk_at "xs"
  refine ⟨_, _, rfl, ?_⟩
  dsimp only [List.set_cons_zero, List.set_cons_succ]
  walk_at "xs"
  walk_at "dr"
  intro r3 p3 a3 b3 hp3
  rw [mu_set2]
  walk_at "xs"
  walk_at "dr"
  intro r4 p4 a4 b4 hp4
  rw [mu_set2]
  walk_at "xs"
  walk_at "d"
  walk_at "xs"
  refine ite_b (fun h => ?_) (fun h => ?_)
  · walk_at "xs"
    refine ax_lcI (fun (i : Nat) => W.d (.int (0 + i))) (List.range (1 + r2).toNat) (fun i => r3 - 5 + (r4 - 4) * (0 + (i : Int))) (sz_ok (by simp; omega)) (wk_name (by decide)) (ai_rng1 ?_) ?_ ?_
    · walk_at "xs"
      exact ⟨by omega, rfl, trivial, rfl⟩
    · intro i hi
      show AG K _ _ [some (.m k), some (.d (.int r1)), some (.d (.int (1 + r2))), some (.d (.int (r3 - 5))), some (.d (.int (r4 - 4))), none, none, none, none] _ _
      walk_at "xs"
      refine o_mulI (.inl (by omega)) ?_
      walk_at "xs"
      exact rfl
    · walk_at "d"
      refine fz_pot hp4 (q _ _ (fun z => ?_) (by simp; omega) (fun x hx => ?_) (hp4.le (by omega)))
      · have := congrArg List.length z
        simp at this
        omega
      · obtain ⟨i, hi, rfl⟩ := List.mem_map.mp hx
        have hi := List.mem_range.mp hi
        have e1 : (r3 - 5 + (r4 - 4) * (0 + (i : Int))).natAbs ≤ (r3 - 5).natAbs + ((r4 - 4) * (0 + (i : Int))).natAbs := Int.natAbs_add_le _ _
        rw [Int.natAbs_mul] at e1
        have e2 : (r4 - 4).natAbs * (0 + (i : Int)).natAbs ≤ 4 * 10 := Nat.mul_le_mul (by omega) (by omega)
        have e3 : 20 + 4 * 10 ≤ M72.B := by decide
        omega
  · walk_at "xs"
    refine ax_lcD (fun (i : Nat) => W.d (.int (0 + i))) (wk_name (by decide)) (ai_rng1 ?_)
    walk_at "xs"
    walk_at "dr"
    intro r5 p5 a5 b5 hp5
    rw [mu_set2]
    walk_at "xs"
    refine ⟨by omega, List.range (1 + r5).toNat, fun pre acc μ' => ∃ ts p', acc = wInts ts ∧ ts.length = pre.length ∧ (∀ x ∈ ts, x.natAbs ≤ 100000000000000000000) ∧ μ' = μ.set k p' ∧ PotOk (n + 5 + 2 * pre.length) p', rfl, sz_ok (by simp; omega), fun _ _ _ _ => trivial, ⟨[], p5, rfl, rfl, (fun x hx => by cases hx), rfl, hp5.le (by omega)⟩, ?_, ?_⟩
    · rintro pre x post acc μ' e hl ⟨ts, p', rfl, ht, hb, rfl, hp'⟩
      have hpl : pre.length + 1 ≤ 5 := by
        have := congrArg List.length e
        simp at this
        omega
      show AG K _ _ [some (.m k), some (.d (.int r1)), some (.d (.int (1 + r2))), some (.d (.int (r3 - 5))), some (.d (.int (r4 - 4))), none, none, none, none] _ _
      walk_at "xs"
      refine ite_t rfl ?_
      walk_at "xs"
      refine o_powI (ten_ok (by decide) (by decide)) ?_
      rw [p20]
      walk_at "xs"
      walk_at "d"
      walk_at "xs"
      walk_at "dr"
      intro r6 p6 a6 b6 hp6
      rw [mu_set2]
      obtain ⟨m, hm, m0, m1⟩ : ∃ m, atI (List.map W.d [PyData.int 2, .int 3, .int 100000000000000000000]) r6 = some (.d (.int m)) ∧ 0 < m ∧ m ≤ 100000000000000000000 := by
        have : r6 = 0 ∨ r6 = 1 ∨ r6 = 2 := by omega
        rcases this with rfl | rfl | rfl
        · exact ⟨2, rfl, by decide, by decide⟩
        · exact ⟨3, rfl, by decide, by decide⟩
        · exact ⟨100000000000000000000, rfl, by decide, by decide⟩
      refine o_ixL (.d _) hm ?_
      walk_at "xs"
      walk_at "dr"
      intro r7 p7 a7 b7 hp7
      rw [mu_set2]
      refine ⟨ts ++ [r7], p7, by simp, by simp [ht], fun x hx => ?_, rfl, hp7.le (by simp; omega)⟩
      rcases List.mem_append.mp hx with hx | hx
      · exact hb x hx
      · have : x = r7 := by simpa using hx
        subst this
        omega
    · rintro acc μ' ⟨ts, p', rfl, ht, hb, rfl, hp'⟩
      rw [List.length_range] at ht hp'
      have hts : 0 < ts.length := by omega
      walk_at "d"
      walk_at "xs"
      refine ax_lcI (fun (i : Nat) => W.d (.int (0 + i))) (List.range (1 + r2).toNat) (fun i => M72.g ts (i % ts.length)) (sz_ok (by simp; omega)) (wk_name (by decide)) (ai_rng1 ?_) ?_ ?_
      · walk_at "xs"
        exact ⟨by omega, rfl, trivial, rfl⟩
      · intro i hi
        show AG K _ _ [some (.m k), some (.d (.int r1)), some (.d (.int (1 + r2))), some (.d (.int (r3 - 5))), some (.d (.int (r4 - 4))), some (.d (dInts ts)), none, none, none] _ _
        walk_at "xs"
        refine o_modI (by simp; omega) ?_
        have e2 : (0 + (i : Int)) % ((wInts ts).length : Int) = ((i % ts.length : Nat) : Int) := by simp
        rw [e2]
        refine o_ixL (lw_ints _ _) (atI_g (Nat.mod_lt _ hts)) ?_
        exact ⟨rfl, rfl⟩
      · generalize hxs : (List.range (1 + r2).toNat).map (fun i => M72.g ts (i % ts.length)) = xs
        have xl : xs.length = (1 + r2).toNat := by rw [← hxs]; simp
        have xb : ∀ x ∈ xs, x.natAbs ≤ 100000000000000000000 := fun x hx => by
          rw [← hxs] at hx
          obtain ⟨i, hi, rfl⟩ := List.mem_map.mp hx
          exact hb _ (M72.g_mem (Nat.mod_lt _ hts))
        have hB : 100000000000000000000 + 1 ≤ M72.B := by decide
        refine NL.m ?_
        walk_at "xs"
        refine ite_b (fun h => ?_) (fun h => ?_)
        · walk_at "xs"
          walk_at "dr"
          intro r8 p8 a8 b8 hp8
          have hlen : (μ.set k p').length = (μ.set k p8).length := by simp
          rw [mu_setApp (mu_set hk), mu_set2, hlen]
          obtain ⟨j, rfl⟩ := Int.eq_ofNat_of_zero_le a8
          have hj : j < xs.length := by omega
          walk_at "xs"
          refine o_ixL (.m mu_end) (atI_g hj) ?_
          walk_at "xs"
          refine aset_L (j := j) mu_end ?_ ?_
          · show ixN (wInts xs).length ((j : Nat) : Int) = some j
            unfold ixN
            rw [if_pos (by simp)]
            simp
            exact hj
          rw [mu_setEnd]
          walk_at "xs"
          have e3 : (wInts xs).set j (W.d (.int (M72.g xs j + 1))) = wInts (xs.set j (M72.g xs j + 1)) := by simp [List.map_set]
          rw [e3]
          refine fz_potI hp8 (q _ _ (fun z => ?_) (by simp; omega) (fun x hx => ?_) (hp8.le (by simp; omega)))
          · have := congrArg List.length z
            simp at this
            rw [this] at hj
            simp at hj
          · rcases List.mem_or_eq_of_mem_set hx with hx | hx
            · exact Nat.le_trans (xb x hx) (by omega)
            · subst hx
              have := xb _ (M72.g_mem hj)
              omega
        · walk_at "xs"
          exact fz_potI hp' (q _ _ (fun z => by rw [z] at xl; simp at xl; omega) (by omega) (fun x hx => Nat.le_trans (xb x hx) (by omega)) (hp'.le (by omega)))
theorem rd__law_run {K : PySem.W.Frag} : ∀ ws μ R, F__law_run ws μ R → AS K (t__law_run K) { nx := fun _ μ' => R (.d .none) μ', rt := R } (stG n__law_run ws) μ := by
  rintro ws μ R ⟨xs, rfl, hx, hl, q⟩
  show AS K _ _ [some (.d (dInts xs)), none, none] μ
  unfold t__law_run
  have h0 : 0 < xs.length := List.length_pos_iff.mpr hx
  have ex : (wInts xs).length = xs.length := by simp
  have tail : ¬ Stp xs → AS K (tSeq (tFor (iRng2 (tCons (tC (.int 1)) (tCons (tOp (rAddU K) (tCB (rLenU K) (tCons (tVar 0) tNil)) (tC (.int 1))) tNil))) (gName 1) (tIfS (tTru K (tCB (rAll K) (tCons (tLc (iRng1 (tCons (tCB (rLenU K) (tCons (tVar 0) tNil)) tNil)) (gName 2) tYes (tOp (rEqU K) (tOp (rIx K) (tVar 0) (tVar 2)) (tOp (rIx K) (tVar 0) (tOp rModI (tCB (rIntU) (tCons (tVar 2) tNil)) (tVar 1)))) [2]) tNil))) (tRet (tTup (tCons (tC (.str "round")) (tCons (tSl (rSlU K) (tVar 0) tNoPart (tPart (tVar 1))) tNil)))) tNext))
      (tRet (tC .non))) { nx := fun _ μ' => R (.d .none) μ', rt := R } [some (.d (dInts xs)), none, none] μ := fun hs => by
    refine as_seq ?_
    refine as_for (fun (i : Nat) => W.d (.int (1 + i))) (List.range xs.length) (fun pre Γ' μ' => ∃ z, Γ' = [some (.d (dInts xs)), z, none] ∧ μ' = μ ∧ ∀ t, 1 ≤ t → t ≤ pre.length → ¬ Rnd xs t) (ai_rng2 ?_) ?_ ?_
    · walk_at "xs"
      rw [ex]
      refine ⟨_, _, rfl, ⟨by omega, by omega, by omega, by omega⟩, ?_, fun _ _ _ _ => trivial, none, rfl, rfl, fun t a b => by have : t ≤ 0 := b; omega⟩
      rw [show ((xs.length : Int) + 1 - 1).toNat = xs.length by omega]
    · rintro pre s post Γ' μ' e ⟨z, rfl, rfl, hn⟩
      obtain ⟨e1, e2⟩ := rng_split e
      walk_at "x"
      refine as_if (at_truB ?_)
      refine ax_allP (fun (i : Nat) => W.d (.int (0 + i))) (List.range xs.length) (fun i => decide (M72.g xs i = M72.g xs (i % (s + 1)))) (sz_ok (by simp; omega)) (wk_name (by decide)) (ai_rng1 ?_) ?_ ?_
      · walk_at "xs"
        rw [ex]
        exact ⟨by omega, rfl, trivial, rfl⟩
      · intro i hi
        have hi := List.mem_range.mp hi
        show AG K _ _ [some (.d (dInts xs)), some (.d (.int (1 + s))), none] _ _
        walk_at "xs"
        rw [show (0 + (i : Int)) = (i : Int) by omega]
        refine o_ixL (lw_ints _ _) (atI_g hi) ?_
        walk_at "xs"
        refine o_modI (by omega) ?_
        have e3 : (i : Int) % (1 + (s : Int)) = ((i % (s + 1) : Nat) : Int) := by
          rw [show (1 + (s : Int)) = ((s + 1 : Nat) : Int) by omega]
          rfl
        rw [e3]
        have hi2 : i % (s + 1) < xs.length := by
          have := Nat.mod_lt i (show s + 1 > 0 by omega)
          omega
        refine o_ixL (lw_ints _ _) (atI_g hi2) ?_
        walk_at "xs"
        exact rfl
      · refine ⟨_, rfl, ?_⟩
        have hall : (List.range xs.length).all (fun i => decide (M72.g xs i = M72.g xs (i % (s + 1)))) = true ↔ Rnd xs (s + 1) := by
          rw [List.all_eq_true]
          exact ⟨fun h i hi => of_decide_eq_true (h i (List.mem_range.mpr hi)), fun h i hi => decide_eq_true (h i (List.mem_range.mp hi))⟩
        refine ite_b (fun h => ?_) (fun h => ?_)
        · have hr := hall.mp h
          walk_at "xs"
          refine o_slL (lw_ints _ _) ?_
          rw [show (1 + (s : Int)) = ((s + 1 : Nat) : Int) by omega, cut_to]
          walk_at "d"
          walk_at "xs"
          walk_at "d"
          exact q (.round (xs.take (s + 1))) (.inr ⟨hs, s + 1, by omega, by omega, hr, fun t a b => hn t a (by omega), rfl⟩)
        · refine as_next ⟨_, rfl, rfl, fun t a b => ?_⟩
          by_cases et : t = s + 1
          · rw [et]
            intro z
            rw [hall.mpr z] at h
            cases h
          · simp at b
            exact hn t a (by omega)
    · rintro Γ' μ' ⟨z, rfl, rfl, hn⟩
      rw [List.length_range] at hn
      exact absurd (M72.rnd_len xs) (hn _ h0 (Nat.le_refl _))
  walk_at "xs"
  rw [ex]
  refine ite_b (fun h => ?_) (fun h => ?_)
  · have h1 : 1 < xs.length := by
      have := of_decide_eq_true h
      omega
    refine at_truB ?_
    refine ax_allP (fun (i : Nat) => W.d (.int (0 + i))) (List.range (xs.length - 1)) (fun i => decide (M72.g xs (i + 1) - M72.g xs i = M72.g xs 1 - M72.g xs 0)) (sz_ok (by simp; omega)) (wk_name (by decide)) (ai_rng1 ?_) ?_ ?_
    · walk_at "xs"
      rw [ex]
      refine ⟨by omega, ?_, trivial, rfl⟩
      rw [show ((xs.length : Int) - 1).toNat = xs.length - 1 by omega]
    · intro i hi
      have hi := List.mem_range.mp hi
      show AG K _ _ [some (.d (dInts xs)), none, none] _ _
      walk_at "xs"
      rw [show (0 + (i : Int)) = (i : Int) by omega, show (i : Int) + 1 = ((i + 1 : Nat) : Int) by omega]
      refine o_ixL (lw_ints _ _) (atI_g (by omega)) ?_
      walk_at "xs"
      refine o_ixL (lw_ints _ _) (atI_g (by omega)) ?_
      walk_at "xs"
      refine o_ixL (lw_ints _ _) (atI_g (i := 1) (by omega)) ?_
      walk_at "xs"
      refine o_ixL (lw_ints _ _) (atI_g (i := 0) (by omega)) ?_
      walk_at "xs"
      exact rfl
    · refine ⟨_, rfl, ?_⟩
      have hall : (List.range (xs.length - 1)).all (fun i => decide (M72.g xs (i + 1) - M72.g xs i = M72.g xs 1 - M72.g xs 0)) = true ↔ Stp xs := by
        rw [List.all_eq_true]
        exact ⟨fun h => ⟨h1, fun i hi => of_decide_eq_true (h i (List.mem_range.mpr (by omega)))⟩, fun h i hi => decide_eq_true (h.2 i (by have := List.mem_range.mp hi; omega))⟩
      refine ite_b (fun h => ?_) (fun h => ?_)
      · have hs := hall.mp h
        walk_at "xs"
        refine o_ixL (lw_ints _ _) (atI_g (i := 0) (by omega)) ?_
        walk_at "xs"
        refine o_ixL (lw_ints _ _) (atI_g (i := 1) (by omega)) ?_
        walk_at "xs"
        refine o_ixL (lw_ints _ _) (atI_g (i := 0) (by omega)) ?_
        walk_at "xs"
        walk_at "d"
        exact q (.step (M72.g xs 0) (M72.g xs 1 - M72.g xs 0)) (.inl ⟨hs, rfl⟩)
      · refine as_next ?_
        exact tail fun z => by rw [hall.mpr z] at h; cases h
  · refine ite_f rfl ?_
    refine as_next ?_
    exact tail fun z => by
      have := of_decide_eq_false h
      have := z.1
      omega
theorem rd__law_value {K : PySem.W.Frag} (EF : ErrF K) : ∀ ws μ R, F__law_value ws μ R → AS K (t__law_value K) { nx := fun _ μ' => R (.d .none) μ', rt := R } (stG n__law_value ws) μ := by
  rintro ws μ R (⟨r, s, n, rfl, ho, hb, s1, n1, q⟩ | ⟨rfl, q⟩)
  · refine as_fz ?_
    show AS K _ _ [some (.d (.int 1)), some (.d (rdat r)), some (.d (.int s)), some (.d (.int n)), none, none] μ
    unfold t__law_value
    walk_at "xs"
    refine as_try fun xw => ?_
    dsimp only
    walk_at "xs"
    refine ite_f rfl ?_
    walk_at "xs"
    refine ⟨r, s, n, rfl, ho, s1, n1, fun h => ?_, fun h0 h => ?_, fun h0 h1 => by omega⟩
    · refine hX_no EF.s_InvalidNumber_InvalidRows (hX_yes EF.s_InvalidNumber_InvalidNumber fun a C d hc => ?_)
      dsimp only [List.set_cons_zero, List.set_cons_succ]
      walk_at "xs"
      refine ax_xvV EF.v_InvalidNumber hc rfl mu_end ?_
      walk_at "xs"
      walk_at "d"
      walk_at "xs"
      rw [if_pos h] at q
      exact Fz.same (.d _) q
    · refine hX_no EF.s_InvalidNumber_InvalidRows (hX_yes EF.s_InvalidNumber_InvalidNumber fun a C d hc => ?_)
      dsimp only [List.set_cons_zero, List.set_cons_succ]
      walk_at "xs"
      refine ax_xvV EF.v_InvalidNumber hc rfl mu_end ?_
      walk_at "xs"
      walk_at "d"
      walk_at "xs"
      rw [if_neg (by omega)] at q
      exact Fz.same (.d _) q
  · refine as_fz ?_
    show AS K _ _ [some (.d (.int 0)), some (.d .none), some (.d (.int 0)), some (.d (.int 0)), none, none] μ
    unfold t__law_value
    walk_at "xs"
    refine as_try fun xw => ?_
    dsimp only
    walk_at "xs"
    refine ite_t rfl ?_
    walk_at "xs"
    walk_at "d"
    walk_at "xs"
    refine ⟨[], rfl, by simp, fun _ => ?_, fun z => absurd rfl z⟩
    refine hX_yes EF.s_InvalidRows_InvalidRows fun a C d hc => ?_
    dsimp only [List.set_cons_zero, List.set_cons_succ]
    walk_at "xs"
    refine ax_xvV EF.v_InvalidRows hc rfl mu_end ?_
    walk_at "xs"
    walk_at "d"
    walk_at "xs"
    exact Fz.same (.d _) q
theorem sh_nv {v : Int} : SeqAt.shaped (.list [.str "number", .int v]) = true := by
  simp [SeqAt.shaped, PyData.canLay0, PyData.canLayAll0, PyData.depth, PyData.depthAll]
  decide +kernel
theorem sh_re : SeqAt.shaped (.list [.str "rows", .list []]) = true := by
  simp [SeqAt.shaped, PyData.canLay0, PyData.canLayAll0, PyData.depth, PyData.depthAll]
  decide +kernel
theorem shw_run {r : M72.Run} (hb : r.bnd) (ho : r.ok) : Shw (rdat r) := by
  cases r with
  | step a b =>
    obtain ⟨h1, h2⟩ := hb
    have h3 : 2 * M72.B < 10 ^ 50 := by decide
    refine shw_of ⟨?_, ?_, ?_, trivial⟩ (by show nd (.str "step") + (1 + (1 + 0)) + 1 ≤ 1000; decide) (by simp only [rdat, PyData.depth, PyData.depthAll]; omega)
    · show ∀ c ∈ ("step" : Str).cps.toList, c < 16 ^ 8
      decide
    · exact Nat.lt_of_le_of_lt h1 h3
    · exact Nat.lt_of_le_of_lt h2 h3
  | round ys =>
    have h3 : M72.B < 10 ^ 50 := by decide
    refine shw_of ⟨?_, bds_ints fun n hn => Nat.lt_of_le_of_lt (hb n hn) h3, trivial⟩ ?_ ?_
    · show ∀ c ∈ ("round" : Str).cps.toList, c < 16 ^ 8
      decide
    · show nd (.str "round") + (nds (ys.map PyData.int) + 1 + 0) + 1 ≤ 1000
      rw [nds_ints]
      have := ho.2
      have e : nd (.str "round") = 6 := by decide
      omega
    · have := Pd.depthAll_ints ys
      simp only [rdat, dInts, PyData.depth, PyData.depthAll]
      omega
theorem rd__law_right {K : PySem.W.Frag} : ∀ ws μ R, F__law_right ws μ R → AS K (t__law_right K) { nx := fun _ μ' => R (.d .none) μ', rt := R } (stG n__law_right ws) μ := by
  rintro ws μ R ⟨k, p, rfl, hk, hp, q⟩
  show AS K _ _ [some (.m k), none, none, none, none, none, none, none, none, none, none] μ
  unfold t__law_right
  walk_at "xs"
  refine as_for (fun (i : Nat) => W.d (.int (0 + i))) (List.range 3) (fun pre Γ' μ' => ∃ p' z1 z2 z3 z4 z5 z6 z7 z8 z9, Γ' = [some (.m k), z1, z2, z3, z4, z5, z6, z7, z8, z9, none] ∧ μ' = μ.set k p' ∧ PotOk (100 * pre.length) p') (ai_rng1 ?_) ?_ ?_
  · walk_at "xs"
    exact ⟨by omega, rfl, fun _ _ _ _ => trivial, p, none, none, none, none, none, none, none, none, none, rfl, (set_self hk).symm, hp⟩
  · rintro pre x post Γ' μ' e ⟨p', z1, z2, z3, z4, z5, z6, z7, z8, z9, rfl, rfl, hp'⟩
    obtain ⟨e1, e2⟩ := rng_split e
    walk_at "xs"
    refine ⟨k, p', _, rfl, mu_set hk, hp', by omega, fun xs p1 hx hl hb hp1 => ?_⟩
    rw [mu_set2]
    have hsx : Shw (dInts xs) := shw_ints (fun n hn => Nat.lt_of_le_of_lt (hb n hn) (by decide)) (by omega)
    walk_at "xs"
    refine c_rep (.d _) hsx ?_
    walk_at "xs"
    refine ⟨xs, rfl, hx, by omega, fun r hr => ?_⟩
    have hrok := hr.ok (by omega)
    have hsr := shw_run (hr.bnd hb) hrok
    walk_at "xs"
    walk_at "d"
    walk_at "xs"
    refine ⟨xs, rfl, by omega, fun z => absurd z hx, fun _ r' hr' => ?_⟩
    obtain rfl := hr.uniq hr'
    clear hr'
    walk_at "xs"
    refine c_rep (.d _) hsr ?_
    walk_at "xs"
    refine c_rep (.d _) hsr ?_
    walk_at "xs"
    refine ite_f (by simp) ?_
    walk_at "xs"
    refine ⟨xs, rfl, by omega, fun z => absurd z hx, fun _ r' hr' => ?_⟩
    obtain rfl := hr.uniq hr'
    clear hr'
    walk_at "xs"
    refine c_rep (.d _) hsr ?_
    walk_at "xs"
    refine c_rep (.d _) hsr ?_
    walk_at "xs"
    refine ite_f (by simp) ?_
    walk_at "xs"
    refine c_rep (.d _) hsx ?_
    walk_at "xs"
    refine ite_f (by simp) ?_
    walk_at "xs"
    refine o_powI (ten_ok (by decide) (by decide)) ?_
    rw [p6]
    walk_at "xs"
    walk_at "dr"
    intro r1 p2 a1 b1 hp2
    rw [mu_set2]
    walk_at "xs"
    walk_at "d"
    walk_at "xs"
    walk_at "dr"
    intro r2 p3 a2 b2 hp3
    rw [mu_set2]
    obtain ⟨st, hst, st0, st1⟩ : ∃ st, atI (List.map W.d [PyData.int 0, .int ((wInts xs).length : Int), .int r1]) r2 = some (.d (.int st)) ∧ 0 ≤ st ∧ st ≤ 1000000 := by
      have : r2 = 0 ∨ r2 = 1 ∨ r2 = 2 := by omega
      rcases this with rfl | rfl | rfl
      · exact ⟨0, rfl, by decide, by decide⟩
      · exact ⟨_, rfl, by omega, by simp; omega⟩
      · exact ⟨_, rfl, by omega, by omega⟩
    refine o_ixL (.d _) hst ?_
    walk_at "xs"
    walk_at "dr"
    intro nu p4 a3 b3 hp4
    rw [mu_set2]
    walk_at "xs"
    walk_at "d"
    walk_at "xs"
    have hfs : Shw (dInts ((List.range nu.toNat).map fun (i : Nat) => r.at (st + i))) := shw_ints (fun n hn => by
      obtain ⟨i, hi, rfl⟩ := List.mem_map.mp hn
      have hi := List.mem_range.mp hi
      exact M72.at_bnd (hr.bnd hb) hrok (by omega)) (by simp; omega)
    refine ax_lcI (fun (i : Nat) => W.d (.int (0 + i))) (List.range nu.toNat) (fun (i : Nat) => r.at (st + i)) (sz_ok (by simp; omega)) (wk_name (by decide)) (ai_rng1 ?_) ?_ ?_
    · walk_at "xs"
      exact ⟨by omega, rfl, trivial, rfl⟩
    · intro i hi
      have hi := List.mem_range.mp hi
      show AG K _ _ [some (.m k), _, _, _, _, _, some (.d (.int st)), _, _, _, none] _ _
      walk_at "xs"
      refine ⟨r, _, rfl, hrok, by omega, by omega, ?_⟩
      rw [Int.zero_add]
      exact ⟨rfl, rfl⟩
    walk_at "d"
    walk_at "xs"
    refine c_rep (.d _) hfs ?_
    walk_at "xs"
    refine ⟨r, st, nu, rfl, hrok, by omega, by omega, fun z => by omega, fun _ z => by omega, fun _ _ => ?_⟩
    walk_at "xs"
    refine c_rep (.d _) hfs ?_
    walk_at "xs"
    refine ite_f (by simp) ?_
    walk_at "xs"
    refine ⟨r, st, nu, rfl, hrok, by omega, by omega, fun z => by omega, fun _ z => by omega, fun _ _ => ?_⟩
    walk_at "xs"
    refine c_rep (.d _) hfs ?_
    walk_at "xs"
    refine ite_f (by simp) ?_
    walk_at "xs"
    have ex : (wInts xs).length = xs.length := by simp
    rw [ex]
    refine ⟨r, 0, xs.length, rfl, hrok, by omega, by omega, fun z => by omega, fun _ z => by omega, fun _ _ => ?_⟩
    rw [show ((xs.length : Int)).toNat = xs.length from rfl, hr.all_eq]
    walk_at "xs"
    refine c_rep (.d _) hsx ?_
    walk_at "xs"
    refine ite_f (by simp) ?_
    walk_at "xs"
    walk_at "dr"
    intro r5 p5 a5 b5 hp5
    rw [mu_set2]
    walk_at "xs"
    refine .inl ⟨r, _, _, rfl, hrok, .inl (by omega), by omega, by omega, ?_⟩
    rw [if_pos (by omega)]
    walk_at "xs"
    walk_at "d"
    refine o_neD (.d _) (.d _) sh_nv sh_nv ?_
    rw [eqv_rs sh_nv]
    walk_at "xs"
    refine ite_f rfl ?_
    walk_at "xs"
    refine .inl ⟨r, _, _, rfl, hrok, .inr ⟨by omega, by omega⟩, by omega, by omega, ?_⟩
    rw [if_neg (by omega)]
    walk_at "xs"
    walk_at "d"
    refine o_neD (.d _) (.d _) sh_nv sh_nv ?_
    rw [eqv_rs sh_nv]
    walk_at "xs"
    refine ite_f rfl ?_
    walk_at "xs"
    exact ⟨p5, _, _, _, _, _, _, _, _, _, rfl, rfl, hp5.le (by simp; omega)⟩
  · rintro Γ' μ' ⟨p', z1, z2, z3, z4, z5, z6, z7, z8, z9, rfl, rfl, hp'⟩
    walk_at "xs"
    refine .inr ⟨rfl, ?_⟩
    walk_at "xs"
    walk_at "d"
    walk_at "xs"
    walk_at "d"
    refine o_eqD (.d _) (.d _) sh_re sh_re ?_
    rw [eqv_rs sh_re]
    exact q _ _ hp'
theorem rd_law {K : PySem.W.Frag} : ∀ ws μ R, F_law ws μ R → AS K (t_law K) { nx := fun _ μ' => R (.d .none) μ', rt := R } (stG n_law ws) μ := by
  rintro ws μ R ⟨ns, rfl, hns, q⟩
  refine as_fz ?_
  show AS K (t_law K) _ [some (.f (wInts ns)), none] μ
  unfold t_law
  walk_at "xs"
  refine as_for (fun (i : Nat) => W.d (.int (0 + i))) (List.range (max 1 (min 5 ((wInts ns).length : Int))).toNat) (fun pre Γ' μ' => ∃ cs z1, Γ' = [some (.f (wInts ns)), z1] ∧ μ' = μ ++ cs) (ai_rng1 ?_) ?_ ?_
  · walk_at "xs"
    exact ⟨by omega, rfl, fun _ _ _ _ => trivial, [], none, rfl, by simp⟩
  · rintro pre x post Γ' μ' e ⟨cs, z1, rfl, rfl⟩
    obtain ⟨ex, xl⟩ := rng_split e
    walk_at "xs"
    refine ⟨ns, _, rfl, by omega, by omega, fun p hp => ?_⟩
    walk_at "xs"
    refine ⟨_, p, rfl, mu_end, hp, fun n p' hp' => ?_⟩
    refine ⟨_, rfl, ?_⟩
    refine ite_f rfl ?_
    refine as_next ?_
    refine ⟨cs ++ [p'], _, rfl, ?_⟩
    rw [mu_setEnd, List.append_assoc]
  · rintro Γ' μ' ⟨cs, z1, rfl, rfl⟩
    walk_at "xs"
    exact Fz.same (.d _) q
end Lw

namespace Lw
open PySem PySem.Spec PyProof.Rows L2 Pd
theorem len_need_least {ws : List W} {μ : Mu} {R : W → Mu → Prop} {S : Str → W → Mu → Prop} (h : F_need_least ws μ R S) : ws.length = p_need_least.length := by
  unfold F_need_least at h
  first
    | (repeat' (rcases h with ⟨x, h⟩)) ; subst_vars ; rfl ; done
    | (rcases h with h | h <;> (repeat' (rcases h with ⟨x, h⟩)) <;> subst_vars <;> rfl ; done)
    | (rcases h with h | h | h <;> (repeat' (rcases h with ⟨x, h⟩)) <;> subst_vars <;> rfl ; done)
    | exact lenx_need_least h
theorem len_is_round {ws : List W} {μ : Mu} {R : W → Mu → Prop} (h : F_is_round ws μ R) : ws.length = p_is_round.length := by
  unfold F_is_round at h
  first
    | (repeat' (rcases h with ⟨x, h⟩)) ; subst_vars ; rfl ; done
    | (rcases h with h | h <;> (repeat' (rcases h with ⟨x, h⟩)) <;> subst_vars <;> rfl ; done)
    | (rcases h with h | h | h <;> (repeat' (rcases h with ⟨x, h⟩)) <;> subst_vars <;> rfl ; done)
    | exact lenx_is_round h
theorem len_run_in {ws : List W} {μ : Mu} {R : W → Mu → Prop} (h : F_run_in ws μ R) : ws.length = p_run_in.length := by
  unfold F_run_in at h
  first
    | (repeat' (rcases h with ⟨x, h⟩)) ; subst_vars ; rfl ; done
    | (rcases h with h | h <;> (repeat' (rcases h with ⟨x, h⟩)) <;> subst_vars <;> rfl ; done)
    | (rcases h with h | h | h <;> (repeat' (rcases h with ⟨x, h⟩)) <;> subst_vars <;> rfl ; done)
    | exact lenx_run_in h
theorem len_run_of {ws : List W} {μ : Mu} {R : W → Mu → Prop} {S : Str → W → Mu → Prop} (h : F_run_of ws μ R S) : ws.length = p_run_of.length := by
  unfold F_run_of at h
  first
    | (repeat' (rcases h with ⟨x, h⟩)) ; subst_vars ; rfl ; done
    | (rcases h with h | h <;> (repeat' (rcases h with ⟨x, h⟩)) <;> subst_vars <;> rfl ; done)
    | (rcases h with h | h | h <;> (repeat' (rcases h with ⟨x, h⟩)) <;> subst_vars <;> rfl ; done)
    | exact lenx_run_of h
theorem len_cell_of {ws : List W} {μ : Mu} {R : W → Mu → Prop} (h : F_cell_of ws μ R) : ws.length = p_cell_of.length := by
  unfold F_cell_of at h
  first
    | (repeat' (rcases h with ⟨x, h⟩)) ; subst_vars ; rfl ; done
    | (rcases h with h | h <;> (repeat' (rcases h with ⟨x, h⟩)) <;> subst_vars <;> rfl ; done)
    | (rcases h with h | h | h <;> (repeat' (rcases h with ⟨x, h⟩)) <;> subst_vars <;> rfl ; done)
    | exact lenx_cell_of h
theorem len_gone_on {ws : List W} {μ : Mu} {R : W → Mu → Prop} {S : Str → W → Mu → Prop} (h : F_gone_on ws μ R S) : ws.length = p_gone_on.length := by
  unfold F_gone_on at h
  first
    | (repeat' (rcases h with ⟨x, h⟩)) ; subst_vars ; rfl ; done
    | (rcases h with h | h <;> (repeat' (rcases h with ⟨x, h⟩)) <;> subst_vars <;> rfl ; done)
    | (rcases h with h | h | h <;> (repeat' (rcases h with ⟨x, h⟩)) <;> subst_vars <;> rfl ; done)
    | exact lenx_gone_on h
theorem len__law_pot {ws : List W} {μ : Mu} {R : W → Mu → Prop} (h : F__law_pot ws μ R) : ws.length = p__law_pot.length := by
  unfold F__law_pot at h
  first
    | (repeat' (rcases h with ⟨x, h⟩)) ; subst_vars ; rfl ; done
    | (rcases h with h | h <;> (repeat' (rcases h with ⟨x, h⟩)) <;> subst_vars <;> rfl ; done)
    | (rcases h with h | h | h <;> (repeat' (rcases h with ⟨x, h⟩)) <;> subst_vars <;> rfl ; done)
    | exact lenx__law_pot h
theorem len__law_draw {ws : List W} {μ : Mu} {R : W → Mu → Prop} (h : F__law_draw ws μ R) : ws.length = p__law_draw.length := by
  unfold F__law_draw at h
  first
    | (repeat' (rcases h with ⟨x, h⟩)) ; subst_vars ; rfl ; done
    | (rcases h with h | h <;> (repeat' (rcases h with ⟨x, h⟩)) <;> subst_vars <;> rfl ; done)
    | (rcases h with h | h | h <;> (repeat' (rcases h with ⟨x, h⟩)) <;> subst_vars <;> rfl ; done)
    | exact lenx__law_draw h
theorem len__law_cells {ws : List W} {μ : Mu} {R : W → Mu → Prop} (h : F__law_cells ws μ R) : ws.length = p__law_cells.length := by
  unfold F__law_cells at h
  first
    | (repeat' (rcases h with ⟨x, h⟩)) ; subst_vars ; rfl ; done
    | (rcases h with h | h <;> (repeat' (rcases h with ⟨x, h⟩)) <;> subst_vars <;> rfl ; done)
    | (rcases h with h | h | h <;> (repeat' (rcases h with ⟨x, h⟩)) <;> subst_vars <;> rfl ; done)
    | exact lenx__law_cells h
theorem len__law_run {ws : List W} {μ : Mu} {R : W → Mu → Prop} (h : F__law_run ws μ R) : ws.length = p__law_run.length := by
  unfold F__law_run at h
  first
    | (repeat' (rcases h with ⟨x, h⟩)) ; subst_vars ; rfl ; done
    | (rcases h with h | h <;> (repeat' (rcases h with ⟨x, h⟩)) <;> subst_vars <;> rfl ; done)
    | (rcases h with h | h | h <;> (repeat' (rcases h with ⟨x, h⟩)) <;> subst_vars <;> rfl ; done)
    | exact lenx__law_run h
theorem len__law_at {ws : List W} {μ : Mu} {R : W → Mu → Prop} (h : F__law_at ws μ R) : ws.length = p__law_at.length := by
  unfold F__law_at at h
  first
    | (repeat' (rcases h with ⟨x, h⟩)) ; subst_vars ; rfl ; done
    | (rcases h with h | h <;> (repeat' (rcases h with ⟨x, h⟩)) <;> subst_vars <;> rfl ; done)
    | (rcases h with h | h | h <;> (repeat' (rcases h with ⟨x, h⟩)) <;> subst_vars <;> rfl ; done)
    | exact lenx__law_at h
theorem len__law_value {ws : List W} {μ : Mu} {R : W → Mu → Prop} (h : F__law_value ws μ R) : ws.length = p__law_value.length := by
  unfold F__law_value at h
  first
    | (repeat' (rcases h with ⟨x, h⟩)) ; subst_vars ; rfl ; done
    | (rcases h with h | h <;> (repeat' (rcases h with ⟨x, h⟩)) <;> subst_vars <;> rfl ; done)
    | (rcases h with h | h | h <;> (repeat' (rcases h with ⟨x, h⟩)) <;> subst_vars <;> rfl ; done)
    | exact lenx__law_value h
theorem len__law_right {ws : List W} {μ : Mu} {R : W → Mu → Prop} (h : F__law_right ws μ R) : ws.length = p__law_right.length := by
  unfold F__law_right at h
  first
    | (repeat' (rcases h with ⟨x, h⟩)) ; subst_vars ; rfl ; done
    | (rcases h with h | h <;> (repeat' (rcases h with ⟨x, h⟩)) <;> subst_vars <;> rfl ; done)
    | (rcases h with h | h | h <;> (repeat' (rcases h with ⟨x, h⟩)) <;> subst_vars <;> rfl ; done)
    | exact lenx__law_right h
theorem len_law {ws : List W} {μ : Mu} {R : W → Mu → Prop} (h : F_law ws μ R) : ws.length = p_law.length := by
  unfold F_law at h
  first
    | (repeat' (rcases h with ⟨x, h⟩)) ; subst_vars ; rfl ; done
    | (rcases h with h | h <;> (repeat' (rcases h with ⟨x, h⟩)) <;> subst_vars <;> rfl ; done)
    | (rcases h with h | h | h <;> (repeat' (rcases h with ⟨x, h⟩)) <;> subst_vars <;> rfl ; done)
    | exact lenx_law h
structure Txt (P : Program) (K : PySem.W.Frag) (mg : Str → Option Value) where
  a_need_least : Addr
  d_need_least : FuncData
  u_need_least : Fun K "need_least" "need_least" s_need_least a_need_least d_need_least
  m_need_least : mg "need_least" = some (.ref a_need_least)
  a_is_round : Addr
  d_is_round : FuncData
  u_is_round : Fun K "is_round" "is_round" s_is_round a_is_round d_is_round
  m_is_round : mg "is_round" = some (.ref a_is_round)
  a_run_in : Addr
  d_run_in : FuncData
  u_run_in : Fun K "run_in" "run_in" s_run_in a_run_in d_run_in
  m_run_in : mg "run_in" = some (.ref a_run_in)
  a_run_of : Addr
  d_run_of : FuncData
  u_run_of : Fun K "run_of" "run_of" s_run_of a_run_of d_run_of
  m_run_of : mg "run_of" = some (.ref a_run_of)
  a_cell_of : Addr
  d_cell_of : FuncData
  u_cell_of : Fun K "cell_of" "cell_of" s_cell_of a_cell_of d_cell_of
  m_cell_of : mg "cell_of" = some (.ref a_cell_of)
  a_gone_on : Addr
  d_gone_on : FuncData
  u_gone_on : Fun K "gone_on" "gone_on" s_gone_on a_gone_on d_gone_on
  m_gone_on : mg "gone_on" = some (.ref a_gone_on)
  a__law_pot : Addr
  d__law_pot : FuncData
  u__law_pot : Fun K "_law_pot" "_law_pot" s__law_pot a__law_pot d__law_pot
  m__law_pot : mg "_law_pot" = some (.ref a__law_pot)
  a__law_draw : Addr
  d__law_draw : FuncData
  u__law_draw : Fun K "_law_draw" "_law_draw" s__law_draw a__law_draw d__law_draw
  m__law_draw : mg "_law_draw" = some (.ref a__law_draw)
  a__law_cells : Addr
  d__law_cells : FuncData
  u__law_cells : Fun K "_law_cells" "_law_cells" s__law_cells a__law_cells d__law_cells
  m__law_cells : mg "_law_cells" = some (.ref a__law_cells)
  a__law_run : Addr
  d__law_run : FuncData
  u__law_run : Fun K "_law_run" "_law_run" s__law_run a__law_run d__law_run
  m__law_run : mg "_law_run" = some (.ref a__law_run)
  a__law_at : Addr
  d__law_at : FuncData
  u__law_at : Fun K "_law_at" "_law_at" s__law_at a__law_at d__law_at
  m__law_at : mg "_law_at" = some (.ref a__law_at)
  a__law_value : Addr
  d__law_value : FuncData
  u__law_value : Fun K "_law_value" "_law_value" s__law_value a__law_value d__law_value
  m__law_value : mg "_law_value" = some (.ref a__law_value)
  a__law_right : Addr
  d__law_right : FuncData
  u__law_right : Fun K "_law_right" "_law_right" s__law_right a__law_right d__law_right
  m__law_right : mg "_law_right" = some (.ref a__law_right)
  a_law : Addr
  d_law : FuncData
  u_law : Fun K "law" "law" s_law a_law d_law
  m_law : mg "law" = some (.ref a_law)
  n_all : mg "all" = none
  n_enumerate : mg "enumerate" = none
  n_int : mg "int" = none
  n_len : mg "len" = none
  n_list : mg "list" = none
  n_max : mg "max" = none
  n_min : mg "min" = none
  n_range : mg "range" = none
  n_repr : mg "repr" = none
  n_zip : mg "zip" = none
  e_InvalidNumber : IsErr P K mg "InvalidNumber"
  e_InvalidRows : IsErr P K mg "InvalidRows"
  c_ROUND : Cst mg "ROUND" (.str "round")
  c_STEP : Cst mg "STEP" (.str "step")
  EF : ErrF K
section
variable {P : Program} {w : World} {K : PySem.W.Frag} {mg : Str → Option Value} {base : Heap}
theorem g_need_least (T : Txt P K mg) : FnG P w K mg base (L2.CX P w) 1 T.a_need_least T.d_need_least p_need_least (spX K F_need_least) :=
  fnG_okX T.u_need_least sc_need_least (fun ws μ R S h => len_need_least h) (fun cdv A outer s H E hr hgd => ⟨t_need_least K fun c d _ H => E c d H, dv_need_least (hr := hr) (hgd := hgd) (e_InvalidNumber := T.e_InvalidNumber), (rd_need_least E)⟩)
theorem h_need_least (T : Txt P K mg) : HasG P w K mg base (L2.CX P w) "need_least" p_need_least 1 (spX K F_need_least) := hasg_of T.u_need_least T.m_need_least (g_need_least T) fun _ _ _ _ _ _ us hl => match us, hl with | [_, _], _ => rfl
theorem g_is_round (T : Txt P K mg) : FnG P w K mg base CX0 1 T.a_is_round T.d_is_round p_is_round (spD K F_is_round) :=
  fnG_ok T.u_is_round sc_is_round (fun ws μ R h => len_is_round h) (fun cdv A outer s H E hr hgd => ⟨t_is_round K, dv_is_round (hr := hr) (hgd := hgd) (n_all := T.n_all) (n_enumerate := T.n_enumerate), rd_is_round⟩)
theorem h_is_round (T : Txt P K mg) : HasG P w K mg base CX0 "is_round" p_is_round 1 (spD K F_is_round) := hasg_of T.u_is_round T.m_is_round (g_is_round T) fun _ _ _ _ _ _ us hl => match us, hl with | [_, _], _ => rfl
theorem g_run_in (T : Txt P K mg) : FnG P w K mg base CX0 2 T.a_run_in T.d_run_in p_run_in (spD K F_run_in) :=
  fnG_ok T.u_run_in sc_run_in (fun ws μ R h => len_run_in h) (fun cdv A outer s H E hr hgd => ⟨t_run_in K, dv_run_in (hr := hr) (hgd := hgd) (h_is_round := h_is_round T) (n_len := T.n_len) (n_list := T.n_list) (n_zip := T.n_zip) (m_ROUND := T.c_ROUND) (m_STEP := T.c_STEP), rd_run_in⟩)
theorem h_run_in (T : Txt P K mg) : HasG P w K mg base CX0 "run_in" p_run_in 2 (spD K F_run_in) := hasg_of T.u_run_in T.m_run_in (g_run_in T) fun _ _ _ _ _ _ us hl => match us, hl with | [_], _ => rfl
theorem g_run_of (T : Txt P K mg) : FnG P w K mg base (L2.CX P w) 3 T.a_run_of T.d_run_of p_run_of (spX K F_run_of) :=
  fnG_okX T.u_run_of sc_run_of (fun ws μ R S h => len_run_of h) (fun cdv A outer s H E hr hgd => ⟨t_run_of K fun c d _ H => E c d H, dv_run_of (hr := hr) (hgd := hgd) (h_run_in := h_run_in T) (e_InvalidRows := T.e_InvalidRows), (rd_run_of E)⟩)
theorem h_run_of (T : Txt P K mg) : HasG P w K mg base (L2.CX P w) "run_of" p_run_of 3 (spX K F_run_of) := hasg_of T.u_run_of T.m_run_of (g_run_of T) fun _ _ _ _ _ _ us hl => match us, hl with | [_], _ => rfl
theorem hk_run_of_0 (T : Txt P K mg) : HasGK P w K mg base (L2.CX P w) "run_of" p_run_of 3 (spX K F_run_of) 0 ["cells"] [0] := hasgk_of T.u_run_of T.m_run_of (g_run_of T) 0 ["cells"] [0] fun _ _ _ _ _ _ us ws h1 h2 => match us, ws, h1, h2 with | [], [_], _, _ => rfl
theorem g_cell_of (T : Txt P K mg) : FnG P w K mg base CX0 1 T.a_cell_of T.d_cell_of p_cell_of (spD K F_cell_of) :=
  fnG_ok T.u_cell_of sc_cell_of (fun ws μ R h => len_cell_of h) (fun cdv A outer s H E hr hgd => ⟨t_cell_of K, dv_cell_of (hr := hr) (hgd := hgd) (n_len := T.n_len) (m_STEP := T.c_STEP), rd_cell_of⟩)
theorem h_cell_of (T : Txt P K mg) : HasG P w K mg base CX0 "cell_of" p_cell_of 1 (spD K F_cell_of) := hasg_of T.u_cell_of T.m_cell_of (g_cell_of T) fun _ _ _ _ _ _ us hl => match us, hl with | [_, _], _ => rfl
theorem g_gone_on (T : Txt P K mg) : FnG P w K mg base (L2.CX P w) 2 T.a_gone_on T.d_gone_on p_gone_on (spX K F_gone_on) :=
  fnG_okX T.u_gone_on sc_gone_on (fun ws μ R S h => len_gone_on h) (fun cdv A outer s H E hr hgd => ⟨t_gone_on K fun c d _ H => E c d H, dv_gone_on (hr := hr) (hgd := hgd) (h_cell_of := h_cell_of T) (h_need_least := h_need_least T) (n_range := T.n_range), (rd_gone_on E)⟩)
theorem h_gone_on (T : Txt P K mg) : HasG P w K mg base (L2.CX P w) "gone_on" p_gone_on 2 (spX K F_gone_on) := hasg_of T.u_gone_on T.m_gone_on (g_gone_on T) fun _ _ _ _ _ _ us hl => match us, hl with | [_, _, _], _ => rfl
theorem hk_gone_on_0 (T : Txt P K mg) : HasGK P w K mg base (L2.CX P w) "gone_on" p_gone_on 2 (spX K F_gone_on) 0 ["number", "start", "run"] [2, 1, 0] := hasgk_of T.u_gone_on T.m_gone_on (g_gone_on T) 0 ["number", "start", "run"] [2, 1, 0] fun _ _ _ _ _ _ us ws h1 h2 => match us, ws, h1, h2 with | [], [_, _, _], _, _ => rfl
theorem g__law_pot (T : Txt P K mg) : FnG P w K mg base CX0 1 T.a__law_pot T.d__law_pot p__law_pot (spD K F__law_pot) :=
  fnG_ok T.u__law_pot sc__law_pot (fun ws μ R h => len__law_pot h) (fun cdv A outer s H E hr hgd => ⟨t__law_pot K, dv__law_pot (hr := hr) (hgd := hgd) (n_int := T.n_int) (n_len := T.n_len) (n_max := T.n_max), rd__law_pot⟩)
theorem h__law_pot (T : Txt P K mg) : HasG P w K mg base CX0 "_law_pot" p__law_pot 1 (spD K F__law_pot) := hasg_of T.u__law_pot T.m__law_pot (g__law_pot T) fun _ _ _ _ _ _ us hl => match us, hl with | [_, _], _ => rfl
theorem g__law_draw (T : Txt P K mg) : FnG P w K mg base CX0 1 T.a__law_draw T.d__law_draw p__law_draw (spD K F__law_draw) :=
  fnG_ok T.u__law_draw sc__law_draw (fun ws μ R h => len__law_draw h) (fun cdv A outer s H E hr hgd => ⟨t__law_draw K, dv__law_draw (hr := hr) (hgd := hgd) (n_int := T.n_int), rd__law_draw⟩)
theorem h__law_draw (T : Txt P K mg) : HasG P w K mg base CX0 "_law_draw" p__law_draw 1 (spD K F__law_draw) := hasg_of T.u__law_draw T.m__law_draw (g__law_draw T) fun _ _ _ _ _ _ us hl => match us, hl with | [_, _], _ => rfl
theorem g__law_cells (T : Txt P K mg) : FnG P w K mg base CX0 2 T.a__law_cells T.d__law_cells p__law_cells (spD K F__law_cells) :=
  fnG_ok T.u__law_cells sc__law_cells (fun ws μ R h => len__law_cells h) (fun cdv A outer s H E hr hgd => ⟨t__law_cells K, dv__law_cells (hr := hr) (hgd := hgd) (h__law_draw := h__law_draw T) (n_int := T.n_int) (n_len := T.n_len) (n_range := T.n_range), rd__law_cells⟩)
theorem h__law_cells (T : Txt P K mg) : HasG P w K mg base CX0 "_law_cells" p__law_cells 2 (spD K F__law_cells) := hasg_of T.u__law_cells T.m__law_cells (g__law_cells T) fun _ _ _ _ _ _ us hl => match us, hl with | [_], _ => rfl
theorem g__law_run (T : Txt P K mg) : FnG P w K mg base CX0 1 T.a__law_run T.d__law_run p__law_run (spD K F__law_run) :=
  fnG_ok T.u__law_run sc__law_run (fun ws μ R h => len__law_run h) (fun cdv A outer s H E hr hgd => ⟨t__law_run K, dv__law_run (hr := hr) (hgd := hgd) (n_all := T.n_all) (n_int := T.n_int) (n_len := T.n_len) (n_range := T.n_range), rd__law_run⟩)
theorem h__law_run (T : Txt P K mg) : HasG P w K mg base CX0 "_law_run" p__law_run 1 (spD K F__law_run) := hasg_of T.u__law_run T.m__law_run (g__law_run T) fun _ _ _ _ _ _ us hl => match us, hl with | [_], _ => rfl
theorem g__law_at (T : Txt P K mg) : FnG P w K mg base CX0 1 T.a__law_at T.d__law_at p__law_at (spD K F__law_at) :=
  fnG_ok T.u__law_at sc__law_at (fun ws μ R h => len__law_at h) (fun cdv A outer s H E hr hgd => ⟨t__law_at K, dv__law_at (hr := hr) (hgd := hgd) (n_int := T.n_int) (n_len := T.n_len), rd__law_at⟩)
theorem h__law_at (T : Txt P K mg) : HasG P w K mg base CX0 "_law_at" p__law_at 1 (spD K F__law_at) := hasg_of T.u__law_at T.m__law_at (g__law_at T) fun _ _ _ _ _ _ us hl => match us, hl with | [_, _], _ => rfl
theorem g__law_value (T : Txt P K mg) : FnG P w K mg base CX0 4 T.a__law_value T.d__law_value p__law_value (spD K F__law_value) :=
  fnG_ok T.u__law_value sc__law_value (fun ws μ R h => len__law_value h) (fun cdv A outer s H E hr hgd => ⟨t__law_value K, dv__law_value (hr := hr) (hgd := hgd) (h_gone_on := h_gone_on T) (h_run_of := h_run_of T) (e_InvalidNumber := T.e_InvalidNumber) (e_InvalidRows := T.e_InvalidRows), (rd__law_value T.EF)⟩)
theorem h__law_value (T : Txt P K mg) : HasG P w K mg base CX0 "_law_value" p__law_value 4 (spD K F__law_value) := hasg_of T.u__law_value T.m__law_value (g__law_value T) fun _ _ _ _ _ _ us hl => match us, hl with | [_, _, _, _], _ => rfl
theorem g__law_right (T : Txt P K mg) : FnG P w K mg base CX0 5 T.a__law_right T.d__law_right p__law_right (spD K F__law_right) :=
  fnG_ok T.u__law_right sc__law_right (fun ws μ R h => len__law_right h) (fun cdv A outer s H E hr hgd => ⟨t__law_right K, dv__law_right (hr := hr) (hgd := hgd) (h__law_at := h__law_at T) (h__law_cells := h__law_cells T) (h__law_draw := h__law_draw T) (h__law_run := h__law_run T) (h__law_value := h__law_value T) (h_gone_on := h_gone_on T) (hk_gone_on_0 := hk_gone_on_0 T) (h_run_of := h_run_of T) (hk_run_of_0 := hk_run_of_0 T) (n_len := T.n_len) (n_range := T.n_range) (n_repr := T.n_repr), rd__law_right⟩)
theorem h__law_right (T : Txt P K mg) : HasG P w K mg base CX0 "_law_right" p__law_right 5 (spD K F__law_right) := hasg_of T.u__law_right T.m__law_right (g__law_right T) fun _ _ _ _ _ _ us hl => match us, hl with | [_], _ => rfl
theorem g_law (T : Txt P K mg) : FnG P w K mg base CX0 6 T.a_law T.d_law p_law (spD K F_law) :=
  fnG_ok T.u_law sc_law (fun ws μ R h => len_law h) (fun cdv A outer s H E hr hgd => ⟨t_law K, dv_law (hr := hr) (hgd := hgd) (h__law_pot := h__law_pot T) (h__law_right := h__law_right T) (n_len := T.n_len) (n_max := T.n_max) (n_min := T.n_min) (n_range := T.n_range), rd_law⟩)
theorem h_law (T : Txt P K mg) : HasG P w K mg base CX0 "law" p_law 6 (spD K F_law) := hasg_of T.u_law T.m_law (g_law T) fun _ _ _ _ _ _ us hl => match us, hl with | [_], _ => rfl
end
theorem vw_triv (H : Hp) : vw (fun _ => False) [] [] H = H := by
  funext b
  unfold vw
  rw [if_neg]
  rintro (z | ⟨k, c, h, _⟩)
  · exact z
  · simp at h
theorem vrs_ints {K : PySem.W.Frag} {H : Hp} {M : List Addr} : ∀ ns : List Int, VRs K H M (ns.map V.int) (wInts ns)
  | [] => .nil
  | n :: ns => .cons (.d (.int n)) (vrs_ints ns)
theorem law_start {K : PySem.W.Frag} {H : Hp} {a : Addr} {ns : List Int} {E : XK} (hl : ns.length ≤ 63) (hS : SqL K H a (ns.map V.int)) : spD K F_law [.ref a] H (fun v _ => v = .bl true) E := by
  refine ⟨fun _ => False, [], [], [.f (wInts ns)], fun w _ => w = .d (.bool true), ⟨rfl, List.nodup_nil, (fun a m => absurd m (List.not_mem_nil)), (fun a m => absurd m (List.not_mem_nil)), (fun a m => False.elim m), (fun k a c h _ => absurd h (by simp))⟩, ?_, ⟨ns, rfl, hl, rfl⟩, fun M' H' v w μ' _ _ r hR => ?_⟩
  · rw [vw_triv]
    exact .cons (.f hS (vrs_ints ns)) .nil
  · subst hR
    exact vr_bool r
def qW (n : Nat) : Pos := match n with
  | 0 => ⟨5, 8, 5, 13⟩
  | 1 => ⟨5, 8, 5, 15⟩
  | 2 => ⟨5, 8, 5, 24⟩
  | 3 => ⟨5, 25, 5, 36⟩
  | 4 => ⟨5, 8, 5, 37⟩
  | 5 => ⟨5, 8, 5, 37⟩
  | 6 => ⟨6, 8, 6, 12⟩
  | 7 => ⟨6, 8, 6, 18⟩
  | 8 => ⟨6, 21, 6, 26⟩
  | _ => ⟨6, 8, 6, 26⟩
theorem hev_W (wd : Str) (i : Nat) (env : Env) : ∃ pl : Sem Bool, eval (.Call (.Attribute (.Call (.Name "super" (qW 0)) [] [] (qW 1)) "__init__" (qW 2)) [.Constant (.str wd) i (qW 3)] [] (qW 4)) env = (do
      let ov ← attributeBase (.Call (.Name "super" (qW 0)) [] [] (qW 1)) "__init__" env (eval (.Call (.Name "super" (qW 0)) [] [] (qW 1)) env)
      standAt (qW 2).atName
      let (f, first) ← holding [ov] (getMethod ov "__init__" pl)
      callWith (qW 4) f first (backTo (qW 4) (starEach [.Constant (.str wd) i (qW 3)] env)) []) := ⟨_, rfl⟩
theorem cla_eq {K : PySem.W.Frag} {x : Str} {C a : Addr} (e : PySem.W.nsIn K mainGlobals x = some (some (.ref C))) (h : clA K x a) : a = C := by
  have z := h.symm.trans e
  simpa using z
theorem clv_eq {K : PySem.W.Frag} {x : Str} {C : Addr} {c : Value} (e : PySem.W.nsIn K mainGlobals x = some (some (.ref C))) (h : ClV K x c) : c = .ref C := by
  rcases h with h | h
  · have z := h.symm.trans e
    simpa using z
  · have z := h.1.symm.trans e
    simp at z
theorem sub_is {K : PySem.W.Frag} {x y : Str} {C D : Addr} {b : Bool} (ex : PySem.W.nsIn K mainGlobals x = some (some (.ref C))) (ey : PySem.W.nsIn K mainGlobals y = some (some (.ref D))) (h1 : PySem.W.subIn K (.ref D) (.type "BaseException") = some true) (h2 : PySem.W.hasDictIn K D = true) (h3 : PySem.W.typeIn K (.ref D) = some (.type "type")) (h4 : PySem.W.subIn K (.ref C) (.ref D) = some b) : SubIs K x y b := fun a c ha hc => by
  rw [cla_eq ex ha, clv_eq ey hc]
  exact PySem.W.exm_ref h1 h2 h3 h4
theorem all_mk {P : Program} {w : World} {K : PySem.W.Frag} {h : Heap} {mg : Str → Option Value} {fa : Addr} (X : K.In h) (G : h.Ns mainGlobals mg) (hfa : mg "law" = some (.ref fa))
    {fI Db cda cc : Addr} {ocI kVI dcI pmI ctI cclI clI : Value} {odI anI cddI cldI : Option Addr} {oslI ccsI cslI : Array (Option Value)} {vsI : Array Value} {fileI : Str} {tfI : Tok} {wdI : Str} {ixI : Nat} {cdD : ClassData}
    {C0 : Addr} {nm0 q0 : Str} {N0 : Addr} {bs0 : List Value} {sn0 : List Str} {sb0 : List Value} {ab0 : Bool} {cl0 : Option Bool} {dd0 : Option Addr} {m00 m10 m20 m30 m50 : Option Value}
    {C1 : Addr} {nm1 q1 : Str} {N1 : Addr} {bs1 : List Value} {sn1 : List Str} {sb1 : List Value} {ab1 : Bool} {cl1 : Option Bool} {dd1 : Option Addr} {m01 m11 m21 m31 m51 : Option Value}
    {od0 an0 : Option Addr} {sl0 : Array (Option Value)} {f0 : Addr} {oc0 kV0 dc0 pm0 cd0 ct0 : Value}
    {od1 an1 : Option Addr} {sl1 : Array (Option Value)} {f1 : Addr} {oc1 kV1 dc1 pm1 cd1 ct1 : Value}
    {od2 an2 : Option Addr} {sl2 : Array (Option Value)} {f2 : Addr} {oc2 kV2 dc2 pm2 cd2 ct2 : Value}
    {od3 an3 : Option Addr} {sl3 : Array (Option Value)} {f3 : Addr} {oc3 kV3 dc3 pm3 cd3 ct3 : Value}
    {od4 an4 : Option Addr} {sl4 : Array (Option Value)} {f4 : Addr} {oc4 kV4 dc4 pm4 cd4 ct4 : Value}
    {od5 an5 : Option Addr} {sl5 : Array (Option Value)} {f5 : Addr} {oc5 kV5 dc5 pm5 cd5 ct5 : Value}
    {od6 an6 : Option Addr} {sl6 : Array (Option Value)} {f6 : Addr} {oc6 kV6 dc6 pm6 cd6 ct6 : Value}
    {od7 an7 : Option Addr} {sl7 : Array (Option Value)} {f7 : Addr} {oc7 kV7 dc7 pm7 cd7 ct7 : Value}
    {od8 an8 : Option Addr} {sl8 : Array (Option Value)} {f8 : Addr} {oc8 kV8 dc8 pm8 cd8 ct8 : Value}
    {od9 an9 : Option Addr} {sl9 : Array (Option Value)} {f9 : Addr} {oc9 kV9 dc9 pm9 cd9 ct9 : Value}
    {od10 an10 : Option Addr} {sl10 : Array (Option Value)} {f10 : Addr} {oc10 kV10 dc10 pm10 cd10 ct10 : Value}
    {od11 an11 : Option Addr} {sl11 : Array (Option Value)} {f11 : Addr} {oc11 kV11 dc11 pm11 cd11 ct11 : Value}
    {od12 an12 : Option Addr} {sl12 : Array (Option Value)} {f12 : Addr} {oc12 kV12 dc12 pm12 cd12 ct12 : Value}
    {od13 an13 : Option Addr} {sl13 : Array (Option Value)} {f13 : Addr} {oc13 kV13 dc13 pm13 cd13 ct13 : Value}
    {tk0 : Tok}
    {tk1 : Tok}
    (aB : PySem.W.nsIn K mainGlobals "WindowError" = some (some (.ref Db)))
    (iB : PySem.W.findIn K (.ref Db) "__init__" = some (some (.ref fI)))
    (lB : K.lookup fI = some ⟨ocI, odI, .func (PySem.W.ksFn "__init__" "WindowError.__init__" (PySem.OwnErr.eA ⟨4, 17, 4, 21⟩ ⟨4, 23, 4, 28⟩) (PySem.OwnErr.eB wdI ixI qW) PySem.OwnErr.eS .none kVI dcI pmI anI (.ref cda) ctI cc), oslI⟩)
    (cB : PySem.W.codeIn K (.ref cda) "WindowError.__init__" = true)
    (dB : K.lookup cda = some ⟨cclI, cddI, .fields vsI, ccsI⟩)
    (vB : vsI[2]? = some (.str fileI tfI))
    (fB : ((P.main.file : Str) == fileI) = true)
    (eB : K.lookup cc = some ⟨clI, cldI, .cell (some (.ref Db)), cslI⟩)
    (gB : PySem.W.clsIn K Db = some cdD)
    (tB : (P.main.scope.names.lookup ("super" : Str)).isSome = false)
    (yB : PySem.W.nsIn K cStatics "thirdparty.any" = some none)
    (zB : PySem.W.typeIn K (.ref fI) = some (.type "function"))
    (uB : PySem.W.nsIn K mainGlobals "super" = some none)
    (x0a : PySem.W.nsIn K mainGlobals "InvalidNumber" = some (some (.ref C0)))
    (x0l : K.lookup C0 = some (PySem.excClassObj nm0 q0 C0 N0 bs0 [.ref Db, .type "ValueError", .type "Exception", .type "BaseException", .type "object"] true sn0 sb0 ab0 cl0 dd0 m00 m10 m20 m30 m50 "ValueError.__new__"))
    (x0s : PySem.W.findIn K (.ref C0) "__setattr__" = some (some (.builtin "object.__setattr__")))
    (x0g : PySem.W.findIn K (.ref C0) "__getattribute__" = some (some (.builtin "BaseException.__getattribute__")))
    (x0h : PySem.W.findIn K (.ref C0) "__getattr__" = some none)
    (x0v : PySem.W.findIn K (.ref C0) "value" = some none)
    (x0i : PySem.W.findIn K (.ref C0) "__init__" = some (some (.ref fI)))
    (x0e : PySem.W.subIn K (.ref C0) (.type "BaseException") = some true)
    (x0t : PySem.W.typeIn K (.ref C0) = some (.type "type"))
    (x0k : PySem.W.keepIn K (.ref C0) = true)
    (x0d : PySem.W.hasDictIn K C0 = true)
    (x0b : PySem.W.mroIn K C0 (.ref Db) = some true)
    (x0u : PySem.W.ks_superIn K C0 Db "__init__" = some (some (.builtin "ValueError.__init__")))
    (x0w : PySem.W.subIn K (.ref C0) (.type "ValueError") = some true)
    (x1a : PySem.W.nsIn K mainGlobals "InvalidRows" = some (some (.ref C1)))
    (x1l : K.lookup C1 = some (PySem.excClassObj nm1 q1 C1 N1 bs1 [.ref Db, .type "ValueError", .type "Exception", .type "BaseException", .type "object"] true sn1 sb1 ab1 cl1 dd1 m01 m11 m21 m31 m51 "ValueError.__new__"))
    (x1s : PySem.W.findIn K (.ref C1) "__setattr__" = some (some (.builtin "object.__setattr__")))
    (x1g : PySem.W.findIn K (.ref C1) "__getattribute__" = some (some (.builtin "BaseException.__getattribute__")))
    (x1h : PySem.W.findIn K (.ref C1) "__getattr__" = some none)
    (x1v : PySem.W.findIn K (.ref C1) "value" = some none)
    (x1i : PySem.W.findIn K (.ref C1) "__init__" = some (some (.ref fI)))
    (x1e : PySem.W.subIn K (.ref C1) (.type "BaseException") = some true)
    (x1t : PySem.W.typeIn K (.ref C1) = some (.type "type"))
    (x1k : PySem.W.keepIn K (.ref C1) = true)
    (x1d : PySem.W.hasDictIn K C1 = true)
    (x1b : PySem.W.mroIn K C1 (.ref Db) = some true)
    (x1u : PySem.W.ks_superIn K C1 Db "__init__" = some (some (.builtin "ValueError.__init__")))
    (x1w : PySem.W.subIn K (.ref C1) (.type "ValueError") = some true)
    (y0_0 : PySem.W.subIn K (.ref C0) (.ref C0) = some true)
    (y0_1 : PySem.W.subIn K (.ref C0) (.ref C1) = some false)
    (y1_0 : PySem.W.subIn K (.ref C1) (.ref C0) = some false)
    (y1_1 : PySem.W.subIn K (.ref C1) (.ref C1) = some true)
    (a0 : PySem.W.nsIn K mainGlobals "need_least" = some (some (.ref f0))) (l0 : K.lookup f0 = some ⟨oc0, od0, .func (PySem.W.fnOf "need_least" "need_least" (defArgs s_need_least) (defBody s_need_least) (defScope s_need_least) .none kV0 dc0 pm0 an0 cd0 ct0), sl0⟩) (c0 : PySem.W.codeIn K cd0 "need_least" = true) (k0 : PySem.W.keepIn K (.ref f0) = true)
    (a1 : PySem.W.nsIn K mainGlobals "is_round" = some (some (.ref f1))) (l1 : K.lookup f1 = some ⟨oc1, od1, .func (PySem.W.fnOf "is_round" "is_round" (defArgs s_is_round) (defBody s_is_round) (defScope s_is_round) .none kV1 dc1 pm1 an1 cd1 ct1), sl1⟩) (c1 : PySem.W.codeIn K cd1 "is_round" = true) (k1 : PySem.W.keepIn K (.ref f1) = true)
    (a2 : PySem.W.nsIn K mainGlobals "run_in" = some (some (.ref f2))) (l2 : K.lookup f2 = some ⟨oc2, od2, .func (PySem.W.fnOf "run_in" "run_in" (defArgs s_run_in) (defBody s_run_in) (defScope s_run_in) .none kV2 dc2 pm2 an2 cd2 ct2), sl2⟩) (c2 : PySem.W.codeIn K cd2 "run_in" = true) (k2 : PySem.W.keepIn K (.ref f2) = true)
    (a3 : PySem.W.nsIn K mainGlobals "run_of" = some (some (.ref f3))) (l3 : K.lookup f3 = some ⟨oc3, od3, .func (PySem.W.fnOf "run_of" "run_of" (defArgs s_run_of) (defBody s_run_of) (defScope s_run_of) .none kV3 dc3 pm3 an3 cd3 ct3), sl3⟩) (c3 : PySem.W.codeIn K cd3 "run_of" = true) (k3 : PySem.W.keepIn K (.ref f3) = true)
    (a4 : PySem.W.nsIn K mainGlobals "cell_of" = some (some (.ref f4))) (l4 : K.lookup f4 = some ⟨oc4, od4, .func (PySem.W.fnOf "cell_of" "cell_of" (defArgs s_cell_of) (defBody s_cell_of) (defScope s_cell_of) .none kV4 dc4 pm4 an4 cd4 ct4), sl4⟩) (c4 : PySem.W.codeIn K cd4 "cell_of" = true) (k4 : PySem.W.keepIn K (.ref f4) = true)
    (a5 : PySem.W.nsIn K mainGlobals "gone_on" = some (some (.ref f5))) (l5 : K.lookup f5 = some ⟨oc5, od5, .func (PySem.W.fnOf "gone_on" "gone_on" (defArgs s_gone_on) (defBody s_gone_on) (defScope s_gone_on) .none kV5 dc5 pm5 an5 cd5 ct5), sl5⟩) (c5 : PySem.W.codeIn K cd5 "gone_on" = true) (k5 : PySem.W.keepIn K (.ref f5) = true)
    (a6 : PySem.W.nsIn K mainGlobals "_law_pot" = some (some (.ref f6))) (l6 : K.lookup f6 = some ⟨oc6, od6, .func (PySem.W.fnOf "_law_pot" "_law_pot" (defArgs s__law_pot) (defBody s__law_pot) (defScope s__law_pot) .none kV6 dc6 pm6 an6 cd6 ct6), sl6⟩) (c6 : PySem.W.codeIn K cd6 "_law_pot" = true) (k6 : PySem.W.keepIn K (.ref f6) = true)
    (a7 : PySem.W.nsIn K mainGlobals "_law_draw" = some (some (.ref f7))) (l7 : K.lookup f7 = some ⟨oc7, od7, .func (PySem.W.fnOf "_law_draw" "_law_draw" (defArgs s__law_draw) (defBody s__law_draw) (defScope s__law_draw) .none kV7 dc7 pm7 an7 cd7 ct7), sl7⟩) (c7 : PySem.W.codeIn K cd7 "_law_draw" = true) (k7 : PySem.W.keepIn K (.ref f7) = true)
    (a8 : PySem.W.nsIn K mainGlobals "_law_cells" = some (some (.ref f8))) (l8 : K.lookup f8 = some ⟨oc8, od8, .func (PySem.W.fnOf "_law_cells" "_law_cells" (defArgs s__law_cells) (defBody s__law_cells) (defScope s__law_cells) .none kV8 dc8 pm8 an8 cd8 ct8), sl8⟩) (c8 : PySem.W.codeIn K cd8 "_law_cells" = true) (k8 : PySem.W.keepIn K (.ref f8) = true)
    (a9 : PySem.W.nsIn K mainGlobals "_law_run" = some (some (.ref f9))) (l9 : K.lookup f9 = some ⟨oc9, od9, .func (PySem.W.fnOf "_law_run" "_law_run" (defArgs s__law_run) (defBody s__law_run) (defScope s__law_run) .none kV9 dc9 pm9 an9 cd9 ct9), sl9⟩) (c9 : PySem.W.codeIn K cd9 "_law_run" = true) (k9 : PySem.W.keepIn K (.ref f9) = true)
    (a10 : PySem.W.nsIn K mainGlobals "_law_at" = some (some (.ref f10))) (l10 : K.lookup f10 = some ⟨oc10, od10, .func (PySem.W.fnOf "_law_at" "_law_at" (defArgs s__law_at) (defBody s__law_at) (defScope s__law_at) .none kV10 dc10 pm10 an10 cd10 ct10), sl10⟩) (c10 : PySem.W.codeIn K cd10 "_law_at" = true) (k10 : PySem.W.keepIn K (.ref f10) = true)
    (a11 : PySem.W.nsIn K mainGlobals "_law_value" = some (some (.ref f11))) (l11 : K.lookup f11 = some ⟨oc11, od11, .func (PySem.W.fnOf "_law_value" "_law_value" (defArgs s__law_value) (defBody s__law_value) (defScope s__law_value) .none kV11 dc11 pm11 an11 cd11 ct11), sl11⟩) (c11 : PySem.W.codeIn K cd11 "_law_value" = true) (k11 : PySem.W.keepIn K (.ref f11) = true)
    (a12 : PySem.W.nsIn K mainGlobals "_law_right" = some (some (.ref f12))) (l12 : K.lookup f12 = some ⟨oc12, od12, .func (PySem.W.fnOf "_law_right" "_law_right" (defArgs s__law_right) (defBody s__law_right) (defScope s__law_right) .none kV12 dc12 pm12 an12 cd12 ct12), sl12⟩) (c12 : PySem.W.codeIn K cd12 "_law_right" = true) (k12 : PySem.W.keepIn K (.ref f12) = true)
    (a13 : PySem.W.nsIn K mainGlobals "law" = some (some (.ref f13))) (l13 : K.lookup f13 = some ⟨oc13, od13, .func (PySem.W.fnOf "law" "law" (defArgs s_law) (defBody s_law) (defScope s_law) .none kV13 dc13 pm13 an13 cd13 ct13), sl13⟩) (c13 : PySem.W.codeIn K cd13 "law" = true) (k13 : PySem.W.keepIn K (.ref f13) = true)
    (z0 : PySem.W.nsIn K mainGlobals "all" = some none)
    (z1 : PySem.W.nsIn K mainGlobals "enumerate" = some none)
    (z2 : PySem.W.nsIn K mainGlobals "int" = some none)
    (z3 : PySem.W.nsIn K mainGlobals "len" = some none)
    (z4 : PySem.W.nsIn K mainGlobals "list" = some none)
    (z5 : PySem.W.nsIn K mainGlobals "max" = some none)
    (z6 : PySem.W.nsIn K mainGlobals "min" = some none)
    (z7 : PySem.W.nsIn K mainGlobals "range" = some none)
    (z8 : PySem.W.nsIn K mainGlobals "repr" = some none)
    (z9 : PySem.W.nsIn K mainGlobals "zip" = some none)
    (w0 : PySem.W.nsIn K mainGlobals "ROUND" = some (some (.str "round" tk0)))
    (w1 : PySem.W.nsIn K mainGlobals "STEP" = some (some (.str "step" tk1))) :
    ∃ fd : FuncData, (∀ (s : Shared) (v : Value), BindsTo s fd ⟨[v], []⟩ [("script", v)]) ∧ ∀ base : Heap, K.In base → base.Ns mainGlobals mg → FnG P w K mg base CX0 6 fa fd ["script"] (spD K F_law) := by
  have e := hfa.symm.trans (PySem.W.mg_of X G a13)
  cases e
  have bse : PySem.OwnErr.Bse P K Db fI := ⟨⟨_, _, _, _, _, _, _, _, _, _, _, _, _, _, _, _, _, _, _, _, _, _, _, qW, lB, cB, dB, vB, fB, eB, hev_W _ _⟩, ⟨_, gB⟩, tB, yB, zB⟩
  have e0 : Err P K mg "InvalidNumber" C0 := ⟨⟨Db, fI, bse, ⟨⟨⟨_, _, _, _, _, _, _, _, _, _, _, _, _, _, _, x0l, rfl⟩, x0s, x0e, x0t, x0k⟩, ⟨x0g, x0h, x0e, x0d⟩, x0v, x0i, x0b, x0u, x0w⟩⟩, PySem.W.mg_of X G x0a, PySem.W.mg_none_of X G uB⟩
  have e1 : Err P K mg "InvalidRows" C1 := ⟨⟨Db, fI, bse, ⟨⟨⟨_, _, _, _, _, _, _, _, _, _, _, _, _, _, _, x1l, rfl⟩, x1s, x1e, x1t, x1k⟩, ⟨x1g, x1h, x1e, x1d⟩, x1v, x1i, x1b, x1u, x1w⟩⟩, PySem.W.mg_of X G x1a, PySem.W.mg_none_of X G uB⟩
  have EF : ErrF K := { s_InvalidNumber_InvalidNumber := sub_is x0a x0a x0e x0d x0t y0_0, s_InvalidNumber_InvalidRows := sub_is x0a x1a x1e x1d x1t y0_1, v_InvalidNumber := fun C' hC => by rw [cla_eq x0a hC]; exact ⟨⟨x0g, x0h, x0e, x0d⟩, x0v⟩, s_InvalidRows_InvalidNumber := sub_is x1a x0a x0e x0d x0t y1_0, s_InvalidRows_InvalidRows := sub_is x1a x1a x1e x1d x1t y1_1, v_InvalidRows := fun C' hC => by rw [cla_eq x1a hC]; exact ⟨⟨x1g, x1h, x1e, x1d⟩, x1v⟩ }
  let T : Txt P K mg := ⟨_, _, fun_mk (st := s_need_least) l0 c0 k0, PySem.W.mg_of X G a0, _, _, fun_mk (st := s_is_round) l1 c1 k1, PySem.W.mg_of X G a1, _, _, fun_mk (st := s_run_in) l2 c2 k2, PySem.W.mg_of X G a2, _, _, fun_mk (st := s_run_of) l3 c3 k3, PySem.W.mg_of X G a3, _, _, fun_mk (st := s_cell_of) l4 c4 k4, PySem.W.mg_of X G a4, _, _, fun_mk (st := s_gone_on) l5 c5 k5, PySem.W.mg_of X G a5, _, _, fun_mk (st := s__law_pot) l6 c6 k6, PySem.W.mg_of X G a6, _, _, fun_mk (st := s__law_draw) l7 c7 k7, PySem.W.mg_of X G a7, _, _, fun_mk (st := s__law_cells) l8 c8 k8, PySem.W.mg_of X G a8, _, _, fun_mk (st := s__law_run) l9 c9 k9, PySem.W.mg_of X G a9, _, _, fun_mk (st := s__law_at) l10 c10 k10, PySem.W.mg_of X G a10, _, _, fun_mk (st := s__law_value) l11 c11 k11, PySem.W.mg_of X G a11, _, _, fun_mk (st := s__law_right) l12 c12 k12, PySem.W.mg_of X G a12, _, _, fun_mk (st := s_law) l13 c13 k13, PySem.W.mg_of X G a13, PySem.W.mg_none_of X G z0, PySem.W.mg_none_of X G z1, PySem.W.mg_none_of X G z2, PySem.W.mg_none_of X G z3, PySem.W.mg_none_of X G z4, PySem.W.mg_none_of X G z5, PySem.W.mg_none_of X G z6, PySem.W.mg_none_of X G z7, PySem.W.mg_none_of X G z8, PySem.W.mg_none_of X G z9, ⟨_, x0a, e0⟩, ⟨_, x1a, e1⟩, ⟨_, PySem.W.mg_of X G w0, _, rfl⟩, ⟨_, PySem.W.mg_of X G w1, _, rfl⟩, EF⟩
  exact ⟨PySem.W.fnOf "law" "law" (defArgs s_law) (defBody s_law) (defScope s_law) .none kV13 dc13 pm13 an13 cd13 ct13, fun s v => .of_eq rfl, fun base _ _ => g_law T⟩
end Lw

open PySem PySem.W PyProof.Rows
set_option maxHeartbeats 0 in
set_option maxRecDepth 100000 in
theorem PySem.Challenge.cw_listworks_k72_runs_that_go_on_holds : PySem.Challenge.rw_listworks_k72_runs_that_go_on.Holds := by
  w_on; o_law; k_head; (case hw => w_witness2)
  k_fill
  refine Pd.walk_ofG (l := PySem.Challenge.rw_listworks_k72_runs_that_go_on) (n := 63) (k := 6) (x := "script") (CX := fun _ => L2.CX0) (sp := fun w => Pd.spD _ Lw.F_law) rfl (by decide) rfl ⟨rfl, by decide, by decide⟩ (fun w h Y => PySem.W.kIn_of Y) ?F (fun _ _ a ns hl _ hS => Lw.law_start hl hS) (fun _ _ _ _ _ h => h)
  case F =>
    intro w mg fa h KX G hmg
    refine' Lw.all_mk KX G hmg ?aB ?iB ?lB ?cB ?dB ?vB ?fB ?eB ?gB ?tB ?yB ?zB ?uB ?x0a ?x0l ?x0s ?x0g ?x0h ?x0v ?x0i ?x0e ?x0t ?x0k ?x0d ?x0b ?x0u ?x0w ?x1a ?x1l ?x1s ?x1g ?x1h ?x1v ?x1i ?x1e ?x1t ?x1k ?x1d ?x1b ?x1u ?x1w ?y0_0 ?y0_1 ?y1_0 ?y1_1 ?a0 ?l0 ?c0 ?k0 ?a1 ?l1 ?c1 ?k1 ?a2 ?l2 ?c2 ?k2 ?a3 ?l3 ?c3 ?k3 ?a4 ?l4 ?c4 ?k4 ?a5 ?l5 ?c5 ?k5 ?a6 ?l6 ?c6 ?k6 ?a7 ?l7 ?c7 ?k7 ?a8 ?l8 ?c8 ?k8 ?a9 ?l9 ?c9 ?k9 ?a10 ?l10 ?c10 ?k10 ?a11 ?l11 ?c11 ?k11 ?a12 ?l12 ?c12 ?k12 ?a13 ?l13 ?c13 ?k13 ?z0 ?z1 ?z2 ?z3 ?z4 ?z5 ?z6 ?z7 ?z8 ?z9 ?w0 ?w1
    (case aB => k_is); (case iB => k_is); (case lB => k_is); (case cB => k_is); (case dB => k_is); (case vB => rfl); (case fB => first | rfl | decide +kernel); (case eB => k_is); (case gB => k_is); (case tB => first | rfl | decide +kernel); (case yB => k_is); (case zB => k_is); (case uB => k_is); (case x0a => k_is); (case x0l => k_is); (case x0s => k_is); (case x0g => k_is); (case x0h => k_is); (case x0v => k_is); (case x0i => k_is); (case x0e => k_is); (case x0t => k_is); (case x0k => k_is); (case x0d => k_is); (case x0b => k_is); (case x0u => ks_is); (case x0w => k_is); (case x1a => k_is); (case x1l => k_is); (case x1s => k_is); (case x1g => k_is); (case x1h => k_is); (case x1v => k_is); (case x1i => k_is); (case x1e => k_is); (case x1t => k_is); (case x1k => k_is); (case x1d => k_is); (case x1b => k_is); (case x1u => ks_is); (case x1w => k_is); (case y0_0 => k_is); (case y0_1 => k_is); (case y1_0 => k_is); (case y1_1 => k_is); (case a0 => k_is); (case l0 => k_is); (case c0 => k_is); (case k0 => k_is); (case a1 => k_is); (case l1 => k_is); (case c1 => k_is); (case k1 => k_is); (case a2 => k_is); (case l2 => k_is); (case c2 => k_is); (case k2 => k_is); (case a3 => k_is); (case l3 => k_is); (case c3 => k_is); (case k3 => k_is); (case a4 => k_is); (case l4 => k_is); (case c4 => k_is); (case k4 => k_is); (case a5 => k_is); (case l5 => k_is); (case c5 => k_is); (case k5 => k_is); (case a6 => k_is); (case l6 => k_is); (case c6 => k_is); (case k6 => k_is); (case a7 => k_is); (case l7 => k_is); (case c7 => k_is); (case k7 => k_is); (case a8 => k_is); (case l8 => k_is); (case c8 => k_is); (case k8 => k_is); (case a9 => k_is); (case l9 => k_is); (case c9 => k_is); (case k9 => k_is); (case a10 => k_is); (case l10 => k_is); (case c10 => k_is); (case k10 => k_is); (case a11 => k_is); (case l11 => k_is); (case c11 => k_is); (case k11 => k_is); (case a12 => k_is); (case l12 => k_is); (case c12 => k_is); (case k12 => k_is); (case a13 => k_is); (case l13 => k_is); (case c13 => k_is); (case k13 => k_is); (case z0 => k_is); (case z1 => k_is); (case z2 => k_is); (case z3 => k_is); (case z4 => k_is); (case z5 => k_is); (case z6 => k_is); (case z7 => k_is); (case z8 => k_is); (case z9 => k_is); (case w0 => k_is); (case w1 => k_is)

