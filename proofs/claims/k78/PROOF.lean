import PyProof.Rows.All
import Wide.All
import OpenK.AllK
import Wide.FinOn
import HandS.ForMost
import HandS.Flow
import HandS.Style
import HandS.Wide
import HandS.Evl
import HandS.Defaults
import HandS.Exc
import HandS.WideBits
import HandS.IsInst
import HandS.ExcIs
import HandS.ExcInit
import HandS.ExcField
import HandS.TryMany
import HandS.WordsExc
import KE.KExcSuper
import KE.KSuper
import PyProof.ReprRoads
import PyProof.ReprLen
import PyProof.FitsInt
import HandS.TupAny
import KE.KRevSl
import HandS.Text
import HandS.StrMore
import HandS.Replace
import PyProof.StrOps2
import PySem.Challenge.RW_listworks_k78_words_that_are_spread
set_option Elab.async false
set_option linter.all false
set_option maxRecDepth 100000
set_option maxHeartbeats 8000000
/-! Pd: own layer. Values as plain data, lists that change as numbered cells; readings as wishes over (slots, cells), no heap in sight. -/
namespace Pd
open PySem L2
open Evl (Ex)

/-- a value: plain data; the k-th cell; a tuple that holds such -/
inductive W where
  | d (x : PyData)
  | m (k : Nat)
  | t (ws : List W)
  | f (ws : List W)
  | k (v : V)
/-- what a cell holds -/
inductive C where
  | lst (ws : List W)
  | xd (d : Addr) (w : W)
  /-- an error that the text calls x, its dict at d -/
  | er (x : PySem.Str) (d : Addr)
abbrev G := List (Option W)
abbrev Mu := List (Option C)

variable {K : PySem.W.Frag}
/-! plain data at an address: lists are tracked ones -/
mutual
inductive DQ (K : PySem.W.Frag) (H : Hp) : V → PyData → Prop
  | non : DQ K H .non .none
  | bl (b : Bool) : DQ K H (.bl b) (.bool b)
  | int (i : Int) : DQ K H (.int i) (.int i)
  | str (x : PySem.Str) : DQ K H (.str x) (.str x)
  | lst {a : Addr} {xs : List V} {ds : List PyData} : H a = some (.lst xs) → DQs K H xs ds → DQ K H (.ref a) (.list ds)
  | tup {a : Addr} {xs : List V} {ds : List PyData} : SqT K H a xs → DQs K H xs ds → DQ K H (.ref a) (.tuple ds)
inductive DQs (K : PySem.W.Frag) (H : Hp) : List V → List PyData → Prop
  | nil : DQs K H [] []
  | cons {v : V} {vs : List V} {d : PyData} {ds : List PyData} : DQ K H v d → DQs K H vs ds → DQs K H (v :: vs) (d :: ds)
end
mutual
theorem DQ.dp {H : Hp} : ∀ {v : V} {d : PyData}, DQ K H v d → Dp K H v d
  | _, _, .non => .non
  | _, _, .bl b => .bl b
  | _, _, .int i => .int i
  | _, _, .str x => .str x
  | _, _, .lst h1 h2 => .lst (SqL.of h1) (DQs.dp h2)
  | _, _, .tup h1 h2 => .tup h1 (DQs.dp h2)
theorem DQs.dp {H : Hp} : ∀ {vs : List V} {ds : List PyData}, DQs K H vs ds → DpAll K H vs ds
  | _, _, .nil => .nil
  | _, _, .cons h1 h2 => .cons (DQ.dp h1) (DQs.dp h2)
end
mutual
inductive VR (K : PySem.W.Frag) (H : Hp) (M : List Addr) : V → W → Prop
  | d {v : V} {x : PyData} : DQ K H v x → VR K H M v (.d x)
  | m {k : Nat} {a : Addr} : M[k]? = some a → VR K H M (.ref a) (.m k)
  | t {a : Addr} {vs : List V} {ws : List W} : SqT K H a vs → VRs K H M vs ws → VR K H M (.ref a) (.t ws)
  | f {a : Addr} {vs : List V} {ws : List W} : SqL K H a vs → VRs K H M vs ws → VR K H M (.ref a) (.f ws)
  | k (v : V) : VR K H M v (.k v)
inductive VRs (K : PySem.W.Frag) (H : Hp) (M : List Addr) : List V → List W → Prop
  | nil : VRs K H M [] []
  | cons {v : V} {w : W} {vs : List V} {ws : List W} : VR K H M v w → VRs K H M vs ws → VRs K H M (v :: vs) (w :: ws)
end
mutual
theorem dp_mono {H H' : Hp} (e : Ex H H') : ∀ {v : V} {d : PyData}, DQ K H v d → DQ K H' v d
  | _, _, .non => .non
  | _, _, .bl b => .bl b
  | _, _, .int i => .int i
  | _, _, .str x => .str x
  | _, _, .lst h1 h2 => .lst (e _ _ h1) (dpa_mono e h2)
  | _, _, .tup h1 h2 => .tup (Evl.ex_t e h1) (dpa_mono e h2)
theorem dpa_mono {H H' : Hp} (e : Ex H H') : ∀ {vs : List V} {ds : List PyData}, DQs K H vs ds → DQs K H' vs ds
  | _, _, .nil => .nil
  | _, _, .cons h1 h2 => .cons (dp_mono e h1) (dpa_mono e h2)
end
def Pre (M M' : List Addr) : Prop := ∀ (k : Nat) a, M[k]? = some a → M'[k]? = some a
theorem Pre.refl (M : List Addr) : Pre M M := fun _ _ h => h
theorem Pre.trans {M M' M'' : List Addr} (a : Pre M M') (b : Pre M' M'') : Pre M M'' := fun k x h => b k x (a k x h)
mutual
theorem VR.mono {H H' : Hp} {M M' : List Addr} (e : Ex H H') (p : Pre M M') : ∀ {v : V} {w : W}, VR K H M v w → VR K H' M' v w
  | _, _, .d h => .d (dp_mono e h)
  | _, _, .m h => .m (p _ _ h)
  | _, _, .t h1 h2 => .t (Evl.ex_t e h1) (VRs.mono e p h2)
  | _, _, .f h1 h2 => .f (Evl.ex_l e h1) (VRs.mono e p h2)
  | _, _, .k v => .k v
theorem VRs.mono {H H' : Hp} {M M' : List Addr} (e : Ex H H') (p : Pre M M') : ∀ {vs : List V} {ws : List W}, VRs K H M vs ws → VRs K H' M' vs ws
  | _, _, .nil => .nil
  | _, _, .cons h1 h2 => .cons (VR.mono e p h1) (VRs.mono e p h2)
end
section lists
variable {H : Hp} {M : List Addr}
theorem VRs.length : ∀ {vs : List V} {ws : List W}, VRs K H M vs ws → vs.length = ws.length
  | _, _, .nil => rfl
  | _, _, .cons _ t => congrArg (· + 1) (VRs.length t)
theorem VRs.append : ∀ {vs us : List V} {ws zs : List W}, VRs K H M vs ws → VRs K H M us zs → VRs K H M (vs ++ us) (ws ++ zs)
  | _, _, _, _, .nil, s => s
  | _, _, _, _, .cons r t, s => .cons r (VRs.append t s)
theorem VRs.snoc {vs : List V} {ws : List W} {v : V} {w : W} (h : VRs K H M vs ws) (h2 : VR K H M v w) : VRs K H M (vs ++ [v]) (ws ++ [w]) := h.append (.cons h2 .nil)
theorem VRs.take : ∀ {vs : List V} {ws : List W} (n : Nat), VRs K H M vs ws → VRs K H M (vs.take n) (ws.take n)
  | _, _, 0, _ => by simpa using VRs.nil
  | _, _, _ + 1, .nil => .nil
  | _, _, n + 1, .cons r t => .cons r (VRs.take n t)
theorem VRs.drop : ∀ {vs : List V} {ws : List W} (n : Nat), VRs K H M vs ws → VRs K H M (vs.drop n) (ws.drop n)
  | _, _, 0, r => by simpa using r
  | _, _, _ + 1, .nil => .nil
  | _, _, n + 1, .cons _ t => VRs.drop n t
theorem VRs.dropLast {vs : List V} {ws : List W} (h : VRs K H M vs ws) : VRs K H M vs.dropLast ws.dropLast := by
  rw [List.dropLast_eq_take, List.dropLast_eq_take, h.length]
  exact h.take _
theorem VRs.get : ∀ {vs : List V} {ws : List W} {i : Nat} {v : V}, VRs K H M vs ws → vs[i]? = some v → ∃ w, ws[i]? = some w ∧ VR K H M v w
  | _, _, _, _, .nil, e => by simp at e
  | _, _, 0, _, .cons r _, e => by
    simp at e
    subst e
    exact ⟨_, rfl, r⟩
  | _, _, i + 1, v, .cons _ t, e => by
    obtain ⟨u, h1, h2⟩ := VRs.get (i := i) (v := v) t (by simpa using e)
    exact ⟨u, by simpa using h1, h2⟩
theorem VRs.getW : ∀ {vs : List V} {ws : List W} {i : Nat} {w : W}, VRs K H M vs ws → ws[i]? = some w → ∃ v, vs[i]? = some v ∧ VR K H M v w
  | _, _, _, _, .nil, e => by simp at e
  | _, _, 0, _, .cons r _, e => by
    simp at e
    subst e
    exact ⟨_, rfl, r⟩
  | _, _, i + 1, v, .cons _ t, e => by
    obtain ⟨u, h1, h2⟩ := VRs.getW (i := i) (w := v) t (by simpa using e)
    exact ⟨u, by simpa using h1, h2⟩
theorem VRs.set {v : V} {w : W} (r : VR K H M v w) : ∀ {vs : List V} {ws : List W} (i : Nat), VRs K H M vs ws → VRs K H M (vs.set i v) (ws.set i w)
  | _, _, _, .nil => .nil
  | _, _, 0, .cons _ t => .cons r t
  | _, _, i + 1, .cons q t => .cons q (VRs.set r i t)
theorem VRs.eraseIdx : ∀ {vs : List V} {ws : List W} (i : Nat), VRs K H M vs ws → VRs K H M (vs.eraseIdx i) (ws.eraseIdx i)
  | _, _, _, .nil => .nil
  | _, _, 0, .cons _ t => t
  | _, _, i + 1, .cons q t => .cons q (VRs.eraseIdx i t)
theorem VRs.reverse : ∀ {vs : List V} {ws : List W}, VRs K H M vs ws → VRs K H M vs.reverse ws.reverse
  | _, _, .nil => .nil
  | _, _, .cons r t => by
    rw [List.reverse_cons, List.reverse_cons]
    exact (VRs.reverse t).snoc r
theorem VRs.of_dp : ∀ {vs : List V} {ds : List PyData}, DQs K H vs ds → VRs K H M vs (ds.map W.d)
  | _, _, .nil => .nil
  | _, _, .cons h t => .cons (.d h) (VRs.of_dp t)
theorem VRs.dp : ∀ {vs : List V} {ds : List PyData}, VRs K H M vs (ds.map W.d) → DQs K H vs ds
  | _, [], h => by cases h; exact .nil
  | _, _ :: _, h => by
    cases h with
    | cons h t =>
      cases h with
      | d h => exact .cons h (VRs.dp t)
end lists

/-! ### what is hidden, the view -/
def hid (A : Addr → Prop) (M : List Addr) (μ : Mu) (a : Addr) : Prop := A a ∨ ∃ (k : Nat) (c : C), M[k]? = some a ∧ μ[k]? = some (some c)
open Classical in
noncomputable def vw (A : Addr → Prop) (M : List Addr) (μ : Mu) (H : Hp) : Hp := fun a => if hid A M μ a then none else H a
section view
variable {A : Addr → Prop} {M M' : List Addr} {μ μ' : Mu} {H H' : Hp} {a : Addr} {o : HO}
theorem vw_some (h : vw A M μ H a = some o) : ¬ hid A M μ a ∧ H a = some o := by
  unfold vw at h
  split at h
  · cases h
  · exact ⟨‹_›, h⟩
theorem vw_of (h : ¬ hid A M μ a) (e : H a = some o) : vw A M μ H a = some o := by
  unfold vw
  rw [if_neg h]
  exact e
theorem vw_le : Ex (vw A M μ H) H := fun _ _ h => (vw_some h).2
theorem vw_ex (e : Ex H H') : Ex (vw A M μ H) (vw A M μ H') := fun a o h => vw_of (vw_some h).1 (e a o (vw_some h).2)
/-- an error's object at p -/
def exk (p C d : Addr) : HO := .ext fun h => ∃ oe vs, h.get? p = some oe ∧ oe.cls = .ref C ∧ oe.dict = some d ∧ oe.data = .fields vs
def CT (K : PySem.W.Frag) (H : Hp) (M : List Addr) (p : Addr) (o : HO) : C → Prop
  | .lst ws => ∃ vs, o = .lst vs ∧ VRs K H M vs ws
  | .xd d w => p = d ∧ ∃ v, o = .xd [(("value" : PySem.Str), v)] ∧ VR K H M v w
  | .er x d => ∃ C, PySem.W.nsIn K PySem.mainGlobals x = some (some (.ref C)) ∧ o = exk p C d
structure MOk (K : PySem.W.Frag) (A : Addr → Prop) (M : List Addr) (H : Hp) (μ : Mu) : Prop where
  len : M.length = μ.length
  nd : M.Nodup
  nA : ∀ a ∈ M, ¬ A a
  al : ∀ a ∈ M, H a ≠ none
  aA : ∀ a, A a → H a ≠ none
  ct : ∀ (k : Nat) a c, M[k]? = some a → μ[k]? = some (some c) → ∃ o, H a = some o ∧ CT K (vw A M μ H) M a o c
def GR (K : PySem.W.Frag) (H : Hp) (M : List Addr) (σ : L2.St) (Γ : G) : Prop := σ.length = Γ.length ∧ ∀ (i : Nat) w, Γ[i]? = some (some w) → ∃ v, σ[i]? = some (some v) ∧ VR K H M v w
structure Cn (K : PySem.W.Frag) (A : Addr → Prop) (M : List Addr) (σ : L2.St) (H : Hp) (Γ : G) (μ : Mu) : Prop where
  mo : MOk K A M H μ
  gr : GR K (vw A M μ H) M σ Γ
structure Eff (A : Addr → Prop) (M : List Addr) (μ : Mu) (H : Hp) (M' : List Addr) (μ' : Mu) (H' : Hp) : Prop where
  pre : Pre M M'
  own : ∀ a o, A a → H a = some o → H' a = some o
  ex : Ex (vw A M μ H) (vw A M' μ' H')
theorem Eff.refl : Eff A M μ H M μ H := ⟨Pre.refl _, fun _ _ _ h => h, Ex.refl _⟩
theorem Eff.trans {M'' : List Addr} {μ'' : Mu} {H'' : Hp} (a : Eff A M μ H M' μ' H') (b : Eff A M' μ' H' M'' μ'' H'') : Eff A M μ H M'' μ'' H'' :=
  ⟨a.pre.trans b.pre, fun x o h e => b.own x o h (a.own x o h e), a.ex.trans b.ex⟩
theorem Eff.of_ex (e : Ex H H') : Eff A M μ H M μ H' := ⟨Pre.refl _, fun a o _ h => e a o h, vw_ex e⟩
theorem CT.mono {c : C} {x : Addr} (e : Ex H H') (p : Pre M M') (h : CT K H M x o c) : CT K H' M' x o c := by
  cases c with
  | lst ws =>
    obtain ⟨vs, h1, h2⟩ := h
    exact ⟨vs, h1, h2.mono e p⟩
  | xd d w =>
    obtain ⟨h0, v, h1, h2⟩ := h
    exact ⟨h0, v, h1, h2.mono e p⟩
  | er x d => exact h
theorem MOk.ex (h : MOk K A M H μ) (e : Ex H H') : MOk K A M H' μ := by
  have nn : ∀ a, H a ≠ none → H' a ≠ none := fun a hn => by
    cases q : H a with
    | none => exact absurd q hn
    | some o => rw [e a o q]; intro z; cases z
  exact ⟨h.len, h.nd, h.nA, fun a m => nn a (h.al a m), fun a m => nn a (h.aA a m), fun k a c h1 h2 => by
    obtain ⟨o, q1, q2⟩ := h.ct k a c h1 h2
    exact ⟨o, e a o q1, q2.mono (vw_ex e) (Pre.refl _)⟩⟩
theorem GR.mono {σ : L2.St} {Γ : G} (h : GR K H M σ Γ) (e : Ex H H') (p : Pre M M') : GR K H' M' σ Γ :=
  ⟨h.1, fun i w hw => let ⟨v, h1, h2⟩ := h.2 i w hw; ⟨v, h1, h2.mono e p⟩⟩
theorem GR.set {σ : L2.St} {Γ : G} {i : Nat} {v : V} {w : W} (h : GR K H M σ Γ) (r : VR K H M v w) : GR K H M (σ.set i (some v)) (Γ.set i (some w)) := by
  refine ⟨by rw [List.length_set, List.length_set]; exact h.1, fun j u hu => ?_⟩
  by_cases hj : i = j
  · subst hj
    rw [List.getElem?_set] at hu
    rw [if_pos rfl] at hu
    split at hu
    · have : w = u := by simpa using hu
      subst this
      refine ⟨v, ?_, r⟩
      rw [List.getElem?_set, if_pos rfl, if_pos (by rw [h.1]; assumption)]
    · cases hu
  · rw [List.getElem?_set, if_neg hj] at hu
    obtain ⟨z, h1, h2⟩ := h.2 j u hu
    exact ⟨z, by rw [List.getElem?_set, if_neg hj]; exact h1, h2⟩
theorem GR.drop {σ : L2.St} {Γ : G} {i : Nat} (h : GR K H M σ Γ) : GR K H M (σ.set i none) (Γ.set i none) := by
  refine ⟨by rw [List.length_set, List.length_set]; exact h.1, fun j u hu => ?_⟩
  by_cases hj : i = j
  · subst hj
    rw [List.getElem?_set, if_pos rfl] at hu
    split at hu
    · cases hu
    · cases hu
  · rw [List.getElem?_set, if_neg hj] at hu
    obtain ⟨z, h1, h2⟩ := h.2 j u hu
    exact ⟨z, by rw [List.getElem?_set, if_neg hj]; exact h1, h2⟩
theorem Cn.ex {σ : L2.St} {Γ : G} (h : Cn K A M σ H Γ μ) (e : Ex H H') : Cn K A M σ H' Γ μ := ⟨h.mo.ex e, h.gr.mono (vw_ex e) (Pre.refl _)⟩
/-- the slots behind a change of the cells -/
theorem Cn.eff {σ : L2.St} {Γ : G} (h : Cn K A M σ H Γ μ) (e : Eff A M μ H M' μ' H') (mo : MOk K A M' H' μ') : Cn K A M' σ H' Γ μ' := ⟨mo, h.gr.mono e.ex e.pre⟩
theorem GR.wipe {σ : L2.St} {Γ : G} (h : GR K H M σ Γ) : ∀ vs : List Nat, GR K H M (wipe σ vs) (vs.foldr (fun v g => g.set v none) Γ)
  | [] => h
  | v :: vs => (h.wipe vs).drop
/-! ### changing a cell, adding one, taking one away -/
theorem MOk.ne_hid (h : MOk K A M H μ) {p : Addr} (hp : H p = none) : ¬ hid A M μ p := fun z => by
  rcases z with z | ⟨k, c, h1, _⟩
  · exact h.aA p z hp
  · exact h.al p (List.mem_of_getElem? h1) hp
theorem hid_set {k : Nat} {c c' : C} (hk : μ[k]? = some (some c)) : hid A M (μ.set k (some c')) a ↔ hid A M μ a := by
  constructor
  · rintro (z | ⟨j, d, h1, h2⟩)
    · exact .inl z
    · by_cases hj : k = j
      · subst hj
        exact .inr ⟨k, c, h1, hk⟩
      · rw [List.getElem?_set, if_neg hj] at h2
        exact .inr ⟨j, d, h1, h2⟩
  · rintro (z | ⟨j, d, h1, h2⟩)
    · exact .inl z
    · by_cases hj : k = j
      · subst hj
        refine .inr ⟨k, c', h1, ?_⟩
        rw [List.getElem?_set, if_pos rfl, if_pos ((List.getElem?_eq_some_iff.mp h2).1)]
      · exact .inr ⟨j, d, h1, by rw [List.getElem?_set, if_neg hj]; exact h2⟩
theorem vw_set {k : Nat} {c c' : C} {p : Addr} (hp : M[k]? = some p) (hk : μ[k]? = some (some c)) : vw A M (μ.set k (some c')) (upd H p o) = vw A M μ H := by
  funext b
  unfold vw
  by_cases hb : hid A M μ b
  · rw [if_pos hb, if_pos ((hid_set hk).mpr hb)]
  · rw [if_neg hb, if_neg fun z => hb ((hid_set hk).mp z)]
    refine upd_ne fun z => hb ?_
    subst z
    exact .inr ⟨k, c, hp, hk⟩
theorem MOk.write {k : Nat} {c c' : C} {p : Addr} (h : MOk K A M H μ) (hp : M[k]? = some p) (hk : μ[k]? = some (some c)) (hc : CT K (vw A M μ H) M p o c') : MOk K A M (upd H p o) (μ.set k (some c')) := by
  have ev := vw_set (A := A) (H := H) (o := o) (c' := c') hp hk
  have nn : ∀ a, H a ≠ none → upd H p o a ≠ none := fun a hn => by
    by_cases e : a = p
    · subst e; rw [upd_same]; intro z; cases z
    · rw [upd_ne e]; exact hn
  refine ⟨by rw [List.length_set]; exact h.len, h.nd, h.nA, fun a m => nn a (h.al a m), fun a m => nn a (h.aA a m), fun j b d h1 h2 => ?_⟩
  rw [ev]
  by_cases hj : k = j
  · subst hj
    rw [hp] at h1
    cases h1
    rw [List.getElem?_set, if_pos rfl] at h2
    split at h2
    · have : c' = d := by simpa using h2
      subst this
      exact ⟨o, upd_same, hc⟩
    · cases h2
  · rw [List.getElem?_set, if_neg hj] at h2
    obtain ⟨u, q1, q2⟩ := h.ct j b d h1 h2
    refine ⟨u, ?_, q2⟩
    rw [upd_ne ?_]
    · exact q1
    · rintro rfl
      have l1 := (List.getElem?_eq_some_iff.mp h1)
      have l2 := (List.getElem?_eq_some_iff.mp hp)
      exact hj ((List.getElem_inj h.nd).mp (l2.2.trans l1.2.symm))
theorem Eff.write {k : Nat} {c c' : C} {p : Addr} (h : MOk K A M H μ) (hp : M[k]? = some p) (hk : μ[k]? = some (some c)) : Eff A M μ H M (μ.set k (some c')) (upd H p o) := by
  refine ⟨Pre.refl _, fun a u ha e => ?_, by rw [vw_set hp hk]; exact Ex.refl _⟩
  rw [upd_ne ?_]
  · exact e
  · rintro rfl
    exact h.nA a (List.mem_of_getElem? hp) ha
theorem pre_snoc {M : List Addr} {p : Addr} : Pre M (M ++ [p]) := fun k a h => by
  rw [List.getElem?_append_left (List.getElem?_eq_some_iff.mp h).1]
  exact h
theorem hid_new {p : Addr} {c : C} (h : M.length = μ.length) : hid A (M ++ [p]) (μ ++ [some c]) a ↔ hid A M μ a ∨ a = p := by
  constructor
  · rintro (z | ⟨j, d, h1, h2⟩)
    · exact .inl (.inl z)
    · by_cases hj : j < M.length
      · rw [List.getElem?_append_left hj] at h1
        rw [List.getElem?_append_left (by omega)] at h2
        exact .inl (.inr ⟨j, d, h1, h2⟩)
      · have hj2 : j = M.length := by
          have := (List.getElem?_eq_some_iff.mp h1).1
          simp at this
          omega
        subst hj2
        rw [List.getElem?_append_right (Nat.le_refl _)] at h1
        simp at h1
        exact .inr h1.symm
  · rintro ((z | ⟨j, d, h1, h2⟩) | z)
    · exact .inl z
    · refine .inr ⟨j, d, ?_, ?_⟩
      · rw [List.getElem?_append_left (List.getElem?_eq_some_iff.mp h1).1]; exact h1
      · rw [List.getElem?_append_left (List.getElem?_eq_some_iff.mp h2).1]; exact h2
    · subst z
      refine .inr ⟨M.length, c, ?_, ?_⟩
      · rw [List.getElem?_append_right (Nat.le_refl _)]; simp
      · rw [h, List.getElem?_append_right (Nat.le_refl _)]; simp
theorem vw_new {p : Addr} {c : C} (h : M.length = μ.length) (hp : H p = none) : vw A (M ++ [p]) (μ ++ [some c]) (upd H p o) = vw A M μ H := by
  funext b
  unfold vw
  by_cases hb : hid A M μ b
  · rw [if_pos hb, if_pos ((hid_new h).mpr (.inl hb))]
  · rw [if_neg hb]
    by_cases e : b = p
    · subst e
      rw [if_pos ((hid_new h).mpr (.inr rfl)), hp]
    · rw [if_neg fun z => (((hid_new h).mp z).elim hb e), upd_ne e]
theorem MOk.new {c : C} {p : Addr} (h : MOk K A M H μ) (hp : H p = none) (hc : CT K (vw A M μ H) M p o c) : MOk K A (M ++ [p]) (upd H p o) (μ ++ [some c]) := by
  have ev := vw_new (A := A) (o := o) (c := c) h.len hp
  have nn : ∀ a, H a ≠ none → upd H p o a ≠ none := fun a hn => by
    rw [upd_ne fun z => hn (by rw [z]; exact hp)]
    exact hn
  have np : p ∉ M := fun m => h.al p m hp
  refine ⟨by simp [h.len], ?_, fun a m => ?_, fun a m => ?_, fun a m => nn a (h.aA a m), fun j b d h1 h2 => ?_⟩
  · rw [List.nodup_append]
    refine ⟨h.nd, by simp, fun a m b mb z => ?_⟩
    have : b = p := by simpa using mb
    subst this
    subst z
    exact np m
  · rcases List.mem_append.mp m with m | m
    · exact h.nA a m
    · have : a = p := by simpa using m
      subst this
      exact fun z => h.aA a z hp
  · rcases List.mem_append.mp m with m | m
    · exact nn a (h.al a m)
    · have : a = p := by simpa using m
      subst this
      rw [upd_same]
      intro z
      cases z
  · rw [ev]
    by_cases hj : j < M.length
    · rw [List.getElem?_append_left hj] at h1
      rw [List.getElem?_append_left (by have := h.len; omega)] at h2
      obtain ⟨u, q1, q2⟩ := h.ct j b d h1 h2
      refine ⟨u, ?_, q2.mono (Ex.refl _) pre_snoc⟩
      rw [upd_ne fun z => np (by rw [← z]; exact List.mem_of_getElem? h1)]
      exact q1
    · have hj2 : j = M.length := by
        have := (List.getElem?_eq_some_iff.mp h1).1
        simp at this
        omega
      subst hj2
      rw [List.getElem?_append_right (Nat.le_refl _)] at h1
      rw [h.len, List.getElem?_append_right (Nat.le_refl _)] at h2
      simp at h1 h2
      subst h1 h2
      exact ⟨o, upd_same, hc.mono (Ex.refl _) pre_snoc⟩
theorem Eff.new {c : C} {p : Addr} (h : MOk K A M H μ) (hp : H p = none) : Eff A M μ H (M ++ [p]) (μ ++ [some c]) (upd H p o) :=
  ⟨pre_snoc, fun a u ha e => by rw [upd_ne (ne_of_none e hp)]; exact e, by rw [vw_new h.len hp]; exact Ex.refl _⟩
end view
end Pd

namespace Pd
open PySem L2
open Evl (Ex)
section judgements
variable (K : PySem.W.Frag)
def AX (te : TE) (Γ : G) (μ : Mu) (R : W → Mu → Prop) : Prop := ∀ (A : Addr → Prop) (M : List Addr) (σ : L2.St) (H : Hp), Cn K A M σ H Γ μ → ∀ Q : VK,
  (∀ M' H' v w μ', MOk K A M' H' μ' → Eff A M μ H M' μ' H' → VR K (vw A M' μ' H') M' v w → R w μ' → Q v H') → te σ H Q
def AXA (ta : TA) (Γ : G) (μ : Mu) (R : List W → Mu → Prop) : Prop := ∀ (A : Addr → Prop) (M : List Addr) (σ : L2.St) (H : Hp), Cn K A M σ H Γ μ → ∀ Q : List V → Hp → Prop,
  (∀ M' H' vs ws μ', MOk K A M' H' μ' → Eff A M μ H M' μ' H' → VRs K (vw A M' μ' H') M' vs ws → R ws μ' → Q vs H') → ta σ H Q
def AXT (tt : TT) (Γ : G) (μ : Mu) (R : Bool → Mu → Prop) : Prop := ∀ (A : Addr → Prop) (M : List Addr) (σ : L2.St) (H : Hp), Cn K A M σ H Γ μ → ∀ Q : Bool → Hp → Prop,
  (∀ M' H' b μ', MOk K A M' H' μ' → Eff A M μ H M' μ' H' → R b μ' → Q b H') → tt σ H Q
def AXO (to : TO) (Γ : G) (μ : Mu) (R : Option Int → Mu → Prop) : Prop := ∀ (A : Addr → Prop) (M : List Addr) (σ : L2.St) (H : Hp), Cn K A M σ H Γ μ → ∀ Q : Option Int → Hp → Prop,
  (∀ M' H' b μ', MOk K A M' H' μ' → Eff A M μ H M' μ' H' → R b μ' → Q b H') → to σ H Q
def AO (r : R2) (x y : W) (μ : Mu) (R : W → Mu → Prop) : Prop := ∀ (A : Addr → Prop) (M : List Addr) (H : Hp) (v u : V), MOk K A M H μ → VR K (vw A M μ H) M v x → VR K (vw A M μ H) M u y → ∀ Q : VK,
  (∀ M' H' z w μ', MOk K A M' H' μ' → Eff A M μ H M' μ' H' → VR K (vw A M' μ' H') M' z w → R w μ' → Q z H') → r v u H Q
def AU (r : V → Hp → VK → Prop) (x : W) (μ : Mu) (R : W → Mu → Prop) : Prop := ∀ (A : Addr → Prop) (M : List Addr) (H : Hp) (v : V), MOk K A M H μ → VR K (vw A M μ H) M v x → ∀ Q : VK,
  (∀ M' H' z w μ', MOk K A M' H' μ' → Eff A M μ H M' μ' H' → VR K (vw A M' μ' H') M' z w → R w μ' → Q z H') → r v H Q
def AC (r : List V → Hp → VK → Prop) (ws : List W) (μ : Mu) (R : W → Mu → Prop) : Prop := ∀ (A : Addr → Prop) (M : List Addr) (H : Hp) (vs : List V), MOk K A M H μ → VRs K (vw A M μ H) M vs ws → ∀ Q : VK,
  (∀ M' H' z w μ', MOk K A M' H' μ' → Eff A M μ H M' μ' H' → VR K (vw A M' μ' H') M' z w → R w μ' → Q z H') → r vs H Q
def AM (r : V → List V → Hp → VK → Prop) (x : W) (ws : List W) (μ : Mu) (R : W → Mu → Prop) : Prop := ∀ (A : Addr → Prop) (M : List Addr) (H : Hp) (v : V) (vs : List V), MOk K A M H μ → VR K (vw A M μ H) M v x → VRs K (vw A M μ H) M vs ws → ∀ Q : VK,
  (∀ M' H' z w μ', MOk K A M' H' μ' → Eff A M μ H M' μ' H' → VR K (vw A M' μ' H') M' z w → R w μ' → Q z H') → r v vs H Q
def AG (g : TG) (w : W) (Γ : G) (μ : Mu) (R : G → Mu → Prop) : Prop := ∀ (A : Addr → Prop) (M : List Addr) (σ : L2.St) (H : Hp) (v : V), Cn K A M σ H Γ μ → VR K (vw A M μ H) M v w → ∀ Q : L2.St → Hp → Prop,
  (∀ M' σ' H' Γ' μ', Cn K A M' σ' H' Γ' μ' → Eff A M μ H M' μ' H' → R Γ' μ' → Q σ' H') → g v σ H Q
def AGs (g : TGs) (ws : List W) (Γ : G) (μ : Mu) (R : G → Mu → Prop) : Prop := ∀ (A : Addr → Prop) (M : List Addr) (σ : L2.St) (H : Hp) (vs : List V), Cn K A M σ H Γ μ → VRs K (vw A M μ H) M vs ws → ∀ Q : L2.St → Hp → Prop,
  (∀ M' σ' H' Γ' μ', Cn K A M' σ' H' Γ' μ' → Eff A M μ H M' μ' H' → R Γ' μ' → Q σ' H') → g vs σ H Q
structure AEn where
  nx : G → Mu → Prop
  rt : W → Mu → Prop
  bk : G → Mu → Prop := fun _ _ => False
  ct : G → Mu → Prop := fun _ _ => False
  xw : L2.WX := fun _ _ _ _ => False
  xc : PySem.Str → W → G → Mu → Prop := fun _ _ _ _ => False
/-- the class of errors that the text calls x -/
def clA (x : PySem.Str) (a : Addr) : Prop := PySem.W.nsIn K PySem.mainGlobals x = some (some (.ref a))
/-- the wish about errors, by the errors' names and values; the error's dict stands as the last cell -/
def XW (A : Addr → Prop) (M : List Addr) (μ : Mu) (H : Hp) (xw : L2.WX) (xc : PySem.Str → W → G → Mu → Prop) : Prop := ∀ M' σ' H' Γ' x a d w μ', clA K x a → Cn K A (M' ++ [d]) σ' H' Γ' (μ' ++ [some (.xd d w)]) →
  Eff A M μ H (M' ++ [d]) (μ' ++ [some (.xd d w)]) H' → xc x w Γ' μ' → xw (.ref a) (some d) σ' H'
structure Hd (A : Addr → Prop) (M : List Addr) (μ : Mu) (H : Hp) (D : AEn) (E : Ends) : Prop where
  nx : ∀ M' σ' H' Γ' μ', Cn K A M' σ' H' Γ' μ' → Eff A M μ H M' μ' H' → D.nx Γ' μ' → E.nx σ' H'
  rt : ∀ M' H' v w μ', MOk K A M' H' μ' → Eff A M μ H M' μ' H' → VR K (vw A M' μ' H') M' v w → D.rt w μ' → E.rt v H'
  bk : ∀ M' σ' H' Γ' μ', Cn K A M' σ' H' Γ' μ' → Eff A M μ H M' μ' H' → D.bk Γ' μ' → E.bk σ' H'
  ct : ∀ M' σ' H' Γ' μ', Cn K A M' σ' H' Γ' μ' → Eff A M μ H M' μ' H' → D.ct Γ' μ' → E.ct σ' H'
  xx : XW K A M μ H D.xw D.xc
def AS (t : TS) (D : AEn) (Γ : G) (μ : Mu) : Prop := ∀ (A : Addr → Prop) (M : List Addr) (σ : L2.St) (H : Hp), Cn K A M σ H Γ μ → ∀ E : Ends, Hd K A M μ H D E → t E σ H
end judgements
section
variable {K : PySem.W.Frag} {A : Addr → Prop} {M M' : List Addr} {μ μ' : Mu} {H H' : Hp} {D : AEn} {E : Ends} {Γ : G}
theorem XW.after {xw : L2.WX} {xc : PySem.Str → W → G → Mu → Prop} (h : XW K A M μ H xw xc) (e : Eff A M μ H M' μ' H') : XW K A M' μ' H' xw xc := fun _ _ _ _ _ _ _ _ _ h1 h2 h3 h4 => h _ _ _ _ _ _ _ _ _ h1 h2 (e.trans h3) h4
theorem Hd.after (h : Hd K A M μ H D E) (e : Eff A M μ H M' μ' H') : Hd K A M' μ' H' D E :=
  ⟨fun _ _ _ _ _ c e' => h.nx _ _ _ _ _ c (e.trans e'), fun _ _ _ _ _ m e' => h.rt _ _ _ _ _ m (e.trans e'), fun _ _ _ _ _ c e' => h.bk _ _ _ _ _ c (e.trans e'), fun _ _ _ _ _ c e' => h.ct _ _ _ _ _ c (e.trans e'), h.xx.after e⟩

/-! ### data as a whole: what a value comes to with the cells as they stand -/
mutual
inductive Rs (μ : Mu) : W → PyData → Prop
  | d (x : PyData) : Rs μ (.d x) x
  | m {k : Nat} {ws : List W} {xs : List PyData} : μ[k]? = some (some (.lst ws)) → Rss μ ws xs → Rs μ (.m k) (.list xs)
  | t {ws : List W} {xs : List PyData} : Rss μ ws xs → Rs μ (.t ws) (.tuple xs)
  | f {ws : List W} {xs : List PyData} : Rss μ ws xs → Rs μ (.f ws) (.list xs)
inductive Rss (μ : Mu) : List W → List PyData → Prop
  | nil : Rss μ [] []
  | cons {w : W} {x : PyData} {ws : List W} {xs : List PyData} : Rs μ w x → Rss μ ws xs → Rss μ (w :: ws) (x :: xs)
end
theorem Rss.ds : ∀ xs : List PyData, Rss μ (xs.map W.d) xs
  | [] => .nil
  | x :: xs => .cons (.d x) (Rss.ds xs)
mutual
theorem Rs.dp (mo : MOk K A M H μ) : ∀ {w : W} {x : PyData} {v : V}, Rs μ w x → VR K (vw A M μ H) M v w → Dp K H v x
  | _, _, _, .d x, h => by
    cases h with
    | d h => exact (dp_mono vw_le h).dp
  | _, _, _, .m h1 h2, h => by
    cases h with
    | m hm =>
      obtain ⟨o, e, c⟩ := mo.ct _ _ _ hm h1
      obtain ⟨vs, rfl, r⟩ := c
      exact .lst (SqL.of e) (Rss.dp mo h2 r)
  | _, _, _, .t h1, h => by
    cases h with
    | t hs r => exact .tup (Evl.ex_t vw_le hs) (Rss.dp mo h1 r)
  | _, _, _, .f h1, h => by
    cases h with
    | f hs r => exact .lst (Evl.ex_l vw_le hs) (Rss.dp mo h1 r)
theorem Rss.dp (mo : MOk K A M H μ) : ∀ {ws : List W} {xs : List PyData} {vs : List V}, Rss μ ws xs → VRs K (vw A M μ H) M vs ws → DpAll K H vs xs
  | _, _, _, .nil, h => by cases h; exact .nil
  | _, _, _, .cons h1 h2, h => by
    cases h with
    | cons r1 r2 => exact .cons (Rs.dp mo h1 r1) (Rss.dp mo h2 r2)
end
/-- a list's items; a tuple's -/
inductive LW (μ : Mu) : W → List W → Prop
  | d (xs : List PyData) : LW μ (.d (.list xs)) (xs.map W.d)
  | m {k : Nat} {ws : List W} : μ[k]? = some (some (.lst ws)) → LW μ (.m k) ws
  | f (ws : List W) : LW μ (.f ws) ws
/-- .. of a list that was made here -/
inductive LN (μ : Mu) : W → List W → Prop
  | d (xs : List PyData) : LN μ (.d (.list xs)) (xs.map W.d)
  | m {k : Nat} {ws : List W} : μ[k]? = some (some (.lst ws)) → LN μ (.m k) ws
inductive TW : W → List W → Prop
  | d (xs : List PyData) : TW (.d (.tuple xs)) (xs.map W.d)
  | t (ws : List W) : TW (.t ws) ws
theorem LW.get (mo : MOk K A M H μ) {v : V} {w : W} {ws : List W} (r : VR K (vw A M μ H) M v w) (h : LW μ w ws) : ∃ a vs, v = .ref a ∧ SqL K H a vs ∧ VRs K (vw A M μ H) M vs ws := by
  cases h with
  | d xs =>
    cases r with
    | d r =>
      cases r with
      | lst h1 h2 => exact ⟨_, _, rfl, SqL.of (vw_le _ _ h1), VRs.of_dp h2⟩
  | m hk =>
    cases r with
    | m hm =>
      obtain ⟨o, e, vs, rfl, r⟩ := mo.ct _ _ _ hm hk
      exact ⟨_, vs, rfl, SqL.of e, r⟩
  | f ws =>
    cases r with
    | f h1 h2 => exact ⟨_, _, rfl, Evl.ex_l vw_le h1, h2⟩
theorem LN.get (mo : MOk K A M H μ) {v : V} {w : W} {ws : List W} (r : VR K (vw A M μ H) M v w) (h : LN μ w ws) : ∃ a vs, v = .ref a ∧ H a = some (.lst vs) ∧ VRs K (vw A M μ H) M vs ws := by
  cases h with
  | d xs =>
    cases r with
    | d r =>
      cases r with
      | lst h1 h2 => exact ⟨_, _, rfl, vw_le _ _ h1, VRs.of_dp h2⟩
  | m hk =>
    cases r with
    | m hm =>
      obtain ⟨o, e, vs, rfl, r⟩ := mo.ct _ _ _ hm hk
      exact ⟨_, vs, rfl, e, r⟩
theorem TW.get {v : V} {w : W} {ws : List W} (r : VR K (vw A M μ H) M v w) (h : TW w ws) : ∃ a vs, v = .ref a ∧ SqT K (vw A M μ H) a vs ∧ VRs K (vw A M μ H) M vs ws := by
  cases h with
  | d xs =>
    cases r with
    | d r =>
      cases r with
      | tup h1 h2 => exact ⟨_, _, rfl, h1, VRs.of_dp h2⟩
  | t ws =>
    cases r with
    | t h1 h2 => exact ⟨_, _, rfl, h1, h2⟩
theorem map_d_inj : ∀ {xs ys : List PyData}, xs.map W.d = ys.map W.d → xs = ys
  | [], [], _ => rfl
  | [], _ :: _, h => by cases h
  | _ :: _, [], h => by cases h
  | x :: xs, y :: ys, h => by
    rw [List.map_cons, List.map_cons] at h
    injection h with h1 h2
    injection h1 with h1
    rw [h1, map_d_inj h2]
/-- scalars -/
theorem vr_int {v : V} {i : Int} {Hv : Hp} (h : VR K Hv M v (.d (.int i))) : v = .int i := by
  cases h with
  | d h => cases h; rfl
theorem vr_bool {v : V} {b : Bool} {Hv : Hp} (h : VR K Hv M v (.d (.bool b))) : v = .bl b := by
  cases h with
  | d h => cases h; rfl
theorem vr_str {v : V} {x : PySem.Str} {Hv : Hp} (h : VR K Hv M v (.d (.str x))) : v = .str x := by
  cases h with
  | d h => cases h; rfl
theorem vr_none {v : V} {Hv : Hp} (h : VR K Hv M v (.d .none)) : v = .non := by
  cases h with
  | d h => cases h; rfl
theorem vrs_int : ∀ {vs : List V} {ns : List Int} {Hv : Hp}, VRs K Hv M vs (ns.map fun n => W.d (.int n)) → vs = ns.map V.int
  | _, [], _, h => by cases h; rfl
  | _, n :: ns, _, h => by
    cases h with
    | cons h t => rw [vr_int h, vrs_int t]; rfl
theorem vrs_bool : ∀ {vs : List V} {ns : List Bool} {Hv : Hp}, VRs K Hv M vs (ns.map fun n => W.d (.bool n)) → vs = ns.map V.bl
  | _, [], _, h => by cases h; rfl
  | _, n :: ns, _, h => by
    cases h with
    | cons h t => rw [vr_bool h, vrs_bool t]; rfl

/-! ### a new list, a new tuple: plain data, or a new cell -/
def NL (ws : List W) (μ : Mu) (R : W → Mu → Prop) : Prop := (∃ xs, ws = xs.map W.d ∧ R (.d (.list xs)) μ) ∨ R (.m μ.length) (μ ++ [some (.lst ws)])
def NT (ws : List W) (μ : Mu) (R : W → Mu → Prop) : Prop := (∃ xs, ws = xs.map W.d ∧ R (.d (.tuple xs)) μ) ∨ R (.t ws) μ
theorem NL.d {xs : List PyData} {ws : List W} {R : W → Mu → Prop} (h : R (.d (.list xs)) μ) (e : ws = xs.map W.d := by first | rfl | simp) : NL ws μ R := .inl ⟨xs, e, h⟩
theorem NL.m {ws : List W} {R : W → Mu → Prop} (h : R (.m μ.length) (μ ++ [some (.lst ws)])) : NL ws μ R := .inr h
theorem NT.d {xs : List PyData} {ws : List W} {R : W → Mu → Prop} (h : R (.d (.tuple xs)) μ) (e : ws = xs.map W.d := by first | rfl | simp) : NT ws μ R := .inl ⟨xs, e, h⟩
theorem NT.t {ws : List W} {R : W → Mu → Prop} (h : R (.t ws) μ) : NT ws μ R := .inr h
theorem NL.use {ws : List W} {R : W → Mu → Prop} {vs : List V} {p : Addr} (h : NL ws μ R) (mo : MOk K A M H μ) (r : VRs K (vw A M μ H) M vs ws) (hp : H p = none) :
    ∃ M' μ' w, MOk K A M' (upd H p (.lst vs)) μ' ∧ Eff A M μ H M' μ' (upd H p (.lst vs)) ∧ VR K (vw A M' μ' (upd H p (.lst vs))) M' (.ref p) w ∧ R w μ' := by
  have e : Ex H (upd H p (.lst vs)) := Ex.new hp
  rcases h with ⟨xs, rfl, h⟩ | h
  · exact ⟨M, μ, _, mo.ex e, Eff.of_ex e,   .d (.lst (vw_of (mo.ne_hid hp) upd_same) (dpa_mono (vw_ex e) r.dp)), h⟩
  · refine ⟨M ++ [p], _, _, mo.new (c := .lst ws) hp ⟨vs, rfl, r⟩, Eff.new mo hp, .m ?_, h⟩
    rw [← mo.len, List.getElem?_append_right (Nat.le_refl _)]
    simp
theorem NT.use {ws : List W} {R : W → Mu → Prop} {vs : List V} {p : Addr} (h : NT ws μ R) (mo : MOk K A M H μ) (r : VRs K (vw A M μ H) M vs ws) (hp : H p = none) :
    ∃ w, MOk K A M (upd H p (.tup vs)) μ ∧ Eff A M μ H M μ (upd H p (.tup vs)) ∧ VR K (vw A M μ (upd H p (.tup vs))) M (.ref p) w ∧ R w μ := by
  have e : Ex H (upd H p (.tup vs)) := Ex.new hp
  have hs : SqT K (vw A M μ (upd H p (.tup vs))) p vs := SqT.of (vw_of (mo.ne_hid hp) upd_same)
  rcases h with ⟨xs, rfl, h⟩ | h
  · exact ⟨_, mo.ex e, Eff.of_ex e, .d (.tup hs (dpa_mono (vw_ex e) r.dp)), h⟩
  · exact ⟨_, mo.ex e, Eff.of_ex e, .t hs (r.mono (vw_ex e) (Pre.refl _)), h⟩
end

/-! ### expressions -/
section
variable {K : PySem.W.Frag} {Γ : G} {μ : Mu} {R : W → Mu → Prop} {ta tb te : TE} {t u : TT} {r : R2}
theorem ax_var {i : Nat} {w : W} (h : Γ[i]? = some (some w)) (k : R w μ) : AX K (tVar i) Γ μ R := fun A M σ H c Q q =>
  let ⟨v, e, r⟩ := c.gr.2 i w h
  ⟨v, e, q M H v w μ c.mo Eff.refl r k⟩
theorem ax_int {i : Int} (k : R (.d (.int i)) μ) : AX K (tC (.int i)) Γ μ R := fun A M σ H c Q q => q M H _ _ μ c.mo Eff.refl (.d (.int i)) k
theorem ax_bl {b : Bool} (k : R (.d (.bool b)) μ) : AX K (tC (.bl b)) Γ μ R := fun A M σ H c Q q => q M H _ _ μ c.mo Eff.refl (.d (.bl b)) k
theorem ax_str {x : PySem.Str} (k : R (.d (.str x)) μ) : AX K (tC (.str x)) Γ μ R := fun A M σ H c Q q => q M H _ _ μ c.mo Eff.refl (.d (.str x)) k
theorem ax_cV {v : V} (k : R (.k v) μ) : AX K (tC v) Γ μ R := fun A M σ H c Q q => q M H _ _ μ c.mo Eff.refl (.k v) k
theorem ax_non (k : R (.d .none) μ) : AX K (tC .non) Γ μ R := fun A M σ H c Q q => q M H _ _ μ c.mo Eff.refl (.d .non) k
theorem ax_op (h : AX K ta Γ μ fun x μ1 => AX K tb Γ μ1 fun y μ2 => AO K r x y μ2 R) : AX K (tOp r ta tb) Γ μ R := fun A M σ H c Q q =>
  h A M σ H c _ fun M1 H1 v x μ1 mo1 e1 r1 h1 => h1 A M1 σ H1 (c.eff e1 mo1) _ fun M2 H2 u y μ2 mo2 e2 r2 h2 =>
    h2 A M2 H2 v u mo2 (r1.mono e2.ex e2.pre) r2 Q fun M3 H3 z w μ3 mo3 e3 r3 hR => q M3 H3 z w μ3 mo3 ((e1.trans e2).trans e3) r3 hR
theorem ax_un {r : V → Hp → VK → Prop} (h : AX K ta Γ μ fun x μ1 => AU K r x μ1 R) : AX K (tUn r ta) Γ μ R := fun A M σ H c Q q =>
  h A M σ H c _ fun M1 H1 v x μ1 mo1 e1 r1 h1 => h1 A M1 H1 v mo1 r1 Q fun M3 H3 z w μ3 mo3 e3 r3 hR => q M3 H3 z w μ3 mo3 (e1.trans e3) r3 hR
theorem ax_weak {R' : W → Mu → Prop} (h : AX K te Γ μ R) (k : ∀ w μ', R w μ' → R' w μ') : AX K te Γ μ R' := fun A M σ H c Q q =>
  h A M σ H c Q fun M1 H1 v w μ1 mo e r hr => q M1 H1 v w μ1 mo e r (k _ _ hr)
/-! two ints, and the like -/
theorem ao_I0 {g : Int → Int → V} {d : PyData} {i j : Int} (hd : ∀ Hv, DQ K Hv (g i j) d) (k : R (.d d) μ) : AO K (rI0 g) (.d (.int i)) (.d (.int j)) μ R := fun A M H v u mo rv ru Q q => by
  rw [vr_int rv, vr_int ru]
  exact ⟨i, j, rfl, rfl, q M H _ _ μ mo Eff.refl (.d (hd _)) k⟩
theorem ao_I {P : Int → Int → Prop} {g : Int → Int → V} {d : PyData} {i j : Int} (hd : ∀ Hv, DQ K Hv (g i j) d) (hc : P i j) (k : R (.d d) μ) : AO K (rI P g) (.d (.int i)) (.d (.int j)) μ R := fun A M H v u mo rv ru Q q => by
  rw [vr_int rv, vr_int ru]
  exact ⟨i, j, rfl, rfl, hc, q M H _ _ μ mo Eff.refl (.d (hd _)) k⟩
theorem ao_iI {g : Int → Int → Int} {i j : Int} (k : R (.d (.int (g i j))) μ) : AO K (rI0 fun i j => .int (g i j)) (.d (.int i)) (.d (.int j)) μ R := ao_I0 (fun _ => .int _) k
theorem ao_iB {g : Int → Int → Bool} {i j : Int} (k : R (.d (.bool (g i j))) μ) : AO K (rI0 fun i j => .bl (g i j)) (.d (.int i)) (.d (.int j)) μ R := ao_I0 (fun _ => .bl _) k
theorem ao_cI {P : Int → Int → Prop} {g : Int → Int → Int} {i j : Int} (hc : P i j) (k : R (.d (.int (g i j))) μ) : AO K (rI P fun i j => .int (g i j)) (.d (.int i)) (.d (.int j)) μ R := ao_I (fun _ => .int _) hc k
theorem au_neg {i : Int} (k : R (.d (.int (-i))) μ) : AU K (rU fun i => .int (-i)) (.d (.int i)) μ R := fun A M H v mo rv Q q => by
  rw [vr_int rv]
  exact ⟨i, rfl, q M H _ _ μ mo Eff.refl (.d (.int _)) k⟩
/-- == and != of scalars -/
def sV : PyData → V
  | .bool b => .bl b
  | .int i => .int i
  | .str x => .str x
  | _ => .non
def isS : PyData → Bool
  | .none => true
  | .bool _ => true
  | .int _ => true
  | .str _ => true
  | _ => false
theorem vr_s {v : V} {x : PyData} {Hv : Hp} {M : List Addr} (h : VR K Hv M v (.d x)) (hx : isS x = true) : v = sV x := by
  cases h with
  | d h => cases h <;> first | rfl | cases hx
theorem ao_eq {x y : PyData} (hx : isS x = true) (hy : isS y = true) (hs : scal (sV x) (sV y) = true) (k : R (.d (.bool (decide (sV x = sV y)))) μ) : AO K rEq (.d x) (.d y) μ R := fun A M H v u mo rv ru Q q => by
  rw [vr_s rv hx, vr_s ru hy]
  exact ⟨hs, q M H _ _ μ mo Eff.refl (.d (.bl _)) k⟩
theorem ao_ne {x y : PyData} (hx : isS x = true) (hy : isS y = true) (hs : scal (sV x) (sV y) = true) (k : R (.d (.bool (!decide (sV x = sV y)))) μ) : AO K rNe (.d x) (.d y) μ R := fun A M H v u mo rv ru Q q => by
  rw [vr_s rv hx, vr_s ru hy]
  exact ⟨hs, q M H _ _ μ mo Eff.refl (.d (.bl _)) k⟩
theorem dec_V {i j : Int} : decide (V.int i = V.int j) = decide (i = j) := by
  by_cases h : i = j
  · subst h; simp
  · rw [decide_eq_false h, decide_eq_false fun z => h (V.int.inj z)]
theorem dec_Vb {i j : Bool} : decide (V.bl i = V.bl j) = decide (i = j) := by cases i <;> cases j <;> rfl
theorem dec_Vs {i j : PySem.Str} : decide (V.str i = V.str j) = decide (i = j) := by
  by_cases h : i = j
  · subst h; simp
  · rw [decide_eq_false h, decide_eq_false fun z => h (V.str.inj z)]
theorem ao_eqI {i j : Int} (k : R (.d (.bool (decide (i = j)))) μ) : AO K rEq (.d (.int i)) (.d (.int j)) μ R := ao_eq rfl rfl rfl (by show R (.d (.bool (decide (V.int i = V.int j)))) μ; rw [dec_V]; exact k)
theorem ao_neI {i j : Int} (k : R (.d (.bool (!decide (i = j)))) μ) : AO K rNe (.d (.int i)) (.d (.int j)) μ R := ao_ne rfl rfl rfl (by show R (.d (.bool (!decide (V.int i = V.int j)))) μ; rw [dec_V]; exact k)
theorem ao_eqB {i j : Bool} (k : R (.d (.bool (decide (i = j)))) μ) : AO K rEq (.d (.bool i)) (.d (.bool j)) μ R := ao_eq rfl rfl rfl (by show R (.d (.bool (decide (V.bl i = V.bl j)))) μ; rw [dec_Vb]; exact k)
theorem ao_neB {i j : Bool} (k : R (.d (.bool (!decide (i = j)))) μ) : AO K rNe (.d (.bool i)) (.d (.bool j)) μ R := ao_ne rfl rfl rfl (by show R (.d (.bool (!decide (V.bl i = V.bl j)))) μ; rw [dec_Vb]; exact k)
theorem ao_eqS {i j : PySem.Str} (k : R (.d (.bool (decide (i = j)))) μ) : AO K rEq (.d (.str i)) (.d (.str j)) μ R := ao_eq rfl rfl rfl (by show R (.d (.bool (decide (V.str i = V.str j)))) μ; rw [dec_Vs]; exact k)
theorem ao_neS {i j : PySem.Str} (k : R (.d (.bool (!decide (i = j)))) μ) : AO K rNe (.d (.str i)) (.d (.str j)) μ R := ao_ne rfl rfl rfl (by show R (.d (.bool (!decide (V.str i = V.str j)))) μ; rw [dec_Vs]; exact k)
/-- == and != of data -/
theorem ao_eqD {x y : W} {d e : PyData} (hx : Rs μ x d) (hy : Rs μ y e) (sd : SeqAt.shaped d = true) (se : SeqAt.shaped e = true) (k : R (.d (.bool (PyData.eqv d e))) μ) : AO K (rEqD K) x y μ R := fun A M H v u mo rv ru Q q =>
  ⟨d, e, hx.dp mo rv, hy.dp mo ru, sd, se, q M H _ _ μ mo Eff.refl (.d (.bl _)) k⟩
theorem ao_neD {x y : W} {d e : PyData} (hx : Rs μ x d) (hy : Rs μ y e) (sd : SeqAt.shaped d = true) (se : SeqAt.shaped e = true) (k : R (.d (.bool (!PyData.eqv d e))) μ) : AO K (rNeD K) x y μ R := fun A M H v u mo rv ru Q q =>
  ⟨d, e, hx.dp mo rv, hy.dp mo ru, sd, se, q M H _ _ μ mo Eff.refl (.d (.bl _)) k⟩
/-- is None -/
def isNon : W → Bool
  | .d .none => true
  | .k v => decide (v = .non)
  | _ => false
theorem vr_isN {v : V} {w : W} {Hv : Hp} {M : List Addr} (h : VR K Hv M v w) : decide (v = .non) = isNon w := by
  cases h with
  | d h => cases h <;> rfl
  | m h => rfl
  | t h1 h2 => rfl
  | f h1 h2 => rfl
  | k v => rfl
theorem ax_isN (h : AX K ta Γ μ fun x μ1 => R (.d (.bool (isNon x))) μ1) : AX K (tIsN ta) Γ μ R := fun A M σ H c Q q =>
  h A M σ H c _ fun M1 H1 v x μ1 mo1 e1 r1 h1 => by
    show Q (.bl (decide (v = .non))) H1
    rw [vr_isN r1]
    exact q M1 H1 _ _ μ1 mo1 e1 (.d (.bl _)) h1
theorem ax_notN (h : AX K ta Γ μ fun x μ1 => R (.d (.bool (!isNon x))) μ1) : AX K (tNotN ta) Γ μ R := fun A M σ H c Q q =>
  h A M σ H c _ fun M1 H1 v x μ1 mo1 e1 r1 h1 => by
    show Q (.bl (!decide (v = .non))) H1
    rw [vr_isN r1]
    exact q M1 H1 _ _ μ1 mo1 e1 (.d (.bl _)) h1
/-! tests -/
section
variable {RT : Bool → Mu → Prop}
theorem at_test (h : AX K te Γ μ fun w μ1 => ∃ b, w = .d (.bool b) ∧ RT b μ1) : AXT K (tTest te) Γ μ RT := fun A M σ H c Q q =>
  h A M σ H c _ fun M1 H1 v w μ1 mo1 e1 r1 ⟨b, hb, hR⟩ => by
    subst hb
    exact ⟨b, vr_bool r1, q M1 H1 b μ1 mo1 e1 hR⟩
theorem at_B (h : AX K te Γ μ fun w μ1 => ∃ b, w = .d (.bool b) ∧ RT b μ1) : AXT K (tB te) Γ μ RT := fun A M σ H c Q q =>
  h A M σ H c _ fun M1 H1 v w μ1 mo1 e1 r1 ⟨b, hb, hR⟩ => by
    subst hb
    exact ⟨b, vr_bool r1, q M1 H1 b μ1 mo1 e1 hR⟩
theorem at_and (h : AXT K t Γ μ fun a μ1 => if a = true then AXT K u Γ μ1 RT else RT false μ1) : AXT K (tAnd t u) Γ μ RT := fun A M σ H c Q q =>
  h A M σ H c _ fun M1 H1 a μ1 mo1 e1 h1 => by
    cases a with
    | true =>
      show u σ H1 Q
      exact h1 A M1 σ H1 (c.eff e1 mo1) Q fun M2 H2 b μ2 mo2 e2 h2 => q M2 H2 b μ2 mo2 (e1.trans e2) h2
    | false => exact q M1 H1 false μ1 mo1 e1 h1
theorem at_or (h : AXT K t Γ μ fun a μ1 => if a = true then RT true μ1 else AXT K u Γ μ1 RT) : AXT K (tOr t u) Γ μ RT := fun A M σ H c Q q =>
  h A M σ H c _ fun M1 H1 a μ1 mo1 e1 h1 => by
    cases a with
    | false =>
      show u σ H1 Q
      exact h1 A M1 σ H1 (c.eff e1 mo1) Q fun M2 H2 b μ2 mo2 e2 h2 => q M2 H2 b μ2 mo2 (e1.trans e2) h2
    | true => exact q M1 H1 true μ1 mo1 e1 h1
theorem at_not (h : AXT K t Γ μ fun a μ1 => RT (!a) μ1) : AXT K (tNot t) Γ μ RT := fun A M σ H c Q q =>
  h A M σ H c _ fun M1 H1 a μ1 mo1 e1 h1 => q M1 H1 (!a) μ1 mo1 e1 h1
theorem at_yes (h : RT true μ) : AXT K tYes Γ μ RT := fun A M σ H c Q q => q M H true μ c.mo Eff.refl h
theorem at_weak {RT' : Bool → Mu → Prop} (h : AXT K t Γ μ RT) (k : ∀ w μ', RT w μ' → RT' w μ') : AXT K t Γ μ RT' := fun A M σ H c Q q =>
  h A M σ H c Q fun M1 H1 w μ1 mo e hr => q M1 H1 w μ1 mo e (k _ _ hr)
end
theorem ax_andV (h : AX K ta Γ μ fun x μ1 => ∃ b, x = .d (.bool b) ∧ if b = true then AX K tb Γ μ1 R else R (.d (.bool false)) μ1) : AX K (tAndV ta tb) Γ μ R := fun A M σ H c Q q =>
  h A M σ H c _ fun M1 H1 v x μ1 mo1 e1 r1 ⟨b, hb, h1⟩ => by
    subst hb
    refine ⟨b, vr_bool r1, ?_⟩
    cases b with
    | true =>
      show tb σ H1 Q
      exact h1 A M1 σ H1 (c.eff e1 mo1) Q fun M2 H2 z w μ2 mo2 e2 r2 h2 => q M2 H2 z w μ2 mo2 (e1.trans e2) r2 h2
    | false => exact q M1 H1 _ _ μ1 mo1 e1 (.d (.bl false)) h1
theorem ax_orV (h : AX K ta Γ μ fun x μ1 => ∃ b, x = .d (.bool b) ∧ if b = true then R (.d (.bool true)) μ1 else AX K tb Γ μ1 R) : AX K (tOrV ta tb) Γ μ R := fun A M σ H c Q q =>
  h A M σ H c _ fun M1 H1 v x μ1 mo1 e1 r1 ⟨b, hb, h1⟩ => by
    subst hb
    refine ⟨b, vr_bool r1, ?_⟩
    cases b with
    | false =>
      show tb σ H1 Q
      exact h1 A M1 σ H1 (c.eff e1 mo1) Q fun M2 H2 z w μ2 mo2 e2 r2 h2 => q M2 H2 z w μ2 mo2 (e1.trans e2) r2 h2
    | true => exact q M1 H1 _ _ μ1 mo1 e1 (.d (.bl true)) h1
theorem ax_notV (h : AX K ta Γ μ fun x μ1 => ∃ b, x = .d (.bool b) ∧ R (.d (.bool (!b))) μ1) : AX K (tNotV ta) Γ μ R := fun A M σ H c Q q =>
  h A M σ H c _ fun M1 H1 v x μ1 mo1 e1 r1 ⟨b, hb, h1⟩ => by
    subst hb
    exact ⟨b, vr_bool r1, q M1 H1 _ _ μ1 mo1 e1 (.d (.bl _)) h1⟩
theorem ax_if (h : AXT K t Γ μ fun a μ1 => if a = true then AX K ta Γ μ1 R else AX K tb Γ μ1 R) : AX K (tIf t ta tb) Γ μ R := fun A M σ H c Q q =>
  h A M σ H c _ fun M1 H1 a μ1 mo1 e1 h1 => by
    cases a with
    | true =>
      show ta σ H1 Q
      exact h1 A M1 σ H1 (c.eff e1 mo1) Q fun M2 H2 z w μ2 mo2 e2 r2 h2 => q M2 H2 z w μ2 mo2 (e1.trans e2) r2 h2
    | false =>
      show tb σ H1 Q
      exact h1 A M1 σ H1 (c.eff e1 mo1) Q fun M2 H2 z w μ2 mo2 e2 r2 h2 => q M2 H2 z w μ2 mo2 (e1.trans e2) r2 h2
/-! arguments -/
section
variable {RA : List W → Mu → Prop} {tr : TA}
theorem aa_nil (k : RA [] μ) : AXA K tNil Γ μ RA := fun A M σ H c Q q => q M H _ _ μ c.mo Eff.refl .nil k
theorem aa_cons (h : AX K ta Γ μ fun x μ1 => AXA K tr Γ μ1 fun ws μ2 => RA (x :: ws) μ2) : AXA K (tCons ta tr) Γ μ RA := fun A M σ H c Q q =>
  h A M σ H c _ fun M1 H1 v x μ1 mo1 e1 r1 h1 => h1 A M1 σ H1 (c.eff e1 mo1) _ fun M2 H2 vs ws μ2 mo2 e2 r2 h2 =>
    q M2 H2 (v :: vs) (x :: ws) μ2 mo2 (e1.trans e2) (.cons (r1.mono e2.ex e2.pre) r2) h2
end
theorem ax_tup {tr : TA} (h : AXA K tr Γ μ fun ws μ1 => ws.length ≤ sizeLine ∧ NT ws μ1 R) : AX K (tTup tr) Γ μ R := fun A M σ H c Q q =>
  h A M σ H c _ fun M1 H1 vs ws μ1 mo1 e1 r1 ⟨hl, hn⟩ => ⟨by rw [r1.length]; exact hl, fun p hp => by
    obtain ⟨w, m2, e2, r2, hR⟩ := hn.use mo1 r1 hp
    exact q M1 _ _ w μ1 m2 (e1.trans e2) r2 hR⟩
theorem ax_lst {tr : TA} (h : AXA K tr Γ μ fun ws μ1 => ws.length ≤ sizeLine ∧ NL ws μ1 R) : AX K (tLst tr) Γ μ R := fun A M σ H c Q q =>
  h A M σ H c _ fun M1 H1 vs ws μ1 mo1 e1 r1 ⟨hl, hn⟩ => ⟨by rw [r1.length]; exact hl, fun p hp => by
    obtain ⟨M2, μ2, w, m2, e2, r2, hR⟩ := hn.use mo1 r1 hp
    exact q M2 _ _ w μ2 m2 (e1.trans e2) r2 hR⟩
theorem ax_cb {r : List V → Hp → VK → Prop} {tr : TA} (h : AXA K tr Γ μ fun ws μ1 => AC K r ws μ1 R) : AX K (tCB r tr) Γ μ R := fun A M σ H c Q q =>
  h A M σ H c _ fun M1 H1 vs ws μ1 mo1 e1 r1 h1 => h1 A M1 H1 vs mo1 r1 Q fun M3 H3 z w μ3 mo3 e3 r3 hR => q M3 H3 z w μ3 mo3 (e1.trans e3) r3 hR
/-- a method of a built-in type -/
def tyW (T : String) (μ : Mu) : W → Prop
  | .m k => T = "list" ∧ ∃ ws, μ[k]? = some (some (.lst ws))
  | .d (.list _) => T = "list"
  | .f _ => T = "list"
  | .d (.str _) => T = "str"
  | .d (.int _) => T = "int"
  | _ => False
end
end Pd

namespace Pd
open PySem L2
open Evl (Ex)
section
variable {K : PySem.W.Frag} {A : Addr → Prop} {M : List Addr} {H : Hp} {Γ : G} {μ : Mu} {R : W → Mu → Prop} {ta tb te : TE} {t u : TT} {r : R2}
theorem tyW_ok {T : String} {w : W} {v : V} (mo : MOk K A M H μ) (rv : VR K (vw A M μ H) M v w) (h : tyW T μ w) : tyV K T v H := by
  cases rv with
  | d rv =>
    cases rv with
    | non => cases h
    | bl _ => cases h
    | int _ => exact h
    | str _ => exact h
    | lst h1 h2 => exact .inl ⟨h, _, SqL.of (vw_le _ _ h1)⟩
    | tup _ _ => cases h
  | m hm =>
    obtain ⟨e, ws, hk⟩ := h
    obtain ⟨o, e2, vs, rfl, _⟩ := mo.ct _ _ _ hm hk
    exact .inl ⟨e, _, SqL.of e2⟩
  | t _ _ => cases h
  | f h1 h2 => exact .inl ⟨h, _, Evl.ex_l vw_le h1⟩
  | k v => cases h
theorem ax_bm {T : String} {rm : V → List V → Hp → VK → Prop} {tr : TA} (h : AX K ta Γ μ fun x μ1 => tyW T μ1 x ∧ AXA K tr Γ μ1 fun ws μ2 => AM K rm x ws μ2 R) : AX K (tBM K T rm ta tr) Γ μ R := fun A M σ H c Q q =>
  h A M σ H c _ fun M1 H1 v x μ1 mo1 e1 r1 ⟨ty, h1⟩ => ⟨tyW_ok mo1 r1 ty, h1 A M1 σ H1 (c.eff e1 mo1) _ fun M2 H2 vs ws μ2 mo2 e2 r2 h2 =>
    h2 A M2 H2 v vs mo2 (r1.mono e2.ex e2.pre) r2 Q fun M3 H3 z w μ3 mo3 e3 r3 hR => q M3 H3 z w μ3 mo3 ((e1.trans e2).trans e3) r3 hR⟩
theorem ax_bm0 {T : String} {rm : V → List V → Hp → VK → Prop} (h : AX K ta Γ μ fun x μ1 => tyW T μ1 x ∧ AM K rm x [] μ1 R) : AX K (tBM0 K T rm ta) Γ μ R := fun A M σ H c Q q =>
  h A M σ H c _ fun M1 H1 v x μ1 mo1 e1 r1 ⟨ty, h1⟩ => ⟨tyW_ok mo1 r1 ty, h1 A M1 H1 v [] mo1 r1 .nil Q fun M3 H3 z w μ3 mo3 e3 r3 hR => q M3 H3 z w μ3 mo3 (e1.trans e3) r3 hR⟩
/-! lists that change -/
theorem cell_get {k : Nat} {ws : List W} {v : V} (mo : MOk K A M H μ) (rv : VR K (vw A M μ H) M v (.m k)) (hk : μ[k]? = some (some (.lst ws))) : ∃ a vs, v = .ref a ∧ M[k]? = some a ∧ H a = some (.lst vs) ∧ VRs K (vw A M μ H) M vs ws := by
  cases rv with
  | m hm =>
    obtain ⟨o, e, vs, rfl, r⟩ := mo.ct _ _ _ hm hk
    exact ⟨_, vs, rfl, hm, e, r⟩
theorem am_append {k : Nat} {ws : List W} {w : W} (hk : μ[k]? = some (some (.lst ws))) (hl : ws.length < sizeLine) (q : R (.d .none) (μ.set k (some (.lst (ws ++ [w]))))) : AM K rAppend (.m k) [w] μ R := fun A M H v vs mo rv rs Q h => by
  obtain ⟨a, us, rfl, hm, e, ru⟩ := cell_get mo rv hk
  cases rs with
  | cons rw rn =>
    cases rn
    refine ⟨a, us, _, rfl, rfl, e, by rw [ru.length]; exact hl, ?_⟩
    have mo' : MOk K A M (upd H a (.lst (us ++ [_]))) (μ.set k (some (.lst (ws ++ [w])))) := mo.write hm hk ⟨_, rfl, ru.snoc rw⟩
    exact h M _ _ _ _ mo' (Eff.write mo hm hk) (.d .non) q
theorem am_pop {k : Nat} {ws : List W} {w : W} (hk : μ[k]? = some (some (.lst ws))) (hw : ws[ws.length - 1]? = some w) (q : R w (μ.set k (some (.lst ws.dropLast)))) : AM K rPop (.m k) [] μ R := fun A M H v vs mo rv rs Q h => by
  obtain ⟨a, us, rfl, hm, e, ru⟩ := cell_get mo rv hk
  cases rs
  obtain ⟨y, hy, ry⟩ := ru.getW hw
  refine ⟨a, us, y, rfl, rfl, e, by rw [ru.length]; exact hy, ?_⟩
  have mo' : MOk K A M (upd H a (.lst us.dropLast)) (μ.set k (some (.lst ws.dropLast))) := mo.write hm hk ⟨_, rfl, ru.dropLast⟩
  have e' : Eff A M μ H M (μ.set k (some (.lst ws.dropLast))) (upd H a (.lst us.dropLast)) := Eff.write mo hm hk
  exact h M _ _ _ _ mo' e' (ry.mono e'.ex e'.pre) q
theorem am_popAt {k : Nat} {ws : List W} {w : W} {i : Int} {j : Nat} (hk : μ[k]? = some (some (.lst ws))) (hi : -(2 ^ 63) ≤ i ∧ i < 2 ^ 63) (hj : seqIndex? i ws.length = some j) (hw : ws[j]? = some w) (q : R w (μ.set k (some (.lst (ws.eraseIdx j))))) : AM K rPopAt (.m k) [.d (.int i)] μ R := fun A M H v vs mo rv rs Q h => by
  obtain ⟨a, us, rfl, hm, e, ru⟩ := cell_get mo rv hk
  cases rs with
  | cons rw rn =>
    cases rn
    rw [vr_int rw]
    obtain ⟨y, hy, ry⟩ := ru.getW hw
    refine ⟨a, us, i, j, y, rfl, rfl, e, hi.1, hi.2, by rw [ru.length]; exact hj, hy, ?_⟩
    have mo' : MOk K A M (upd H a (.lst (us.eraseIdx j))) (μ.set k (some (.lst (ws.eraseIdx j)))) := mo.write hm hk ⟨_, rfl, ru.eraseIdx j⟩
    have e' : Eff A M μ H M (μ.set k (some (.lst (ws.eraseIdx j)))) (upd H a (.lst (us.eraseIdx j))) := Eff.write mo hm hk
    exact h M _ _ _ _ mo' e' (ry.mono e'.ex e'.pre) q
theorem am_extend {k : Nat} {ws zs : List W} {w : W} (hk : μ[k]? = some (some (.lst ws))) (hw : LN μ w zs) (hl : ws.length + zs.length ≤ sizeLine) (q : R (.d .none) (μ.set k (some (.lst (ws ++ zs))))) : AM K rExtend (.m k) [w] μ R := fun A M H v vs mo rv rs Q h => by
  obtain ⟨a, us, rfl, hm, e, ru⟩ := cell_get mo rv hk
  cases rs with
  | cons rw rn =>
    cases rn
    obtain ⟨b, ys, rfl, eb, rb⟩ := hw.get mo rw
    refine ⟨a, b, us, ys, rfl, rfl, e, eb, by rw [ru.length, rb.length]; exact hl, ?_⟩
    have mo' : MOk K A M (upd H a (.lst (us ++ ys))) (μ.set k (some (.lst (ws ++ zs)))) := mo.write hm hk ⟨_, rfl, ru.append rb⟩
    exact h M _ _ _ _ mo' (Eff.write mo hm hk) (.d .non) q
/-! items, slices, sums of lists -/
theorem atI_map {ws : List W} {vs : List V} {i : Int} {w : W} {Hv : Hp} (ru : VRs K Hv M vs ws) (h : atI ws i = some w) : ∃ v, atI vs i = some v ∧ VR K Hv M v w := by
  unfold atI at h ⊢
  rw [ru.length]
  cases e : ixN ws.length i with
  | none => rw [e] at h; cases h
  | some j =>
    rw [e] at h
    exact ru.getW h
theorem ao_ixL {x z : W} {ws : List W} {i : Int} (hx : LW μ x ws) (hz : atI ws i = some z) (q : R z μ) : AO K (rIxL K) x (.d (.int i)) μ R := fun A M H v u mo rv ru Q h => by
  obtain ⟨a, vs, rfl, hs, rs⟩ := hx.get mo rv
  rw [vr_int ru]
  obtain ⟨y, hy, ry⟩ := atI_map rs hz
  exact ⟨a, vs, i, y, rfl, rfl, hs, hy, h M H y z μ mo Eff.refl ry q⟩
theorem ao_ixT {x z : W} {ws : List W} {i : Int} (hx : TW x ws) (hz : atI ws i = some z) (q : R z μ) : AO K (rIxT K) x (.d (.int i)) μ R := fun A M H v u mo rv ru Q h => by
  obtain ⟨a, vs, rfl, hs, rs⟩ := hx.get rv
  rw [vr_int ru]
  obtain ⟨y, hy, ry⟩ := atI_map rs hz
  exact ⟨a, vs, i, y, rfl, rfl, Evl.ex_t vw_le hs, hy, h M H y z μ mo Eff.refl ry q⟩
theorem ao_ixS {x : PySem.Str} {i : Int} {c : Nat} (hl : x.length ≤ sizeLine) (hc : atI x.cps.toList i = some c) (q : R (.d (.str ⟨#[c]⟩)) μ) : AO K rIxS (.d (.str x)) (.d (.int i)) μ R := fun A M H v u mo rv ru Q h => by
  rw [vr_int ru, vr_str rv]
  exact ⟨x, i, c, rfl, rfl, hl, hc, h M H _ _ μ mo Eff.refl (.d (.str _)) q⟩
theorem ao_cat {x y : W} {ws zs : List W} (hx : LN μ x ws) (hy : LN μ y zs) (hl : ws.length + zs.length ≤ sizeLine) (q : NL (ws ++ zs) μ R) : AO K rCat x y μ R := fun A M H v u mo rv ru Q h => by
  obtain ⟨a, vs, rfl, ha, ra⟩ := hx.get mo rv
  obtain ⟨b, us, rfl, hb, rb⟩ := hy.get mo ru
  refine ⟨a, b, vs, us, rfl, rfl, ha, hb, by rw [ra.length, rb.length]; exact hl, fun p hp => ?_⟩
  obtain ⟨M2, μ2, w, m2, e2, r2, hR⟩ := q.use mo (ra.append rb) hp
  exact h M2 _ _ w μ2 m2 e2 r2 hR
theorem vrs_rep {vs : List V} {ws : List W} {Hv : Hp} (h : VRs K Hv M vs ws) : ∀ n : Nat, VRs K Hv M (List.replicate n vs).flatten (List.replicate n ws).flatten
  | 0 => .nil
  | n + 1 => by
    rw [List.replicate_succ, List.replicate_succ, List.flatten_cons, List.flatten_cons]
    exact h.append (vrs_rep h n)
theorem ao_rep {x : W} {ws : List W} {k : Int} (hx : LN μ x ws) (hk : -(2 ^ 63) ≤ k ∧ k < 2 ^ 63) (hl : ws.length * k.toNat ≤ sizeLine) (q : NL (List.replicate k.toNat ws).flatten μ R) : AO K rRep x (.d (.int k)) μ R := fun A M H v u mo rv ru Q h => by
  obtain ⟨a, vs, rfl, ha, ra⟩ := hx.get mo rv
  rw [vr_int ru]
  refine ⟨a, k, vs, rfl, rfl, ha, hk.1, hk.2, by rw [ra.length]; exact hl, fun p hp => ?_⟩
  obtain ⟨M2, μ2, w, m2, e2, r2, hR⟩ := q.use mo (vrs_rep ra k.toNat) hp
  exact h M2 _ _ w μ2 m2 e2 r2 hR
def cutW (xs : List W) (lo hi : Option Int) : List W := (xs.drop (HT.sIx xs.length 0 lo)).take (HT.sIx xs.length xs.length hi - HT.sIx xs.length 0 lo)
theorem vrs_cut {vs : List V} {ws : List W} {Hv : Hp} (h : VRs K Hv M vs ws) (lo hi : Option Int) : VRs K Hv M (cutV vs lo hi) (cutW ws lo hi) := by
  unfold cutV cutW
  rw [h.length]
  exact (h.drop _).take _
section
variable {RO : Option Int → Mu → Prop}
theorem xo_no (q : RO none μ) : AXO K tNoPart Γ μ RO := fun A M σ H c Q h => h M H none μ c.mo Eff.refl q
theorem xo_some (h : AX K te Γ μ fun w μ1 => ∃ i, w = .d (.int i) ∧ RO (some i) μ1) : AXO K (tPart te) Γ μ RO := fun A M σ H c Q q =>
  h A M σ H c _ fun M1 H1 v w μ1 mo1 e1 r1 ⟨i, hi, hR⟩ => by
    subst hi
    exact ⟨i, vr_int r1, q M1 H1 (some i) μ1 mo1 e1 hR⟩
end
def ASl (K : PySem.W.Frag) (r : V → Option Int → Option Int → Hp → VK → Prop) (x : W) (lo hi : Option Int) (μ : Mu) (R : W → Mu → Prop) : Prop := AU K (fun v H Q => r v lo hi H Q) x μ R
theorem ax_sl {r : V → Option Int → Option Int → Hp → VK → Prop} {tl th : TO} (h : AX K te Γ μ fun x μ1 => AXO K tl Γ μ1 fun lo μ2 => AXO K th Γ μ2 fun hi μ3 => ASl K r x lo hi μ3 R) : AX K (tSl r te tl th) Γ μ R := fun A M σ H c Q q =>
  h A M σ H c _ fun M1 H1 v x μ1 mo1 e1 r1 h1 => h1 A M1 σ H1 (c.eff e1 mo1) _ fun M2 H2 lo μ2 mo2 e2 h2 => h2 A M2 σ H2 (c.eff (e1.trans e2) mo2) _ fun M3 H3 hi μ3 mo3 e3 h3 =>
    h3 A M3 H3 v mo3 (r1.mono (e2.trans e3).ex (e2.trans e3).pre) Q fun M4 H4 z w μ4 mo4 e4 r4 hR => q M4 H4 z w μ4 mo4 (((e1.trans e2).trans e3).trans e4) r4 hR
theorem as_slL {x : W} {ws : List W} {lo hi : Option Int} (hx : LW μ x ws) (q : NL (cutW ws lo hi) μ R) : ASl K (rSlL K) x lo hi μ R := fun A M H v mo rv Q h => by
  obtain ⟨a, vs, rfl, hs, rs⟩ := hx.get mo rv
  refine ⟨a, vs, rfl, hs, fun p hp => ?_⟩
  obtain ⟨M2, μ2, w, m2, e2, r2, hR⟩ := q.use mo (vrs_cut rs lo hi) hp
  exact h M2 _ _ w μ2 m2 e2 r2 hR
theorem as_slS {x : PySem.Str} {lo hi : Option Int} (hl : x.length ≤ sizeLine) (q : R (.d (.str (cutS x lo hi))) μ) : ASl K rSlS (.d (.str x)) lo hi μ R := fun A M H v mo rv Q h => by
  rw [vr_str rv]
  exact ⟨x, rfl, hl, h M H _ _ μ mo Eff.refl (.d (.str _)) q⟩
theorem ax_revL (h : AX K te Γ μ fun x μ1 => ∃ ws, LW μ1 x ws ∧ NL ws.reverse μ1 R) : AX K (tRevL K te) Γ μ R := fun A M σ H c Q q =>
  h A M σ H c _ fun M1 H1 v x μ1 mo1 e1 r1 ⟨ws, hx, hn⟩ => by
    obtain ⟨a, vs, rfl, hs, rs⟩ := hx.get mo1 r1
    refine ⟨a, vs, rfl, hs, fun p hp => ?_⟩
    obtain ⟨M2, μ2, w, m2, e2, r2, hR⟩ := hn.use mo1 rs.reverse hp
    exact q M2 _ _ w μ2 m2 (e1.trans e2) r2 hR
/-! built-ins by values -/
/-- a reading that wants a list's address and items -/
theorem ac_len {x : W} {ws : List W} (hx : LW μ x ws) (q : R (.d (.int ws.length)) μ) : AC K (fun xs H Q => ∃ p ys, xs = [.ref p] ∧ (SqL K H p ys ∨ SqT K H p ys) ∧ Q (.int ys.length) H) [x] μ R := fun A M H vs mo rs Q h => by
  cases rs with
  | cons rw rn =>
    cases rn
    obtain ⟨a, us, rfl, hs, ru⟩ := hx.get mo rw
    refine ⟨a, us, rfl, .inl hs, ?_⟩
    rw [ru.length]
    exact h M H _ _ μ mo Eff.refl (.d (.int _)) q
theorem ac_lenT {x : W} {ws : List W} (hx : TW x ws) (q : R (.d (.int ws.length)) μ) : AC K (fun xs H Q => ∃ p ys, xs = [.ref p] ∧ (SqL K H p ys ∨ SqT K H p ys) ∧ Q (.int ys.length) H) [x] μ R := fun A M H vs mo rs Q h => by
  cases rs with
  | cons rw rn =>
    cases rn
    obtain ⟨a, us, rfl, hs, ru⟩ := hx.get rw
    refine ⟨a, us, rfl, .inr (Evl.ex_t vw_le hs), ?_⟩
    rw [ru.length]
    exact h M H _ _ μ mo Eff.refl (.d (.int _)) q
theorem ac_list {x : W} {ws : List W} (hx : LW μ x ws) (q : NL ws μ R) : AC K (fun xs H Q => ∃ p ys, xs = [.ref p] ∧ (SqL K H p ys ∨ SqT K H p ys) ∧ ∀ l, H l = none → Q (.ref l) (upd H l (.lst ys))) [x] μ R := fun A M H vs mo rs Q h => by
  cases rs with
  | cons rw rn =>
    cases rn
    obtain ⟨a, us, rfl, hs, ru⟩ := hx.get mo rw
    refine ⟨a, us, rfl, .inl hs, fun p hp => ?_⟩
    obtain ⟨M2, μ2, w, m2, e2, r2, hR⟩ := q.use mo ru hp
    exact h M2 _ _ w μ2 m2 e2 r2 hR
theorem ac_listT {x : W} {ws : List W} (hx : TW x ws) (q : NL ws μ R) : AC K (fun xs H Q => ∃ p ys, xs = [.ref p] ∧ (SqL K H p ys ∨ SqT K H p ys) ∧ ∀ l, H l = none → Q (.ref l) (upd H l (.lst ys))) [x] μ R := fun A M H vs mo rs Q h => by
  cases rs with
  | cons rw rn =>
    cases rn
    obtain ⟨a, us, rfl, hs, ru⟩ := hx.get rw
    refine ⟨a, us, rfl, .inr (Evl.ex_t vw_le hs), fun p hp => ?_⟩
    obtain ⟨M2, μ2, w, m2, e2, r2, hR⟩ := q.use mo (ru) hp
    exact h M2 _ _ w μ2 m2 e2 r2 hR
theorem ac_tupleL {x : W} {ws : List W} (hx : LW μ x ws) (q : NT ws μ R) : AC K (fun xs H Q => ∃ p ys, xs = [.ref p] ∧ ((SqL K H p ys ∧ ∀ l, H l = none → Q (.ref l) (upd H l (.tup ys))) ∨ (SqT K H p ys ∧ Q (.ref p) H))) [x] μ R := fun A M H vs mo rs Q h => by
  cases rs with
  | cons rw rn =>
    cases rn
    obtain ⟨a, us, rfl, hs, ru⟩ := hx.get mo rw
    refine ⟨a, us, rfl, .inl ⟨hs, fun p hp => ?_⟩⟩
    obtain ⟨w, m2, e2, r2, hR⟩ := q.use mo ru hp
    exact h M _ _ w μ m2 e2 r2 hR
theorem ac_1 {g : Int → Int} {i : Int} (q : R (.d (.int (g i))) μ) : AC K (fun xs H Q => ∃ i, xs = [.int i] ∧ Q (.int (g i)) H) [.d (.int i)] μ R := fun A M H vs mo rs Q h => by
  cases rs with
  | cons rw rn =>
    cases rn
    exact ⟨i, by rw [vr_int rw], h M H _ _ μ mo Eff.refl (.d (.int _)) q⟩
theorem ac_2 {g : Int → Int → Int} {i j : Int} (q : R (.d (.int (g i j))) μ) : AC K (fun xs H Q => ∃ i j, xs = [.int i, .int j] ∧ Q (.int (g i j)) H) [.d (.int i), .d (.int j)] μ R := fun A M H vs mo rs Q h => by
  cases rs with
  | cons rw rn =>
    cases rn with
    | cons rw2 rn =>
      cases rn
      exact ⟨i, j, by rw [vr_int rw, vr_int rw2], h M H _ _ μ mo Eff.refl (.d (.int _)) q⟩
theorem ac_int {i : Int} (q : R (.d (.int i)) μ) : AC K (fun xs H Q => (∃ i, xs = [.int i] ∧ Q (.int i) H) ∨ ∃ k, xs = [.bl k] ∧ Q (.int (if k then 1 else 0)) H) [.d (.int i)] μ R := fun A M H vs mo rs Q h => by
  cases rs with
  | cons rw rn =>
    cases rn
    exact .inl ⟨i, by rw [vr_int rw], h M H _ _ μ mo Eff.refl (.d (.int _)) q⟩
theorem ac_intB {i : Bool} (q : R (.d (.int (if i then 1 else 0))) μ) : AC K (fun xs H Q => (∃ i, xs = [.int i] ∧ Q (.int i) H) ∨ ∃ k, xs = [.bl k] ∧ Q (.int (if k then 1 else 0)) H) [.d (.bool i)] μ R := fun A M H vs mo rs Q h => by
  cases rs with
  | cons rw rn =>
    cases rn
    exact .inr ⟨i, by rw [vr_bool rw], h M H _ _ μ mo Eff.refl (.d (.int _)) q⟩
theorem ac_sum {x : W} {ns : List Int} (hx : LW μ x (ns.map fun n => W.d (.int n))) (q : R (.d (.int ns.sum)) μ) : AC K (rSum K) [x] μ R := fun A M H vs mo rs Q h => by
  cases rs with
  | cons rw rn =>
    cases rn
    obtain ⟨a, us, rfl, hs, ru⟩ := hx.get mo rw
    rw [vrs_int ru] at hs
    exact ⟨a, ns, rfl, hs, h M H _ _ μ mo Eff.refl (.d (.int _)) q⟩
theorem ac_max {x : W} {ns : List Int} (hx : LW μ x (ns.map fun n => W.d (.int n))) (h0 : 0 < ns.length) (q : ∀ m, m ∈ ns → (∀ y, y ∈ ns → y ≤ m) → R (.d (.int m)) μ) : AC K (rMax K) [x] μ R := fun A M H vs mo rs Q h => by
  cases rs with
  | cons rw rn =>
    cases rn
    obtain ⟨a, us, rfl, hs, ru⟩ := hx.get mo rw
    rw [vrs_int ru] at hs
    exact ⟨a, ns, rfl, hs, h0, fun m m1 m2 => h M H _ _ μ mo Eff.refl (.d (.int _)) (q m m1 m2)⟩
theorem ac_min {x : W} {ns : List Int} (hx : LW μ x (ns.map fun n => W.d (.int n))) (h0 : 0 < ns.length) (q : ∀ m, m ∈ ns → (∀ y, y ∈ ns → m ≤ y) → R (.d (.int m)) μ) : AC K (rMin K) [x] μ R := fun A M H vs mo rs Q h => by
  cases rs with
  | cons rw rn =>
    cases rn
    obtain ⟨a, us, rfl, hs, ru⟩ := hx.get mo rw
    rw [vrs_int ru] at hs
    exact ⟨a, ns, rfl, hs, h0, fun m m1 m2 => h M H _ _ μ mo Eff.refl (.d (.int _)) (q m m1 m2)⟩
theorem ac_all {x : W} {bs : List Bool} (hx : LW μ x (bs.map fun n => W.d (.bool n))) (q : R (.d (.bool (bs.all id))) μ) : AC K (rAll K) [x] μ R := fun A M H vs mo rs Q h => by
  cases rs with
  | cons rw rn =>
    cases rn
    obtain ⟨a, us, rfl, hs, ru⟩ := hx.get mo rw
    rw [vrs_bool ru] at hs
    exact ⟨a, bs, rfl, hs, h M H _ _ μ mo Eff.refl (.d (.bl _)) q⟩
end
/-! ### targets, statements -/
section
variable {K : PySem.W.Frag} {A : Addr → Prop} {M M' : List Addr} {H H' : Hp} {Γ : G} {μ μ' : Mu} {ta te tl : TE} {c : TT} {t u tb : TS} {g : TG} {D : AEn}
theorem ag_name {i : Nat} {w : W} {R : G → Mu → Prop} (q : R (Γ.set i (some w)) μ) : AG K (gName i) w Γ μ R := fun A M σ H v c rv Q h => h M _ H _ μ ⟨c.mo, c.gr.set rv⟩ Eff.refl q
theorem ags_nil {R : G → Mu → Prop} (q : R Γ μ) : AGs K gNil [] Γ μ R := fun A M σ H vs c rs Q h => by
  cases rs
  exact ⟨rfl, h M σ H Γ μ c Eff.refl q⟩
theorem ags_cons {g : TG} {gs : TGs} {w : W} {ws : List W} {R : G → Mu → Prop} (h : AG K g w Γ μ fun Γ1 μ1 => AGs K gs ws Γ1 μ1 R) : AGs K (gCons g gs) (w :: ws) Γ μ R := fun A M σ H vs c rs Q q => by
  cases rs with
  | cons r1 r2 =>
    refine ⟨_, _, rfl, h A M σ H _ c r1 _ fun M1 σ1 H1 Γ1 μ1 c1 e1 h1 => ?_⟩
    exact h1 A M1 σ1 H1 _ c1 (r2.mono e1.ex e1.pre) Q fun M2 σ2 H2 Γ2 μ2 c2 e2 h2 => q M2 σ2 H2 Γ2 μ2 c2 (e1.trans e2) h2
theorem ag_tup {gs : TGs} {n : Nat} {w : W} {ws : List W} {R : G → Mu → Prop} (hw : TW w ws) (hn : ws.length = n) (h : AGs K gs ws Γ μ R) : AG K (gTup K n gs) w Γ μ R := fun A M σ H v c rv Q q => by
  obtain ⟨a, vs, rfl, hs, rs⟩ := hw.get rv
  exact ⟨a, vs, rfl, Evl.ex_t vw_le hs, by rw [rs.length]; exact hn, h A M σ H vs c rs Q q⟩
theorem as_asg (h : AX K te Γ μ fun w μ1 => AG K g w Γ μ1 D.nx) : AS K (tAsg te g) D Γ μ := fun A M σ H cn E hd =>
  h A M σ H cn _ fun M1 H1 v w μ1 mo1 e1 r1 h1 => h1 A M1 σ H1 v (cn.eff e1 mo1) r1 _ fun M2 σ2 H2 Γ2 μ2 c2 e2 h2 => hd.nx M2 σ2 H2 Γ2 μ2 c2 (e1.trans e2) h2
theorem as_par {i j : Nat} {tr : TA} (h : AXA K tr Γ μ fun ws μ1 => ∃ x y, ws = [x, y] ∧ D.nx ((Γ.set i (some x)).set j (some y)) μ1) : AS K (tPar i j tr) D Γ μ := fun A M σ H cn E hd =>
  h A M σ H cn _ fun M1 H1 vs ws μ1 mo1 e1 r1 ⟨x, y, hw, h1⟩ => by
    subst hw
    cases r1 with
    | cons ra r2 =>
      cases r2 with
      | cons rb r3 =>
        cases r3
        exact ⟨_, _, rfl, hd.nx M1 _ H1 _ μ1 ⟨mo1, ((cn.gr.mono e1.ex e1.pre).set ra).set rb⟩ e1 h1⟩
theorem as_par3 {i j l : Nat} {tr : TA} (h : AXA K tr Γ μ fun ws μ1 => ∃ x y z, ws = [x, y, z] ∧ D.nx (((Γ.set i (some x)).set j (some y)).set l (some z)) μ1) : AS K (tPar3 i j l tr) D Γ μ := fun A M σ H cn E hd =>
  h A M σ H cn _ fun M1 H1 vs ws μ1 mo1 e1 r1 ⟨x, y, z, hw, h1⟩ => by
    subst hw
    cases r1 with
    | cons ra r2 =>
      cases r2 with
      | cons rb r3 =>
        cases r3 with
        | cons rc r4 =>
          cases r4
          exact ⟨_, _, _, rfl, hd.nx M1 _ H1 _ μ1 ⟨mo1, (((cn.gr.mono e1.ex e1.pre).set ra).set rb).set rc⟩ e1 h1⟩
theorem as_seq (h : AS K t { D with nx := fun Γ1 μ1 => AS K u D Γ1 μ1 } Γ μ) : AS K (tSeq t u) D Γ μ := fun A M σ H cn E hd =>
  h A M σ H cn { E with nx := u E } ⟨fun M1 σ1 H1 Γ1 μ1 c1 e1 h1 => h1 A M1 σ1 H1 c1 E (hd.after e1), hd.rt, hd.bk, hd.ct, hd.xx⟩
theorem as_next (h : D.nx Γ μ) : AS K tNext D Γ μ := fun A M σ H cn E hd => hd.nx M σ H Γ μ cn Eff.refl h
theorem as_break (h : D.bk Γ μ) : AS K tBreak D Γ μ := fun A M σ H cn E hd => hd.bk M σ H Γ μ cn Eff.refl h
theorem as_cont (h : D.ct Γ μ) : AS K tCont D Γ μ := fun A M σ H cn E hd => hd.ct M σ H Γ μ cn Eff.refl h
theorem as_drop (h : AX K te Γ μ fun _ μ1 => D.nx Γ μ1) : AS K (tDrop te) D Γ μ := fun A M σ H cn E hd =>
  h A M σ H cn _ fun M1 H1 v w μ1 mo1 e1 r1 h1 => hd.nx M1 σ H1 Γ μ1 (cn.eff e1 mo1) e1 h1
theorem as_ret (h : AX K te Γ μ D.rt) : AS K (tRet te) D Γ μ := fun A M σ H cn E hd => h A M σ H cn _ fun M1 H1 v w μ1 mo1 e1 r1 h1 => hd.rt M1 H1 v w μ1 mo1 e1 r1 h1
theorem as_retN (h : D.rt (.d .none) μ) : AS K tRetN D Γ μ := fun A M σ H cn E hd => hd.rt M H _ _ μ cn.mo Eff.refl (.d .non) h
theorem as_if (h : AXT K c Γ μ fun b μ1 => if b = true then AS K t D Γ μ1 else AS K u D Γ μ1) : AS K (tIfS c t u) D Γ μ := fun A M σ H cn E hd =>
  h A M σ H cn _ fun M1 H1 b μ1 mo1 e1 h1 => by
    cases b with
    | true => exact h1 A M1 σ H1 (cn.eff e1 mo1) E (hd.after e1)
    | false => exact h1 A M1 σ H1 (cn.eff e1 mo1) E (hd.after e1)
theorem as_aug {i : Nat} {x : W} {f : Int → Int → Int} {a : Int} (hx : Γ[i]? = some (some (.d (.int a)))) (h : AX K te Γ μ fun w μ1 => ∃ b, w = .d (.int b) ∧ D.nx (Γ.set i (some (.d (.int (f a b))))) μ1) : AS K (tAug i te (ipI f)) D Γ μ := fun A M σ H cn E hd => by
  obtain ⟨v, e, r⟩ := cn.gr.2 i _ hx
  refine ⟨v, e, h A M σ H cn _ fun M1 H1 u w μ1 mo1 e1 r1 ⟨b, hw, h1⟩ => ?_⟩
  subst hw
  exact ⟨a, b, vr_int r, vr_int r1, hd.nx M1 _ H1 _ μ1 ⟨mo1, (cn.gr.mono e1.ex e1.pre).set (.d (.int _))⟩ e1 h1⟩
/-- an operator's rule as an in-place one -/
theorem as_augR {i : Nat} {x : W} {r : R2} (hx : Γ[i]? = some (some x)) (h : AX K te Γ μ fun w μ1 => AO K r x w μ1 fun z μ2 => D.nx (Γ.set i (some z)) μ2) : AS K (tAug i te r) D Γ μ := fun A M σ H cn E hd => by
  obtain ⟨v, e, rx⟩ := cn.gr.2 i _ hx
  refine ⟨v, e, h A M σ H cn _ fun M1 H1 u w μ1 mo1 e1 r1 h1 => ?_⟩
  exact h1 A M1 H1 v u mo1 (rx.mono e1.ex e1.pre) r1 _ fun M2 H2 z w2 μ2 mo2 e2 r2 h2 => hd.nx M2 _ H2 _ μ2 ⟨mo2, (cn.gr.mono (e1.trans e2).ex (e1.trans e2).pre).set r2⟩ (e1.trans e2) h2
/-- xs[i] = e -/
def ASet (K : PySem.W.Frag) (ts : TSet) (o i w : W) (μ : Mu) (R : Mu → Prop) : Prop := ∀ (A : Addr → Prop) (M : List Addr) (H : Hp) (x y v : V), MOk K A M H μ → VR K (vw A M μ H) M x o → VR K (vw A M μ H) M y i → VR K (vw A M μ H) M v w → ∀ Q : Hp → Prop,
  (∀ M' H' μ', MOk K A M' H' μ' → Eff A M μ H M' μ' H' → R μ' → Q H') → ts x y v H Q
theorem ag_sub {to ti : TE} {ts : TSet} {w : W} {R : G → Mu → Prop} (h : AX K to Γ μ fun o μ1 => AX K ti Γ μ1 fun i μ2 => ASet K ts o i w μ2 fun μ3 => R Γ μ3) : AG K (gSub to ti ts) w Γ μ R := fun A M σ H v cn rv Q q =>
  h A M σ H cn _ fun M1 H1 x o μ1 mo1 e1 r1 h1 => h1 A M1 σ H1 (cn.eff e1 mo1) _ fun M2 H2 y i μ2 mo2 e2 r2 h2 =>
    h2 A M2 H2 x y v mo2 (r1.mono e2.ex e2.pre) r2 (rv.mono (e1.trans e2).ex (e1.trans e2).pre) _ fun M3 H3 μ3 mo3 e3 h3 => q M3 σ H3 Γ μ3 (cn.eff ((e1.trans e2).trans e3) mo3) ((e1.trans e2).trans e3) h3
theorem aset_L {k j : Nat} {ws : List W} {i : Int} {w : W} {R : Mu → Prop} (hk : μ[k]? = some (some (.lst ws))) (hj : ixN ws.length i = some j) (q : R (μ.set k (some (.lst (ws.set j w))))) : ASet K rSetL (.m k) (.d (.int i)) w μ R := fun A M H x y v mo rx ry rv Q h => by
  obtain ⟨a, us, rfl, hm, e, ru⟩ := cell_get mo rx hk
  rw [vr_int ry]
  refine ⟨a, us, i, j, rfl, rfl, e, by rw [ru.length]; exact hj, ?_⟩
  have mo' : MOk K A M (upd H a (.lst (us.set j v))) (μ.set k (some (.lst (ws.set j w)))) := mo.write hm hk ⟨_, rfl, VRs.set rv j ru⟩
  exact h M _ _ mo' (Eff.write mo hm hk) q
end
end Pd

namespace Pd
open PySem L2
open Evl (Ex)
/-! ### what is walked -/
def ItOk (K : PySem.W.Frag) (J : It) (Hv : Hp) (M1 : List Addr) (items : List W) (S : Mu → Prop) : Prop := ∀ (A' : Addr → Prop) (M' : List Addr) (H' : Hp) (μ' : Mu), MOk K A' M' H' μ' → Ex Hv (vw A' M' μ' H') → Pre M1 M' → S μ' → ∀ i,
  (∀ w, items[i]? = some w → J.go i H' ∧ ∀ x H2, J.yld i H' x H2 → Ex H' H2 ∧ VR K (vw A' M' μ' H2) M' x w) ∧ (items[i]? = none → J.stop i H')
def AI (K : PySem.W.Frag) (wi : TI) (Γ : G) (μ : Mu) (R : List W → (Mu → Prop) → Mu → Prop) : Prop := ∀ (A : Addr → Prop) (M : List Addr) (σ : L2.St) (H : Hp), Cn K A M σ H Γ μ → ∀ Q : It → Hp → Prop,
  (∀ M' H' J items S μ', MOk K A M' H' μ' → Eff A M μ H M' μ' H' → ItOk K J (vw A M' μ' H') M' items S → R items S μ' → Q J H') → wi σ H Q
section
variable {K : PySem.W.Frag} {Γ : G} {μ : Mu} {tl te : TE} {ta : TA} {R : List W → (Mu → Prop) → Mu → Prop}
theorem ai_list (h : AX K tl Γ μ fun w μ1 => ∃ ws, LW μ1 w ws ∧ R ws (fun μ' => LW μ' w ws) μ1) : AI K (iList K tl) Γ μ R := fun A M σ H c Q q =>
  h A M σ H c _ fun M1 H1 v w μ1 mo1 e1 r1 ⟨ws, hl, hR⟩ => by
    obtain ⟨a, vs, rfl, hs, rs⟩ := hl.get mo1 r1
    refine ⟨a, rfl, ⟨vs, hs⟩, q M1 H1 _ ws _ μ1 mo1 e1 (fun A' M' H' μ' mo' ex pr hS i => ?_) hR⟩
    obtain ⟨a2, us, ea, hu, ru⟩ := LW.get mo' (r1.mono ex pr) hS
    cases ea
    refine ⟨fun w' hw => ?_, fun hn => ⟨us, hu, ?_⟩⟩
    · obtain ⟨y, hy, ry⟩ := ru.getW hw
      refine ⟨⟨us, y, hu, hy⟩, fun x H2 hx => ?_⟩
      obtain ⟨rfl, hx⟩ := hx
      have : y = x := Option.some.inj (hy.symm.trans (hx us hu))
      subst this
      exact ⟨Ex.refl _, ry⟩
    · rw [ru.length]
      exact List.getElem?_eq_none_iff.mp hn
theorem ai_tup (h : AX K tl Γ μ fun w μ1 => ∃ ws, TW w ws ∧ R ws (fun _ => True) μ1) : AI K (iTup K tl) Γ μ R := fun A M σ H c Q q =>
  h A M σ H c _ fun M1 H1 v w μ1 mo1 e1 r1 ⟨ws, hl, hR⟩ => by
    obtain ⟨a, vs, rfl, hs, rs⟩ := hl.get r1
    refine ⟨a, rfl, ⟨vs, Evl.ex_t vw_le hs⟩, q M1 H1 _ ws _ μ1 mo1 e1 (fun A' M' H' μ' mo' ex pr hS i => ?_) hR⟩
    have hu : SqT K H' a vs := Evl.ex_t vw_le (Evl.ex_t ex hs)
    have ru := rs.mono ex pr
    refine ⟨fun w' hw => ?_, fun hn => ⟨vs, hu, ?_⟩⟩
    · obtain ⟨y, hy, ry⟩ := ru.getW hw
      refine ⟨⟨vs, y, hu, hy⟩, fun x H2 hx => ?_⟩
      obtain ⟨rfl, hx⟩ := hx
      have : y = x := Option.some.inj (hy.symm.trans (hx vs hu))
      subst this
      exact ⟨Ex.refl _, ry⟩
    · rw [ru.length]
      exact List.getElem?_eq_none_iff.mp hn
theorem it_rng (lo : Int) (n : Nat) (Hv : Hp) (M1 : List Addr) : ItOk K (Itr lo n) Hv M1 ((List.range n).map fun (i : Nat) => W.d (.int (lo + i))) (fun _ => True) := fun A' M' H' μ' mo' ex pr hS i => by
  by_cases hi : i < n
  · have e : ((List.range n).map fun (i : Nat) => W.d (.int (lo + i)))[i]? = some (W.d (.int (lo + i))) := by
      rw [List.getElem?_map, List.getElem?_range hi]
      rfl
    refine ⟨fun w hw => ⟨hi, fun x H2 hx => ?_⟩, fun hn => by rw [e] at hn; cases hn⟩
    obtain ⟨rfl, rfl⟩ := hx
    rw [e] at hw
    cases hw
    exact ⟨Ex.refl _, .d (.int _)⟩
  · have e : ((List.range n).map fun (i : Nat) => W.d (.int (lo + i)))[i]? = none := by
      rw [List.getElem?_map, List.getElem?_eq_none_iff.mpr (by rw [List.length_range]; omega)]
      rfl
    exact ⟨fun w hw => (by rw [e] at hw; cases hw), fun _ => Nat.le_of_not_lt hi⟩
theorem ai_rng1 (h : AXA K ta Γ μ fun ws μ1 => ∃ j : Int, ws = [.d (.int j)] ∧ (-(2 ^ 62) ≤ j ∧ j < 2 ^ 62) ∧ R ((List.range j.toNat).map fun (i : Nat) => W.d (.int (0 + i))) (fun _ => True) μ1) : AI K (iRng1 ta) Γ μ R := fun A M σ H c Q q =>
  h A M σ H c _ fun M1 H1 vs ws μ1 mo1 e1 r1 ⟨j, hj, ⟨b1, b2⟩, hR⟩ => by
    subst hj
    cases r1 with
    | cons ra rn =>
      cases rn
      exact ⟨j, by rw [vr_int ra], b1, b2, q M1 H1 _ _ _ μ1 mo1 e1 (it_rng 0 j.toNat _ _) hR⟩
theorem ai_rng2 (h : AXA K ta Γ μ fun ws μ1 => ∃ i j : Int, ws = [.d (.int i), .d (.int j)] ∧ (-(2 ^ 62) ≤ i ∧ i < 2 ^ 62 ∧ -(2 ^ 62) ≤ j ∧ j < 2 ^ 62) ∧ R ((List.range (j - i).toNat).map fun (k : Nat) => W.d (.int (i + k))) (fun _ => True) μ1) : AI K (iRng2 ta) Γ μ R := fun A M σ H c Q q =>
  h A M σ H c _ fun M1 H1 vs ws μ1 mo1 e1 r1 ⟨i, j, hj, b, hR⟩ => by
    subst hj
    cases r1 with
    | cons ra rn =>
      cases rn with
      | cons rb rn =>
        cases rn
        exact ⟨i, j, by rw [vr_int ra, vr_int rb], b, q M1 H1 _ _ _ μ1 mo1 e1 (it_rng i (j - i).toNat _ _) hR⟩
theorem ai_str (h : AX K te Γ μ fun w μ1 => ∃ x : PySem.Str, w = .d (.str x) ∧ R (x.cps.toList.map fun c => W.d (.str ⟨#[c]⟩)) (fun _ => True) μ1) : AI K (iStr te) Γ μ R := fun A M σ H c Q q =>
  h A M σ H c _ fun M1 H1 v w μ1 mo1 e1 r1 ⟨x, hx, hR⟩ => by
    subst hx
    refine ⟨x, vr_str r1, q M1 H1 _ _ _ μ1 mo1 e1 (fun A' M' H' μ' mo' ex pr hS i => ?_) hR⟩
    have hz : x.cps.toList[i]? = x.cps[i]? := by simp
    refine ⟨fun w hw => ?_, fun hn => ?_⟩
    · rw [List.getElem?_map, hz] at hw
      cases hc : x.cps[i]? with
      | none => rw [hc] at hw; cases hw
      | some cc =>
        rw [hc] at hw
        cases hw
        refine ⟨(Array.getElem?_eq_some_iff.mp hc).1, fun y H2 hy => ?_⟩
        obtain ⟨rfl, c2, h2, rfl⟩ := hy
        rw [hc] at h2
        cases h2
        exact ⟨Ex.refl _, .d (.str _)⟩
    · rw [List.getElem?_map, hz] at hn
      have : x.cps[i]? = none := by
        cases hc : x.cps[i]? with
        | none => rfl
        | some cc => rw [hc] at hn; cases hn
      exact Array.getElem?_eq_none_iff.mp this
/-- a pair that was made on the way -/
def pairW : W → W → W
  | .d x, .d y => .d (.tuple [x, y])
  | a, b => .t [a, b]
theorem vr_pair {A : Addr → Prop} {M : List Addr} {H : Hp} {T : Addr} {x y : V} {a b : W} (mo : MOk K A M H μ) (hT : H T = none) (rx : VR K (vw A M μ H) M x a) (ry : VR K (vw A M μ H) M y b) : VR K (vw A M μ (upd H T (.tup [x, y]))) M (.ref T) (pairW a b) := by
  have hs : SqT K (vw A M μ (upd H T (.tup [x, y]))) T [x, y] := SqT.of (vw_of (mo.ne_hid hT) upd_same)
  have ex : Ex (vw A M μ H) (vw A M μ (upd H T (.tup [x, y]))) := vw_ex (Ex.new hT)
  have g : VRs K (vw A M μ (upd H T (.tup [x, y]))) M [x, y] [a, b] := .cons (rx.mono ex (Pre.refl _)) (.cons (ry.mono ex (Pre.refl _)) .nil)
  cases a with
  | d a =>
    cases b with
    | d b => exact .d (.tup hs (VRs.dp (ds := [a, b]) g))
    | m _ => exact .t hs g
    | t _ => exact .t hs g
    | f _ => exact .t hs g
    | k _ => exact .t hs g
  | m _ => exact .t hs g
  | t _ => exact .t hs g
  | f _ => exact .t hs g
  | k _ => exact .t hs g
theorem tw_pair (a b : W) : TW (pairW a b) [a, b] := by
  cases a with
  | d a =>
    cases b with
    | d b => exact .d [a, b]
    | m _ => exact .t _
    | t _ => exact .t _
    | f _ => exact .t _
    | k _ => exact .t _
  | m _ => exact .t _
  | t _ => exact .t _
  | f _ => exact .t _
  | k _ => exact .t _
theorem ai_enum (h : AXA K ta Γ μ fun ws μ1 => ∃ w zs, ws = [w] ∧ LW μ1 w zs ∧ R (zs.mapIdx fun i z => pairW (.d (.int (i : Nat))) z) (fun μ' => LW μ' w zs) μ1) : AI K (iEnum K ta) Γ μ R := fun A M σ H c Q q =>
  h A M σ H c _ fun M1 H1 vs ws μ1 mo1 e1 r1 ⟨w, zs, hw, hl, hR⟩ => by
    subst hw
    cases r1 with
    | cons ra rn =>
      cases rn
      obtain ⟨a, us, rfl, hs, rs⟩ := hl.get mo1 ra
      refine ⟨a, us, rfl, hs, q M1 H1 _ _ _ μ1 mo1 e1 (fun A' M' H' μ' mo' ex pr hS i => ?_) hR⟩
      obtain ⟨a2, us2, ea, hu, ru⟩ := LW.get mo' (ra.mono ex pr) hS
      cases ea
      refine ⟨fun w' hw => ?_, fun hn => ⟨us2, hu, ?_⟩⟩
      · rw [List.getElem?_mapIdx] at hw
        cases hz : zs[i]? with
        | none => rw [hz] at hw; cases hw
        | some z =>
          rw [hz] at hw
          cases hw
          obtain ⟨y, hy, ry⟩ := ru.getW hz
          refine ⟨⟨us2, y, hu, hy⟩, fun x H2 hx => ?_⟩
          obtain ⟨T, x2, rfl, hT, rfl, hx⟩ := hx
          have : y = x2 := Option.some.inj (hy.symm.trans (hx us2 hu))
          subst this
          exact ⟨Ex.new hT, vr_pair mo' hT (.d (.int _)) ry⟩
      · rw [List.getElem?_mapIdx] at hn
        have : zs[i]? = none := by
          cases hz : zs[i]? with
          | none => rfl
          | some z => rw [hz] at hn; cases hn
        rw [ru.length]
        exact List.getElem?_eq_none_iff.mp this
theorem ai_zip (h : AXA K ta Γ μ fun ws μ1 => ∃ w1 w2 xs ys, ws = [w1, w2] ∧ LW μ1 w1 xs ∧ LW μ1 w2 ys ∧ R (List.zipWith pairW xs ys) (fun μ' => LW μ' w1 xs ∧ LW μ' w2 ys) μ1) : AI K (iZip K ta) Γ μ R := fun A M σ H c Q q =>
  h A M σ H c _ fun M1 H1 vs ws μ1 mo1 e1 r1 ⟨w1, w2, zs, zs2, hw, hl1, hl2, hR⟩ => by
    subst hw
    cases r1 with
    | cons ra rn =>
      cases rn with
      | cons rb rn =>
        cases rn
        obtain ⟨a, us, rfl, hs, rs⟩ := hl1.get mo1 ra
        obtain ⟨b, us2, rfl, hs2, rs2⟩ := hl2.get mo1 rb
        refine ⟨a, b, us, us2, rfl, hs, hs2, q M1 H1 _ _ _ μ1 mo1 e1 (fun A' M' H' μ' mo' ex pr hS i => ?_) hR⟩
        obtain ⟨a2, u1, ea, hu, ru⟩ := LW.get mo' (ra.mono ex pr) hS.1
        cases ea
        obtain ⟨b2, u2, eb, hu2, ru2⟩ := LW.get mo' (rb.mono ex pr) hS.2
        cases eb
        refine ⟨fun w' hw => ?_, fun hn => ⟨u1, u2, hu, hu2, ?_⟩⟩
        · rw [List.getElem?_zipWith] at hw
          cases hz : zs[i]? with
          | none => rw [hz] at hw; cases hw
          | some z =>
            cases hz2 : zs2[i]? with
            | none => rw [hz, hz2] at hw; cases hw
            | some z2 =>
              rw [hz, hz2] at hw
              cases hw
              obtain ⟨y, hy, ry⟩ := ru.getW hz
              obtain ⟨y2, hy2, ry2⟩ := ru2.getW hz2
              refine ⟨⟨u1, u2, y, y2, hu, hu2, hy, hy2⟩, fun x H2 hx => ?_⟩
              obtain ⟨T, x2, x3, rfl, hT, rfl, hx, hx3⟩ := hx
              have : y = x2 := Option.some.inj (hy.symm.trans (hx u1 hu))
              subst this
              have : y2 = x3 := Option.some.inj (hy2.symm.trans (hx3 u2 hu2))
              subst this
              exact ⟨Ex.new hT, vr_pair mo' hT ry ry2⟩
        · rw [List.getElem?_zipWith] at hn
          rw [ru.length, ru2.length]
          by_cases h1 : i < zs.length
          · by_cases h2 : i < zs2.length
            · rw [List.getElem?_eq_getElem h1, List.getElem?_eq_getElem h2] at hn
              cases hn
            · exact .inr (by omega)
          · exact .inl (by omega)
theorem ai_rev (h : AXA K ta Γ μ fun ws μ1 => ∃ w zs, ws = [w] ∧ LW μ1 w zs ∧ R zs.reverse (fun μ' => LW μ' w zs) μ1) : AI K (iRev K ta) Γ μ R := fun A M σ H c Q q =>
  h A M σ H c _ fun M1 H1 vs ws μ1 mo1 e1 r1 ⟨w, zs, hw, hl, hR⟩ => by
    subst hw
    cases r1 with
    | cons ra rn =>
      cases rn
      obtain ⟨a, us, rfl, hs, rs⟩ := hl.get mo1 ra
      refine ⟨a, us, rfl, hs, q M1 H1 _ _ _ μ1 mo1 e1 (fun A' M' H' μ' mo' ex pr hS i => ?_) hR⟩
      obtain ⟨a2, us2, ea, hu, ru⟩ := LW.get mo' (ra.mono ex pr) hS
      cases ea
      have hl2 : us.length = zs.length := rs.length
      refine ⟨fun w' hw => ?_, fun hn => ?_⟩
      · have hi : i < zs.length := by
          have := (List.getElem?_eq_some_iff.mp hw).1
          simpa using this
        rw [List.getElem?_reverse hi] at hw
        obtain ⟨y, hy, ry⟩ := ru.getW hw
        refine ⟨⟨by omega, us2, y, hu, by rw [hl2]; exact hy⟩, fun x H2 hx => ?_⟩
        obtain ⟨rfl, hx⟩ := hx
        have hx2 := hx us2 hu
        rw [hl2] at hx2
        have : y = x := Option.some.inj (hy.symm.trans hx2)
        subst this
        exact ⟨Ex.refl _, ry⟩
      · have := List.getElem?_eq_none_iff.mp hn
        show us.length ≤ i
        rw [hl2]
        simpa using this
end
/-! ### loops -/
theorem take_snoc {α : Type} {ns : List α} {i : Nat} {x : α} (h : ns[i]? = some x) : ns.take (i + 1) = ns.take i ++ [x] := by
  rw [List.take_add_one, h]
  rfl
theorem split_at {α : Type} {ns : List α} {i : Nat} {x : α} (h : ns[i]? = some x) : ns = ns.take i ++ x :: ns.drop (i + 1) := by
  obtain ⟨hi, e⟩ := List.getElem?_eq_some_iff.mp h
  rw [← e, ← List.drop_eq_getElem_cons hi, List.take_append_drop]
theorem as_for {K : PySem.W.Frag} {Γ : G} {μ : Mu} {wi : TI} {g : TG} {tb : TS} {D : AEn} {α : Type} (f : α → W) (ns : List α) (I : List α → G → Mu → Prop)
    (h : AI K wi Γ μ fun items S μ1 => items = ns.map f ∧ (∀ pre Γ' μ', I pre Γ' μ' → S μ') ∧ I [] Γ μ1)
    (hs : ∀ pre x post Γ' μ', ns = pre ++ x :: post → I pre Γ' μ' → AG K g (f x) Γ' μ' fun Γ2 μ2 => AS K tb { D with nx := I (pre ++ [x]), ct := I (pre ++ [x]), bk := D.nx } Γ2 μ2)
    (hd : ∀ Γ' μ', I ns Γ' μ' → D.nx Γ' μ') : AS K (tFor wi g tb) D Γ μ := fun A M σ H cn E hE =>
  h A M σ H cn _ fun M1 H1 J items S μ1 mo1 e1 hJ ⟨hi, hS, h0⟩ => by
    subst hi
    refine ⟨fun i m σ' H' => ∃ M' Γ' μ', Cn K A M' σ' H' Γ' μ' ∧ Eff A M1 μ1 H1 M' μ' H' ∧ i ≤ ns.length ∧ m = ns.length - i ∧ I (ns.take i) Γ' μ',
      ⟨ns.length, M1, Γ, μ1, cn.eff e1 mo1, Eff.refl, Nat.zero_le _, rfl, h0⟩, fun i m σ' H' hW => ?_⟩
    obtain ⟨M', Γ', μ', c', e', hi, rfl, hI⟩ := hW
    have hit := hJ A M' H' μ' c'.mo e'.ex e'.pre (hS _ _ _ hI) i
    by_cases hlt : i < ns.length
    · have hx : ns[i]? = some ns[i] := List.getElem?_eq_getElem hlt
      have hw : (ns.map f)[i]? = some (f ns[i]) := by rw [List.getElem?_map, hx]; rfl
      obtain ⟨hgo, hy⟩ := hit.1 _ hw
      refine .inr ⟨hgo, fun σ2 H2 => ∃ M2 Γ2 μ2, Cn K A M2 σ2 H2 Γ2 μ2 ∧ Eff A M1 μ1 H1 M2 μ2 H2 ∧ I (ns.take (i + 1)) Γ2 μ2,
        fun σ2 H2 ⟨M2, Γ2, μ2, c2, e2, hI2⟩ => ⟨ns.length - (i + 1), by omega, M2, Γ2, μ2, c2, e2, hlt, rfl, hI2⟩, fun x H2 hyld => ?_⟩
      obtain ⟨ex2, rx⟩ := hy x H2 hyld
      have e2' : Eff A M' μ' H' M' μ' H2 := Eff.of_ex ex2
      refine hs (ns.take i) ns[i] (ns.drop (i + 1)) Γ' μ' (split_at hx) hI A M' σ' H2 x (c'.ex ex2) rx _ fun M3 σ3 H3 Γ3 μ3 c3 e3 h3 => ?_
      have e13 : Eff A M1 μ1 H1 M3 μ3 H3 := (e'.trans e2').trans e3
      refine h3 A M3 σ3 H3 c3 _ ⟨fun M4 σ4 H4 Γ4 μ4 c4 e4 h4 => ?_, fun M4 H4 v w μ4 m4 e4 r4 h4 => hE.rt M4 H4 v w μ4 m4 ((e1.trans e13).trans e4) r4 h4, fun M4 σ4 H4 Γ4 μ4 c4 e4 h4 => hE.nx M4 σ4 H4 Γ4 μ4 c4 ((e1.trans e13).trans e4) h4, fun M4 σ4 H4 Γ4 μ4 c4 e4 h4 => ?_, hE.xx.after (e1.trans e13)⟩
      · refine ⟨M4, Γ4, μ4, c4, e13.trans e4, ?_⟩
        rw [take_snoc hx]
        exact h4
      · refine ⟨M4, Γ4, μ4, c4, e13.trans e4, ?_⟩
        rw [take_snoc hx]
        exact h4
    · have hei : i = ns.length := by omega
      subst hei
      refine .inl ⟨hit.2 (by simp), ?_⟩
      rw [List.take_length] at hI
      exact hE.nx M' σ' H' Γ' μ' c' (e1.trans e') (hd Γ' μ' hI)
theorem as_while {K : PySem.W.Frag} {Γ : G} {μ : Mu} {c : TT} {tb : TS} {D : AEn} (I : Nat → G → Mu → Prop) (m0 : Nat) (h0 : I m0 Γ μ)
    (hs : ∀ m Γ' μ', I m Γ' μ' → AXT K c Γ' μ' fun b μ1 => if b = true then AS K tb { D with nx := fun Γ2 μ2 => ∃ m', m' < m ∧ I m' Γ2 μ2, ct := fun Γ2 μ2 => ∃ m', m' < m ∧ I m' Γ2 μ2, bk := D.nx } Γ' μ1 else D.nx Γ' μ1) : AS K (tWhile c tb) D Γ μ := fun A M σ H cn E hE => by
  refine ⟨fun m σ' H' => ∃ M' Γ' μ', Cn K A M' σ' H' Γ' μ' ∧ Eff A M μ H M' μ' H' ∧ I m Γ' μ', ⟨m0, M, Γ, μ, cn, Eff.refl, h0⟩, fun m σ' H' ⟨M', Γ', μ', c', e', hI⟩ => ?_⟩
  refine hs m Γ' μ' hI A M' σ' H' c' _ fun M1 H1 b μ1 mo1 e1 h1 => ?_
  cases b with
  | true =>
    refine ⟨fun σ2 H2 => ∃ m', m' < m ∧ ∃ M2 Γ2 μ2, Cn K A M2 σ2 H2 Γ2 μ2 ∧ Eff A M μ H M2 μ2 H2 ∧ I m' Γ2 μ2, fun σ2 H2 h => h, ?_⟩
    have e2 := e'.trans e1
    have hb : AS K tb { D with nx := fun Γ2 μ2 => ∃ m', m' < m ∧ I m' Γ2 μ2, ct := fun Γ2 μ2 => ∃ m', m' < m ∧ I m' Γ2 μ2, bk := D.nx } Γ' μ1 := h1
    refine hb A M1 σ' H1 (c'.eff e1 mo1) _ ⟨fun M4 σ4 H4 Γ4 μ4 c4 e4 ⟨m', hm, h4⟩ => ⟨m', hm, M4, Γ4, μ4, c4, e2.trans e4, h4⟩, fun M4 H4 v w μ4 m4 e4 r4 h4 => hE.rt M4 H4 v w μ4 m4 (e2.trans e4) r4 h4, fun M4 σ4 H4 Γ4 μ4 c4 e4 h4 => hE.nx M4 σ4 H4 Γ4 μ4 c4 (e2.trans e4) h4, fun M4 σ4 H4 Γ4 μ4 c4 e4 ⟨m', hm, h4⟩ => ⟨m', hm, M4, Γ4, μ4, c4, e2.trans e4, h4⟩, hE.xx.after e2⟩
  | false => exact hE.nx M1 σ' H1 Γ' μ1 (c'.eff e1 mo1) (e'.trans e1) h1
/-! ### comprehensions -/
def wipeG (Γ : G) (vs : List Nat) : G := vs.foldr (fun v g => g.set v none) Γ
def WipeOk (g : TG) (vs : List Nat) : Prop := ∀ x σ H Q, g x (wipe σ vs) H Q → g x (wipe σ vs) H fun σ' H' => wipe σ' vs = wipe σ vs ∧ Q σ' H'
theorem wipe_get (σ : L2.St) : ∀ (vs : List Nat) (i : Nat), (wipe σ vs)[i]? = if i ∈ vs then (if i < σ.length then some none else none) else σ[i]?
  | [], i => by simp [wipe]
  | v :: vs, i => by
    unfold wipe
    rw [List.getElem?_set, wipe_length, wipe_get σ vs i]
    by_cases h : v = i
    · subst h
      simp
    · have h2 : ¬ i = v := fun z => h z.symm
      simp [h, h2]
theorem wipe_set {σ : L2.St} {vs : List Nat} {σ' : L2.St} (hl : σ'.length = σ.length) (h : ∀ i, i ∉ vs → σ'[i]? = (wipe σ vs)[i]?) : wipe σ' vs = wipe σ vs := by
  apply List.ext_getElem?
  intro i
  rw [wipe_get σ' vs i, hl]
  by_cases hi : i ∈ vs
  · rw [if_pos hi, wipe_get, if_pos hi]
  · rw [if_neg hi, h i hi]
theorem wk_name {j : Nat} {vs : List Nat} (hj : j ∈ vs) : WipeOk (gName j) vs := fun x σ H Q q => ⟨wipe_set (by rw [List.length_set, wipe_length]) (fun i hi => by
  rw [List.getElem?_set, if_neg fun z => hi (by rw [← z]; exact hj)]), q⟩
/-- the same for a list of targets, from any σ that differs at vs alone -/
def WipeGs (gs : TGs) (vs : List Nat) : Prop := ∀ xs σ σ0 H Q, σ.length = σ0.length → (∀ i, i ∉ vs → σ[i]? = (wipe σ0 vs)[i]?) → gs xs σ H Q → gs xs σ H fun σ' H' => wipe σ' vs = wipe σ0 vs ∧ Q σ' H'
theorem wks_nil {vs : List Nat} : WipeGs gNil vs := fun xs σ σ0 H Q hl hs ⟨e, q⟩ => ⟨e, wipe_set hl hs, q⟩
theorem wks_cons {j : Nat} {gs : TGs} {vs : List Nat} (hj : j ∈ vs) (h : WipeGs gs vs) : WipeGs (gCons (gName j) gs) vs := fun xs σ σ0 H Q hl hs ⟨v, r, e, q⟩ => ⟨v, r, e, h r _ σ0 H Q (by rw [List.length_set]; exact hl) (fun i hi => by
  rw [List.getElem?_set, if_neg fun z => hi (by rw [← z]; exact hj)]
  exact hs i hi) q⟩
theorem wk_tup {K : PySem.W.Frag} {n : Nat} {gs : TGs} {vs : List Nat} (h : WipeGs gs vs) : WipeOk (gTup K n gs) vs := fun x σ H Q ⟨a, xs, e, hs, hl, q⟩ => ⟨a, xs, e, hs, hl, h xs _ σ H Q (wipe_length _ _) (fun _ _ => rfl) q⟩
def delH (H : Hp) (a : Addr) : Hp := fun b => if b = a then none else H b
theorem delH_upd {H : Hp} {a : Addr} {o : HO} (h : H a = some o) : upd (delH H a) a o = H := by
  funext b
  unfold upd delH
  by_cases e : b = a
  · subst e; rw [if_pos rfl, h]
  · rw [if_neg e, if_neg e]
def addA (A : Addr → Prop) (p : Addr) : Addr → Prop := fun a => A a ∨ a = p
theorem vw_add {A : Addr → Prop} {M : List Addr} {μ : Mu} {H : Hp} {p : Addr} : vw (addA A p) M μ H = vw A M μ (delH H p) := by
  funext b
  unfold vw delH
  have hh : hid (addA A p) M μ b ↔ hid A M μ b ∨ b = p := by
    constructor
    · rintro ((z | z) | z)
      · exact .inl (.inl z)
      · exact .inr z
      · exact .inl (.inr z)
    · rintro ((z | z) | z)
      · exact .inl (.inl z)
      · exact .inr z
      · exact .inl (.inr z)
  by_cases e : b = p
  · subst e
    rw [if_pos (hh.mpr (.inr rfl)), if_pos rfl]
    split <;> rfl
  · rw [if_neg e]
    by_cases hb : hid A M μ b
    · rw [if_pos hb, if_pos (hh.mpr (.inl hb))]
    · rw [if_neg hb, if_neg fun z => (hh.mp z).elim hb e]
theorem MOk.add {K : PySem.W.Frag} {A : Addr → Prop} {M : List Addr} {μ : Mu} {H : Hp} {p : Addr} {o : HO} (h : MOk K A M H μ) (hp : H p = none) : MOk K (addA A p) M (upd H p o) μ := by
  have np : p ∉ M := fun m => h.al p m hp
  have nn : ∀ a, H a ≠ none → upd H p o a ≠ none := fun a hn => by
    rw [upd_ne fun z => hn (by rw [z]; exact hp)]
    exact hn
  have ed : delH (upd H p o) p = H := by
    funext b
    unfold delH upd
    by_cases e : b = p
    · subst e; rw [if_pos rfl, hp]
    · rw [if_neg e, if_neg e]
  refine ⟨h.len, h.nd, fun a m z => z.elim (h.nA a m) fun z => np (by rw [← z]; exact m), fun a m => nn a (h.al a m), fun a m => m.elim (fun m => nn a (h.aA a m)) fun z => (by subst z; rw [upd_same]; intro q; cases q), fun k a c h1 h2 => ?_⟩
  obtain ⟨u, q1, q2⟩ := h.ct k a c h1 h2
  refine ⟨u, by rw [upd_ne (ne_of_none q1 hp)]; exact q1, ?_⟩
  rw [vw_add, ed]
  exact q2
theorem MOk.del {K : PySem.W.Frag} {A : Addr → Prop} {M : List Addr} {μ : Mu} {H : Hp} {p : Addr} (h : MOk K (addA A p) M H μ) (hA : ¬ A p) : MOk K A M (delH H p) μ := by
  have np : p ∉ M := fun m => h.nA p m (.inr rfl)
  have dn : ∀ a, a ≠ p → delH H p a = H a := fun a e => by unfold delH; rw [if_neg e]
  refine ⟨h.len, h.nd, fun a m z => h.nA a m (.inl z), fun a m => by rw [dn a fun z => np (by rw [← z]; exact m)]; exact h.al a m, fun a z => by rw [dn a fun q => hA (by rw [← q]; exact z)]; exact h.aA a (.inl z), fun k a c h1 h2 => ?_⟩
  obtain ⟨u, q1, q2⟩ := h.ct k a c h1 h2
  refine ⟨u, by rw [dn a fun z => np (by rw [← z]; exact List.mem_of_getElem? h1)]; exact q1, ?_⟩
  rw [← vw_add]
  exact q2
theorem Eff.del {A : Addr → Prop} {M M' : List Addr} {μ μ' : Mu} {H H' : Hp} {p : Addr} {o : HO} (hp : H p = none) (h : Eff (addA A p) M μ (upd H p o) M' μ' H') : Eff A M μ H M' μ' (delH H' p) := by
  have ed : delH (upd H p o) p = H := by
    funext b
    unfold delH upd
    by_cases e : b = p
    · subst e; rw [if_pos rfl, hp]
    · rw [if_neg e, if_neg e]
  refine ⟨h.pre, fun a u ha e => ?_, ?_⟩
  · have ne : a ≠ p := ne_of_none e hp
    unfold delH
    rw [if_neg ne]
    exact h.own a u (.inl ha) (by rw [upd_ne ne]; exact e)
  · have := h.ex
    rw [vw_add, vw_add, ed] at this
    exact this
theorem delH_upd2 {H : Hp} {p : Addr} {o : HO} : delH (upd H p o) p = delH H p := by
  funext b
  unfold delH upd
  by_cases e : b = p
  · rw [if_pos e, if_pos e]
  · rw [if_neg e, if_neg e, if_neg e]
theorem delH_none {H : Hp} {p : Addr} (hp : H p = none) : delH H p = H := by
  funext b
  unfold delH
  by_cases e : b = p
  · subst e; rw [if_pos rfl, hp]
  · rw [if_neg e]
theorem Eff.del2 {A : Addr → Prop} {M M' : List Addr} {μ μ' : Mu} {H H' : Hp} {p : Addr} (h : Eff (addA A p) M μ H M' μ' H') : Eff A M μ (delH H p) M' μ' (delH H' p) := by
  refine ⟨h.pre, fun a u ha e => ?_, by have := h.ex; rw [vw_add, vw_add] at this; exact this⟩
  unfold delH at e ⊢
  by_cases ne : a = p
  · rw [if_pos ne] at e
    cases e
  · rw [if_neg ne] at e ⊢
    exact h.own a u (.inl ha) e
theorem GR.wipeG {K : PySem.W.Frag} {H : Hp} {M : List Addr} {σ : L2.St} {Γ : G} (h : GR K H M σ Γ) (vs : List Nat) : GR K H M (L2.wipe σ vs) (Pd.wipeG Γ vs) := h.wipe vs
theorem MOk.wr {K : PySem.W.Frag} {A : Addr → Prop} {M : List Addr} {μ : Mu} {H : Hp} {p : Addr} {o : HO} (h : MOk K (addA A p) M H μ) : MOk K (addA A p) M (upd H p o) μ := by
  have np : p ∉ M := fun m => h.nA p m (.inr rfl)
  have dn : ∀ a, H a ≠ none → upd H p o a ≠ none := fun a hn => by
    by_cases e : a = p
    · subst e; rw [upd_same]; intro z; cases z
    · rw [upd_ne e]; exact hn
  refine ⟨h.len, h.nd, h.nA, fun a m => dn a (h.al a m), fun a m => dn a (h.aA a m), fun k a c k1 k2 => ?_⟩
  obtain ⟨u, q1, q2⟩ := h.ct k a c k1 k2
  refine ⟨u, ?_, by rw [vw_add, delH_upd2, ← vw_add]; exact q2⟩
  rw [upd_ne fun z => np (by rw [← z]; exact List.mem_of_getElem? k1)]
  exact q1
/-- the state within a comprehension whose list stands at p -/
def LcI (K : PySem.W.Frag) (A : Addr → Prop) (M1 : List Addr) (μ1 : Mu) (H1 : Hp) (p : Addr) (P : List W → Mu → Prop) (H' : Hp) : Prop :=
  ∃ M' μ' us acc, H' p = some (.lst us) ∧ MOk K (addA A p) M' H' μ' ∧ Eff A M1 μ1 H1 M' μ' (delH H' p) ∧ VRs K (vw (addA A p) M' μ' H') M' us acc ∧ P acc μ'
theorem ax_lc {K : PySem.W.Frag} {Γ : G} {μ : Mu} {wi : TI} {g : TG} {tt : TT} {te : TE} {vs : List Nat} {R : W → Mu → Prop} {α : Type} (f : α → W) (ns : List α) (I : List α → List W → Mu → Prop) (hz : ns.length ≤ sizeLine) (hw : WipeOk g vs)
    (h : AI K wi Γ μ fun items S μ1 => items = ns.map f ∧ (∀ pre acc μ', I pre acc μ' → S μ') ∧ I [] [] μ1)
    (hs : ∀ pre x post acc μ', ns = pre ++ x :: post → acc.length ≤ pre.length → I pre acc μ' → AG K g (f x) (wipeG Γ vs) μ' fun Γ2 μ2 => AXT K tt Γ2 μ2 fun b μ3 => if b = true then AX K te Γ2 μ3 fun w μ4 => I (pre ++ [x]) (acc ++ [w]) μ4 else I (pre ++ [x]) acc μ3)
    (hd : ∀ acc μ', I ns acc μ' → NL acc μ' R) : AX K (tLc wi g tt te vs) Γ μ R := fun A M σ H cn Q q =>
  h A M σ H cn _ fun M1 H1 J items S μ1 mo1 e1 hJ ⟨hi, hS, h0⟩ => by
    subst hi
    intro p hp
    have hA : ¬ A p := fun z => mo1.aA p z hp
    refine ⟨fun i m H' => i ≤ ns.length ∧ m = ns.length - i ∧ LcI K A M1 μ1 H1 p (fun acc μ' => acc.length ≤ i ∧ I (ns.take i) acc μ') H',
      ⟨ns.length, Nat.zero_le _, rfl, M1, μ1, [], [], upd_same, mo1.add hp, by rw [delH_upd2, delH_none hp]; exact Eff.refl, .nil, Nat.le_refl _, h0⟩, fun i m H' hW => ?_⟩
    obtain ⟨hi, rfl, M', μ', us, acc, hu, mo', e', ru, hal, hI⟩ := hW
    have hex : Ex (vw A M1 μ1 H1) (vw (addA A p) M' μ' H') := by
      rw [vw_add]
      exact e'.ex
    have hit := hJ (addA A p) M' H' μ' mo' hex e'.pre (hS _ _ _ hI) i
    by_cases hlt : i < ns.length
    · have hx : ns[i]? = some ns[i] := List.getElem?_eq_getElem hlt
      have hw' : (ns.map f)[i]? = some (f ns[i]) := by rw [List.getElem?_map, hx]; rfl
      obtain ⟨hgo, hy⟩ := hit.1 _ hw'
      refine .inr ⟨hgo, LcI K A M1 μ1 H1 p (fun acc μ' => acc.length ≤ i + 1 ∧ I (ns.take (i + 1)) acc μ'), fun H2 h2 => ⟨ns.length - (i + 1), by omega, hlt, rfl, h2⟩, fun x H2 hyld => ?_⟩
      obtain ⟨ex2, rx⟩ := hy x H2 hyld
      have eH2 : Eff (addA A p) M' μ' H' M' μ' H2 := Eff.of_ex ex2
      have c0 : GR K (vw A M1 μ1 H1) M1 (wipe σ vs) (wipeG Γ vs) := (cn.gr.mono e1.ex e1.pre).wipeG vs
      have c2 : Cn K (addA A p) M' (wipe σ vs) H2 (wipeG Γ vs) μ' := ⟨mo'.ex ex2, (c0.mono hex e'.pre).mono (vw_ex ex2) (Pre.refl _)⟩
      have hlen : (ns.take i).length = i := by rw [List.length_take]; omega
      refine hw x σ H2 _ ?_
      refine hs (ns.take i) ns[i] (ns.drop (i + 1)) acc μ' (split_at hx) (by omega) hI (addA A p) M' (wipe σ vs) H2 x c2 rx _ fun M3 σ3 H3 Γ3 μ3 c3 e3 h3 => ?_
      refine h3 (addA A p) M3 σ3 H3 c3 _ fun M4 H4 b μ4 mo4 e4 h4 => ?_
      have eA : Eff (addA A p) M' μ' H' M4 μ4 H4 := (eH2.trans e3).trans e4
      have hu4 : H4 p = some (.lst us) := eA.own p _ (.inr rfl) hu
      cases b with
      | false =>
        refine ⟨M4, μ4, us, acc, hu4, mo4, e'.trans eA.del2, ru.mono eA.ex eA.pre, by omega, ?_⟩
        rw [take_snoc hx]
        exact h4
      | true =>
        refine h4 (addA A p) M4 σ3 H4 (c3.eff e4 mo4) _ fun M5 H5 y w μ5 mo5 e5 r5 h5 => ?_
        have eB : Eff (addA A p) M' μ' H' M5 μ5 H5 := eA.trans e5
        have hu5 : H5 p = some (.lst us) := eB.own p _ (.inr rfl) hu
        have rus : VRs K (vw (addA A p) M5 μ5 H5) M5 (us ++ [y]) (acc ++ [w]) := (ru.mono eB.ex eB.pre).snoc r5
        refine ⟨us, hu5, ?_, M5, μ5, us ++ [y], acc ++ [w], upd_same, mo5.wr, ?_, ?_, by simp; omega, ?_⟩
        · rw [ru.length]
          omega
        · rw [delH_upd2]
          exact e'.trans eB.del2
        · rw [vw_add, delH_upd2, ← vw_add]
          exact rus
        · rw [take_snoc hx]
          exact h5
    · have hei : i = ns.length := by omega
      subst hei
      refine .inl ⟨hit.2 (by simp), ?_⟩
      rw [List.take_length] at hI
      have md := mo'.del hA
      have rd : VRs K (vw A M' μ' (delH H' p)) M' us acc := by
        rw [← vw_add]
        exact ru
      obtain ⟨M2, μ2, w, m2, e2, r2, hR⟩ := (hd acc μ' hI).use md rd (show delH H' p p = none from if_pos rfl)
      rw [delH_upd hu] at m2 e2 r2
      exact q M2 H' _ w μ2 m2 ((e1.trans e').trans e2) r2 hR
/-! ### a cell that changes no more -/
theorem hid_dead {A : Addr → Prop} {M : List Addr} {μ : Mu} {k : Nat} {a : Addr} (h : hid A M (μ.set k none) a) : hid A M μ a := by
  rcases h with z | ⟨j, c, h1, h2⟩
  · exact .inl z
  · by_cases e : k = j
    · subst e
      rw [List.getElem?_set, if_pos rfl] at h2
      split at h2 <;> cases h2
    · rw [List.getElem?_set, if_neg e] at h2
      exact .inr ⟨j, c, h1, h2⟩
theorem vw_dead {A : Addr → Prop} {M : List Addr} {μ : Mu} {H : Hp} {k : Nat} : Ex (vw A M μ H) (vw A M (μ.set k none) H) := fun a o h => vw_of (fun z => (vw_some h).1 (hid_dead z)) (vw_some h).2
theorem MOk.dead {K : PySem.W.Frag} {A : Addr → Prop} {M : List Addr} {μ : Mu} {H : Hp} (h : MOk K A M H μ) (k : Nat) : MOk K A M H (μ.set k none) := by
  refine ⟨by rw [List.length_set]; exact h.len, h.nd, h.nA, h.al, h.aA, fun j a c h1 h2 => ?_⟩
  by_cases e : k = j
  · subst e
    rw [List.getElem?_set, if_pos rfl] at h2
    split at h2 <;> cases h2
  · rw [List.getElem?_set, if_neg e] at h2
    obtain ⟨o, q1, q2⟩ := h.ct j a c h1 h2
    exact ⟨o, q1, q2.mono vw_dead (Pre.refl _)⟩
theorem Eff.dead {A : Addr → Prop} {M : List Addr} {μ : Mu} {H : Hp} (k : Nat) : Eff A M μ H M (μ.set k none) H := ⟨Pre.refl _, fun _ _ _ h => h, vw_dead⟩
theorem vr_dead {K : PySem.W.Frag} {A : Addr → Prop} {M : List Addr} {μ : Mu} {H : Hp} {k : Nat} {xs : List PyData} {v : V} (mo : MOk K A M H μ) (r : VR K (vw A M μ H) M v (.m k)) (hk : μ[k]? = some (some (.lst (xs.map W.d)))) : VR K (vw A M (μ.set k none) H) M v (.d (.list xs)) := by
  obtain ⟨a, vs, rfl, hm, e, ru⟩ := cell_get mo r hk
  refine .d (.lst (vw_of (fun z => ?_) e) (dpa_mono vw_dead ru.dp))
  rcases z with z | ⟨j, c, h1, h2⟩
  · exact mo.nA a (List.mem_of_getElem? hm) z
  · have hj : k = j := by
      have l1 := List.getElem?_eq_some_iff.mp hm
      have l2 := List.getElem?_eq_some_iff.mp h1
      exact (List.getElem_inj mo.nd).mp (l1.2.trans l2.2.symm)
    subst hj
    rw [List.getElem?_set, if_pos rfl] at h2
    split at h2 <;> cases h2
/-- the name is read and its list changes no more -/
theorem ax_varF {K : PySem.W.Frag} {Γ : G} {μ : Mu} {R : W → Mu → Prop} {i k : Nat} {xs : List PyData} (h : Γ[i]? = some (some (.m k))) (hk : μ[k]? = some (some (.lst (xs.map W.d)))) (q : R (.d (.list xs)) (μ.set k none)) : AX K (tVar i) Γ μ R := fun A M σ H c Q hq => by
  obtain ⟨v, e, r⟩ := c.gr.2 i _ h
  exact ⟨v, e, hq M H v _ _ (c.mo.dead k) (Eff.dead k) (vr_dead c.mo r hk) q⟩
/-- the same as a step between statements -/
theorem as_freeze {K : PySem.W.Frag} {Γ : G} {μ : Mu} {t : TS} {D : AEn} (i k : Nat) (xs : List PyData) (h : Γ[i]? = some (some (.m k))) (hk : μ[k]? = some (some (.lst (xs.map W.d)))) (q : AS K t D (Γ.set i (some (.d (.list xs)))) (μ.set k none)) : AS K t D Γ μ := fun A M σ H c E hE => by
  obtain ⟨v, e, r⟩ := c.gr.2 i _ h
  have g1 : GR K (vw A M (μ.set k none) H) M (σ.set i (some v)) (Γ.set i (some (.d (.list xs)))) := (c.gr.mono vw_dead (Pre.refl _)).set (vr_dead c.mo r hk)
  have es : σ.set i (some v) = σ := by
    apply List.ext_getElem?
    intro j
    rw [List.getElem?_set]
    by_cases hj : i = j
    · subst hj
      rw [if_pos rfl, if_pos (List.getElem?_eq_some_iff.mp e).1, e]
    · rw [if_neg hj]
  rw [es] at g1
  exact q A M σ H ⟨c.mo.dead k, g1⟩ E (hE.after (Eff.dead k))
/-- a name is forgotten -/
theorem as_forget {K : PySem.W.Frag} {Γ : G} {μ : Mu} {t : TS} {D : AEn} (Γ' : G) (hl : Γ'.length = Γ.length) (h : ∀ (i : Nat) w, Γ'[i]? = some (some w) → Γ[i]? = some (some w)) (q : AS K t D Γ' μ) : AS K t D Γ μ := fun A M σ H c E hE =>
  q A M σ H ⟨c.mo, by rw [c.gr.1, hl], fun i w e => c.gr.2 i w (h i w e)⟩ E hE
theorem as_weak {K : PySem.W.Frag} {Γ : G} {μ : Mu} {t : TS} {D D' : AEn} (h : AS K t D Γ μ) (n : ∀ g m, D.nx g m → D'.nx g m) (r : ∀ w m, D.rt w m → D'.rt w m) (b : ∀ g m, D.bk g m → D'.bk g m) (c : ∀ g m, D.ct g m → D'.ct g m) (xe : D.xw = D'.xw := by rfl) (xi : ∀ x w g m, D.xc x w g m → D'.xc x w g m := by exact fun _ _ _ _ z => z) : AS K t D' Γ μ := fun A M σ H cn E hE =>
  h A M σ H cn E ⟨fun _ _ _ _ _ x e z => hE.nx _ _ _ _ _ x e (n _ _ z), fun _ _ _ _ _ x e y z => hE.rt _ _ _ _ _ x e y (r _ _ z), fun _ _ _ _ _ x e z => hE.bk _ _ _ _ _ x e (b _ _ z), fun _ _ _ _ _ x e z => hE.ct _ _ _ _ _ x e (c _ _ z), by
    rw [xe]
    exact fun _ _ _ _ _ _ _ _ _ h1 h2 h3 h4 => hE.xx _ _ _ _ _ _ _ _ _ h1 h2 h3 (xi _ _ _ _ h4)⟩
/-- a statement, what holds behind it, the rest from there -/
theorem as_cut {K : PySem.W.Frag} {Γ : G} {μ : Mu} {t u : TS} {D : AEn} (Mid : G → Mu → Prop) (h : AS K t { D with nx := Mid } Γ μ) (k : ∀ Γ1 μ1, Mid Γ1 μ1 → AS K u D Γ1 μ1) : AS K (tSeq t u) D Γ μ := as_seq (as_weak h k (fun _ _ z => z) (fun _ _ z => z) (fun _ _ z => z))
/-! ### calls -/
abbrev FS := List W → Mu → (W → Mu → Prop) → Prop
def spD (K : PySem.W.Frag) (F : FS) : Sp := fun vs H Q _ => ∃ (A : Addr → Prop) (M : List Addr) (μ : Mu) (ws : List W) (R : W → Mu → Prop), MOk K A M H μ ∧ VRs K (vw A M μ H) M vs ws ∧ F ws μ R ∧
  ∀ M' H' v w μ', MOk K A M' H' μ' → Eff A M μ H M' μ' H' → VR K (vw A M' μ' H') M' v w → R w μ' → Q v H'
section
variable {K : PySem.W.Frag} {Γ : G} {μ : Mu} {R : W → Mu → Prop} {ta tk : TA}
theorem ax_call {F : FS} {E : XK} (h : AXA K ta Γ μ fun ws μ1 => F ws μ1 R) : AX K (tCall (spD K F) [] E ta) Γ μ R := fun A M σ H c Q q =>
  h A M σ H c _ fun M1 H1 vs ws μ1 mo1 e1 r1 h1 => by
    show spD K F (vs ++ []) H1 Q E
    rw [List.append_nil]
    exact ⟨A, M1, μ1, ws, R, mo1, r1, h1, fun M' H' v w μ' mo' e' r' hR => q M' H' v w μ' mo' (e1.trans e') r' hR⟩
/-- keywords: ix tells the parameters' order among positional values and keywords' values -/
def perm {α : Type} (ix : List Nat) (l : List α) : List α := ix.filterMap (l[·]?)
theorem vrs_perm {H : Hp} {M : List Addr} {vs : List V} {ws : List W} (h : VRs K H M vs ws) : ∀ ix : List Nat, VRs K H M (perm ix vs) (perm ix ws)
  | [] => .nil
  | i :: ix => by
    unfold perm
    rw [List.filterMap_cons, List.filterMap_cons]
    cases e : ws[i]? with
    | none =>
      have : vs[i]? = none := by
        rw [List.getElem?_eq_none_iff, h.length]
        exact List.getElem?_eq_none_iff.mp e
      rw [this]
      exact vrs_perm h ix
    | some w =>
      obtain ⟨v, hv, r⟩ := h.getW e
      rw [hv]
      exact .cons r (vrs_perm h ix)
theorem vals_perm {vs : List V} {us : List Value} (h : Vals vs us) : ∀ ix : List Nat, Vals (perm ix vs) (perm ix us)
  | [] => .nil
  | i :: ix => by
    unfold perm
    rw [List.filterMap_cons, List.filterMap_cons]
    cases e : vs[i]? with
    | none =>
      rw [h.none_of e]
      exact vals_perm h ix
    | some v =>
      obtain ⟨u, hu, r⟩ := h.get e
      rw [hu]
      exact .cons r (vals_perm h ix)
theorem ax_callN {F : FS} {E : XK} {n m : Nat} {ix : List Nat} (h : AXA K ta Γ μ fun ws μ1 => ws.length = n ∧ AXA K tk Γ μ1 fun us μ2 => us.length = m ∧ F (perm ix (ws ++ us)) μ2 R) : AX K (tCallN n m (spD K F) (fun vs zs => perm ix (vs ++ zs)) E ta tk) Γ μ R := fun A M σ H c Q q =>
  h A M σ H c _ fun M1 H1 vs ws μ1 mo1 e1 r1 ⟨l1, h1⟩ => h1 A M1 σ H1 (c.eff e1 mo1) _ fun M2 H2 zs us μ2 mo2 e2 r2 ⟨l2, h2⟩ =>
    ⟨r1.length.trans l1, r2.length.trans l2, A, M2, μ2, _, R, mo2, vrs_perm ((r1.mono e2.ex e2.pre).append r2) ix, h2, fun M' H' v w μ' mo' e' r' hR => q M' H' v w μ' mo' ((e1.trans e2).trans e') r' hR⟩
end
def stG (N : List PySem.Str) (ws : List W) : G := ws.map some ++ List.replicate (N.length - ws.length) none
theorem gr_start {K : PySem.W.Frag} {H : Hp} {M : List Addr} {N : List PySem.Str} {vs : List V} {ws : List W} (h : VRs K H M vs ws) : GR K H M (L2.start N vs) (stG N ws) := by
  have hl := h.length
  refine ⟨by simp [L2.start, stG, hl], fun i w e => ?_⟩
  unfold stG at e
  unfold L2.start
  by_cases hi : i < ws.length
  · rw [List.getElem?_append_left (by simpa using hi), List.getElem?_map] at e
    cases hw : ws[i]? with
    | none => rw [hw] at e; cases e
    | some w' =>
      rw [hw] at e
      have : w' = w := by simpa using e
      subst this
      obtain ⟨v, hv, r⟩ := h.getW hw
      exact ⟨v, by rw [List.getElem?_append_left (by simp; omega), List.getElem?_map, hv]; rfl, r⟩
  · rw [List.getElem?_append_right (by simp; omega), List.getElem?_replicate] at e
    split at e <;> cases e
/-- THE RULE for a def -/
theorem fn_ok {P : PySem.Program} {w : PySem.World} {K : PySem.W.Frag} {mg : PySem.Str → Option PySem.Value} {base : PySem.Heap} {x qual : PySem.Str} {st : PySem.Stmt} {f : Addr} {fd : PySem.FuncData} {N ps : List PySem.Str} {k : Nat} {F : FS} (Fu : Fun K x qual st f fd) (S : FnScope N ps (defScope st)) (len : ∀ ws μ R, F ws μ R → ws.length = ps.length)
    (hbody : ∀ (cdv : PySem.Value) (A : PySem.Around) (outer : List PySem.Env) (s : PySem.Shared) (H : Hp) (E : XK), Room k (A.deeper (PyProof.Rows.envOfC qual (defScope st) s.heap.objs.size f cdv)) →
      ∃ t, PSs (cxOf CX0 P w K mg base N qual (defScope st) f cdv A outer s H E).nox (defBody st) t ∧ ∀ ws μ R, F ws μ R → AS K t { nx := fun _ μ' => R (.d .none) μ', rt := R } (stG N ws) μ) : FnOk P w K mg base CX0 (k + 1) f fd ps (spD K F) := by
  refine Fu.ok S (fun vs H Q E h => ?_) (fun cdv A outer s H vs Q E hr h => ?_)
  · obtain ⟨A, M, μ, ws, R, mo, r, h, _⟩ := h
    rw [r.length]
    exact len ws μ R h
  · obtain ⟨t, ht, hs⟩ := hbody cdv A outer s H E hr
    obtain ⟨A, M, μ, ws, R, mo, r, h, q⟩ := h
    refine ⟨t, ht, hs ws μ R h A M _ H ⟨mo, gr_start r⟩ _ ⟨fun M' σ' H' Γ' μ' c e h => q M' H' _ _ μ' c.mo e (.d .non) h, fun M' H' v w μ' mo' e' r' h => q M' H' v w μ' mo' e' r' h, fun _ _ _ _ _ _ _ h => h.elim, fun _ _ _ _ _ _ _ h => h.elim, fun _ _ _ _ _ _ _ _ _ _ _ _ h => h.elim⟩⟩
end Pd

/-! unions: one rule for each operator, whatever its operands -/
namespace Pd
open PySem PySem.Spec PyProof.Rows L2
open Evl (Ex)
theorem orR {X : Cx} {f : Value → Value → Sem Value} {r r' : R2} (h : OpR X f r) (h' : OpR X f r') : OpR X f (fun x y H Q => r x y H Q ∨ r' x y H Q) := by
  intro pins s σ H x y v u Q I rx ry q
  rcases q with q | q
  · exact h pins s σ H x y v u Q I rx ry q
  · exact h' pins s σ H x y v u Q I rx ry q
theorem orC {X : Cx} {f : Value} {r r' : List V → Hp → VK → Prop} (h : CallR X f r) (h' : CallR X f r') : CallR X f (fun xs H Q => r xs H Q ∨ r' xs H Q) := by
  intro pins s σ H xs us Q I rx q
  rcases q with q | q
  · exact h pins s σ H xs us Q I rx q
  · exact h' pins s σ H xs us Q I rx q
theorem orI {X : Cx} {tg e : Expr} {w w' : TI} (h : PI X tg e w) (h' : PI X tg e w') : PI X tg e (fun σ H R => w σ H R ∨ w' σ H R) := ⟨fun pins s σ H R I q => by
  rcases q with q | q
  · exact h.run pins s σ H R I q
  · exact h'.run pins s σ H R I q⟩
def COp (i j : Int) : Prop := 0 ≤ j ∧ (Builtin.Int.intBits i : Int) * j ≤ 2 ^ 27
section
variable {X : Cx}
theorem op_powX : OpR X (binaryOp .Pow) (rI COp fun i j => .int (i ^ j.toNat)) := opI fun _ _ _ _ _ _ _ hc q => pow_int hc.1 hc.2 q
/-- + -/
def rAddI : R2 := rI0 fun i j => .int (i + j)
def rAddS : R2 := fun x y H Q => ∃ i j, x = .str i ∧ y = .str j ∧ i.length + j.length ≤ sizeLine ∧ Q (.str (i ++ j)) H
def rAddU (K : PySem.W.Frag) : R2 := fun x y H Q => rAddI x y H Q ∨ (rCat x y H Q ∨ (rCatT K x y H Q ∨ rAddS x y H Q))
theorem op_addU : OpR X (binaryOp .Add) (rAddU X.K) := orR op_add (orR op_cat (orR op_catT op_add_str))
theorem iop_addU : OpR X (inplaceOp .Add) (fun x y H Q => rAddI x y H Q ∨ rAddS x y H Q) := orR iop_add iop_add_str
def rSubI : R2 := rI0 fun i j => .int (i - j)
theorem op_subU : OpR X (binaryOp .Sub) rSubI := op_sub
theorem iop_subU : OpR X (inplaceOp .Sub) rSubI := iop_sub
def rMulI : R2 := rI CMul fun i j => .int (i * j)
def rMulX : R2 := rI CMulX fun i j => .int (i * j)
def rMulU : R2 := fun x y H Q => rMulI x y H Q ∨ (rMulX x y H Q ∨ rRep x y H Q)
theorem op_mulU : OpR X (binaryOp .Mult) rMulU := orR op_mul (orR op_mulX op_rep)
theorem iop_mulU : OpR X (inplaceOp .Mult) rMulI := iop_mul
def rDivI : R2 := rI CDivW fun i j => .int (i / j)
theorem op_divU : OpR X (binaryOp .FloorDiv) rDivI := op_fdivW
theorem iop_divU : OpR X (inplaceOp .FloorDiv) (rI CDiv fun i j => .int (i / j)) := iop_fdiv
def rModI : R2 := rI (fun _ j => 0 < j) fun i j => .int (i % j)
theorem op_modU : OpR X (binaryOp .Mod) rModI := op_mod
def rPowI : R2 := rI COp fun i j => .int (i ^ j.toNat)
theorem op_powU : OpR X (binaryOp .Pow) rPowI := op_powX
/-- == -/
def rEqU (K : PySem.W.Frag) : R2 := fun x y H Q => rEq x y H Q ∨ rEqD K x y H Q
def rNeU (K : PySem.W.Frag) : R2 := fun x y H Q => rNe x y H Q ∨ rNeD K x y H Q
theorem op_eqU (hu : X.A.units + 64 < cLine) : OpR X (compareOp .Eq) (rEqU X.K) := orR op_eq (op_eqD hu)
theorem op_neU (hu : X.A.units + 64 < cLine) : OpR X (compareOp .NotEq) (rNeU X.K) := orR op_ne (op_neD hu)
def rLtI : R2 := rI0 fun i j => .bl (decide (i < j))
def rLeI : R2 := rI0 fun i j => .bl (decide (i ≤ j))
def rGtI : R2 := rI0 fun i j => .bl (decide (j < i))
def rGeI : R2 := rI0 fun i j => .bl (decide (j ≤ i))
def rLtS : R2 := fun x y H Q => ∃ i j, x = .str i ∧ y = .str j ∧ Q (.bl (decide (i.cps.toList < j.cps.toList))) H
def rLtU : R2 := fun x y H Q => rLtI x y H Q ∨ rLtS x y H Q
theorem op_ltU : OpR X (compareOp .Lt) rLtU := orR op_lt op_lt_str
theorem op_leU : OpR X (compareOp .LtE) rLeI := op_le
theorem op_gtU : OpR X (compareOp .Gt) rGtI := op_gt
theorem op_geU : OpR X (compareOp .GtE) rGeI := op_ge
def rInS (neg : Bool) : R2 := fun x y H Q => ∃ i j, x = .str i ∧ y = .str j ∧ Q (.bl (if neg then !(!(Builtin.Str.occurrences j i 0 j.length 1).isEmpty) else !(Builtin.Str.occurrences j i 0 j.length 1).isEmpty)) H
def rInU (K : PySem.W.Frag) (neg : Bool) : R2 := fun x y H Q => rIn K neg x y H Q ∨ rInS neg x y H Q
theorem op_inU : OpR X (compareOp .In) (rInU X.K false) := orR op_in_seq op_in_str
theorem op_niU : OpR X (compareOp .NotIn) (rInU X.K true) := orR op_notIn_seq op_notin_str
/-- None, or a bool beside a bool -/
def rIsU (neg : Bool) : R2 := fun x y H Q => (y = .non ∧ Q (.bl (if neg then !decide (x = .non) else decide (x = .non))) H) ∨ (∃ a b : Bool, x = .bl a ∧ y = .bl b ∧ Q (.bl (if neg then !decide (a = b) else decide (a = b))) H)
theorem op_isU : OpR X (compareOp .Is) (rIsU false) := orR op_isN op_isBl
theorem op_isnU : OpR X (compareOp .IsNot) (rIsU true) := orR op_notN op_notBl
def iSeq (K : PySem.W.Frag) (te : TE) : TI := fun σ H R => iList K te σ H R ∨ (iTup K te σ H R ∨ iStr te σ H R)
theorem pi_seq {tg e : Expr} {te : TE} (he : PE X e te) : PI X tg e (iSeq X.K te) := orI (pi_list he) (orI (pi_tup he) (pi_str he))
def rSlU (K : PySem.W.Frag) : V → Option Int → Option Int → Hp → VK → Prop := fun x l u H Q => rSlL K x l u H Q ∨ (rSlT K x l u H Q ∨ rSlS x l u H Q)
theorem sl_U : SlR X (rSlU X.K) := SlR.or sl_list (SlR.or sl_tup sl_str)
def tTru (K : PySem.W.Frag) (ta : TE) : TT := fun σ H Q => ta σ H fun x H' => ∃ k, TruV K x H' k ∧ Q k H'
theorem pt_tru {a : Expr} {ta : TE} (ha : PE X a ta) (he : ∀ whole, isTrue a X.env whole = (do let v ← whole; standAt a.pos; holding [v] (truthy v)) := by intro _; rfl) : PT X a (tTru X.K ta) := pt_truth ha he
def rLenU (K : PySem.W.Frag) : List V → Hp → VK → Prop := fun xs H Q => ∃ x n, xs = [x] ∧ LenV K x H n ∧ Q (.int n) H
theorem call_lenU : CallR X (.builtin "len") (rLenU X.K) := call_len
def rListU (K : PySem.W.Frag) : List V → Hp → VK → Prop := fun xs H Q => ∃ p ys, xs = [.ref p] ∧ (SqL K H p ys ∨ SqT K H p ys) ∧ ∀ l, H l = none → Q (.ref l) (upd H l (.lst ys))
theorem call_listU : CallR X (.type "list") (rListU X.K) := call_list_of
def rTupU (K : PySem.W.Frag) : List V → Hp → VK → Prop := fun xs H Q => ∃ p ys, xs = [.ref p] ∧ ((SqL K H p ys ∧ ∀ l, H l = none → Q (.ref l) (upd H l (.tup ys))) ∨ (SqT K H p ys ∧ Q (.ref p) H))
theorem call_tupU : CallR X (.type "tuple") (rTupU X.K) := call_tuple_of
def rIntU : List V → Hp → VK → Prop := fun xs H Q => (∃ i, xs = [.int i] ∧ Q (.int i) H) ∨ ∃ k, xs = [.bl k] ∧ Q (.int (if k then 1 else 0)) H
theorem call_intU : CallR X (.type "int") rIntU := call_int1
def rAbsU : List V → Hp → VK → Prop := fun xs H Q => ∃ i, xs = [.int i] ∧ Q (.int (if i < 0 then -i else i)) H
theorem call_absU : CallR X (.builtin "abs") rAbsU := call_abs
def rMax2 : List V → Hp → VK → Prop := fun xs H Q => ∃ i j, xs = [.int i, .int j] ∧ Q (.int (if j > i then j else i)) H
def rMin2 : List V → Hp → VK → Prop := fun xs H Q => ∃ i j, xs = [.int i, .int j] ∧ Q (.int (if j < i then j else i)) H
def rMaxU (K : PySem.W.Frag) : List V → Hp → VK → Prop := fun xs H Q => rMax2 xs H Q ∨ rMax K xs H Q
def rMinU (K : PySem.W.Frag) : List V → Hp → VK → Prop := fun xs H Q => rMin2 xs H Q ∨ rMin K xs H Q
theorem call_maxU (hc : X.calm = true) : CallR X (.builtin "max") (rMaxU X.K) := orC (call_max2 hc) (cr_max hc)
theorem call_minU (hc : X.calm = true) : CallR X (.builtin "min") (rMinU X.K) := orC (call_min2 hc) (cr_min hc)
def rPopU : V → List V → Hp → VK → Prop := fun x vs H Q => rPop x vs H Q ∨ rPopAt x vs H Q
theorem mt_popU : MtM X "list.pop" rPopU := by
  intro pins s σ H x xs v us Q I rx rs q
  rcases q with q | q
  · exact mt_pop pins s σ H x xs v us Q I rx rs q
  · exact mt_popAt pins s σ H x xs v us Q I rx rs q
/-- a call with keywords alone -/
theorem pe_callN0 {CX : CXT} {k : Nat} {f : Addr} {fd : FuncData} {ps ks : List Str} {sp : Sp} {x : Str} {E : XK} {kws : List Keyword} {tk : TA} {p pos : Pos} {g : List Value → List Value → List Value} {gV : List V → List V → List V} (F : FnOk X.prog X.w X.K X.mg X.base CX k f fd ps sp) (hr : Room k X.A) (hg : Gl X x) (hm : X.mg x = some (.ref f)) (hk : PySem.W.keepIn X.K (.ref f) = true) (hb : KBn X.K fd ps 0 ks g gV) (hx : Passes CX X E)
    (hkw : PK X kws tk) (hall : (backToKw pos (keywordEach kws X.env)).all (·.1.isSome) = true := by rfl) (hks : (backToKw pos (keywordEach kws X.env)).filterMap (·.1) = ks := by rfl)
    (hdb : (x == ("__debug__" : Str)) = false := by decide)
    (hpl : ((backTo pos (starEach [] X.env)).any (·.1) || (backToKw pos (keywordEach kws X.env)).any (·.1.isNone)) = false := by rfl) :
    PE X (.Call (.Name x p) [] kws pos) (tCallN 0 ks.length sp gV E tNil tk) := by
  refine ⟨fun pins s σ H Q I h => ?_⟩
  refine wpAny_Call_Name_kw (ld_glob I hg hm ?_ hdb)
  refine PySem.W.callWith_KW0 (h₀ := X.base) I.ok.mod.kin hk hall (thn (hkw.run pos pins s σ H _ I h) fun ws s2 ⟨zs, H2, I2, rz, l1, l2, q2⟩ => ⟨I2.kIn, ?_⟩) hpl
  rw [hks]
  exact run_fnN F hr hb hx I2 .nil rz l1 l2 q2
end
/-! ### what they ask -/
section
variable {K : PySem.W.Frag} {Γ : G} {μ : Mu} {R : W → Mu → Prop} {ta tb te : TE}
theorem ao_l {r r' : R2} {x y : W} (h : AO K r x y μ R) : AO K (fun x y H Q => r x y H Q ∨ r' x y H Q) x y μ R := fun A M H v u mo rv ru Q q => .inl (h A M H v u mo rv ru Q q)
theorem ao_r {r r' : R2} {x y : W} (h : AO K r' x y μ R) : AO K (fun x y H Q => r x y H Q ∨ r' x y H Q) x y μ R := fun A M H v u mo rv ru Q q => .inr (h A M H v u mo rv ru Q q)
theorem ac_l {r r' : List V → Hp → VK → Prop} {xs : List W} (h : AC K r xs μ R) : AC K (fun xs H Q => r xs H Q ∨ r' xs H Q) xs μ R := fun A M H v mo rv Q q => .inl (h A M H v mo rv Q q)
theorem ac_r {r r' : List V → Hp → VK → Prop} {xs : List W} (h : AC K r' xs μ R) : AC K (fun xs H Q => r xs H Q ∨ r' xs H Q) xs μ R := fun A M H v mo rv Q q => .inr (h A M H v mo rv Q q)
theorem am_l {r r' : V → List V → Hp → VK → Prop} {x : W} {xs : List W} (h : AM K r x xs μ R) : AM K (fun x xs H Q => r x xs H Q ∨ r' x xs H Q) x xs μ R := fun A M H v vs mo rv rs Q q => .inl (h A M H v vs mo rv rs Q q)
theorem am_r {r r' : V → List V → Hp → VK → Prop} {x : W} {xs : List W} (h : AM K r' x xs μ R) : AM K (fun x xs H Q => r x xs H Q ∨ r' x xs H Q) x xs μ R := fun A M H v vs mo rv rs Q q => .inr (h A M H v vs mo rv rs Q q)
theorem ai_l {w w' : TI} {RI : List W → (Mu → Prop) → Mu → Prop} (h : AI K w Γ μ RI) : AI K (fun σ H R => w σ H R ∨ w' σ H R) Γ μ RI := fun A M σ H c Q q => .inl (h A M σ H c Q q)
theorem ai_r {w w' : TI} {RI : List W → (Mu → Prop) → Mu → Prop} (h : AI K w' Γ μ RI) : AI K (fun σ H R => w σ H R ∨ w' σ H R) Γ μ RI := fun A M σ H c Q q => .inr (h A M σ H c Q q)
theorem asl_l {r r' : V → Option Int → Option Int → Hp → VK → Prop} {x : W} {lo hi : Option Int} (h : ASl K r x lo hi μ R) : ASl K (fun x l u H Q => r x l u H Q ∨ r' x l u H Q) x lo hi μ R := fun A M H v mo rv Q q => .inl (h A M H v mo rv Q q)
theorem asl_r {r r' : V → Option Int → Option Int → Hp → VK → Prop} {x : W} {lo hi : Option Int} (h : ASl K r' x lo hi μ R) : ASl K (fun x l u H Q => r x l u H Q ∨ r' x l u H Q) x lo hi μ R := fun A M H v mo rv Q q => .inr (h A M H v mo rv Q q)
/-! +, -, *, //, %, ** -/
theorem o_addI {i j : Int} (k : R (.d (.int (i + j))) μ) : AO K (rAddU K) (.d (.int i)) (.d (.int j)) μ R := ao_l (ao_iI (g := fun i j => i + j) k)
theorem o_addL {x y : W} {ws zs : List W} (hx : LN μ x ws) (hy : LN μ y zs) (hl : ws.length + zs.length ≤ sizeLine) (q : NL (ws ++ zs) μ R) : AO K (rAddU K) x y μ R := ao_r (ao_l (ao_cat hx hy hl q))
theorem ao_addS {x y : PySem.Str} (hl : x.length + y.length ≤ sizeLine) (q : R (.d (.str (x ++ y))) μ) : AO K rAddS (.d (.str x)) (.d (.str y)) μ R := fun A M H v u mo rv ru Q h => by
  rw [vr_str rv, vr_str ru]
  exact ⟨x, y, rfl, rfl, hl, h M H _ _ μ mo Eff.refl (.d (.str _)) q⟩
theorem o_addS {x y : PySem.Str} (hl : x.length + y.length ≤ sizeLine) (q : R (.d (.str (x ++ y))) μ) : AO K (rAddU K) (.d (.str x)) (.d (.str y)) μ R := ao_r (ao_r (ao_r (ao_addS hl q)))
theorem o_addT {x y : W} {ws zs : List W} (hx : TW x ws) (hy : TW y zs) (h0 : ws ≠ []) (h1 : zs ≠ []) (hl : ws.length + zs.length ≤ sizeLine) (q : NT (ws ++ zs) μ R) : AO K (rAddU K) x y μ R := ao_r (ao_r (ao_l fun A M H v u mo rv ru Q h => by
  obtain ⟨a, vs, rfl, ha, ra⟩ := hx.get rv
  obtain ⟨b, us, rfl, hb, rb⟩ := hy.get ru
  have n1 : vs ≠ [] := fun z => by
    subst z
    cases ra
    exact h0 rfl
  have n2 : us ≠ [] := fun z => by
    subst z
    cases rb
    exact h1 rfl
  refine ⟨a, b, vs, us, rfl, rfl, Evl.ex_t vw_le ha, Evl.ex_t vw_le hb, n1, by rw [ra.length, rb.length]; exact hl, ?_⟩
  first
    | exact ⟨fun z => absurd z n2, fun _ p hp => by
        obtain ⟨w, m2, e2, r2, hR⟩ := q.use mo (ra.append rb) hp
        exact h M _ _ w μ m2 e2 r2 hR⟩
    | exact ⟨fun z => absurd z n2, fun p hp => by
        obtain ⟨w, m2, e2, r2, hR⟩ := q.use mo (ra.append rb) hp
        exact h M _ _ w μ m2 e2 r2 hR⟩))
theorem o_subI {i j : Int} (k : R (.d (.int (i - j))) μ) : AO K rSubI (.d (.int i)) (.d (.int j)) μ R := ao_iI (g := fun i j => i - j) k
theorem o_mulI {i j : Int} (hc : CMul i j) (k : R (.d (.int (i * j))) μ) : AO K rMulU (.d (.int i)) (.d (.int j)) μ R := ao_l (ao_cI (g := fun i j => i * j) hc k)
theorem o_mulX {i j : Int} (hc : CMulX i j) (k : R (.d (.int (i * j))) μ) : AO K rMulU (.d (.int i)) (.d (.int j)) μ R := ao_r (ao_l (ao_cI (g := fun i j => i * j) hc k))
theorem o_rep {x : W} {ws : List W} {k : Int} (hx : LN μ x ws) (hk : -(2 ^ 63) ≤ k ∧ k < 2 ^ 63) (hl : ws.length * k.toNat ≤ sizeLine) (q : NL (List.replicate k.toNat ws).flatten μ R) : AO K rMulU x (.d (.int k)) μ R := ao_r (ao_r (ao_rep hx hk hl q))
theorem o_divI {i j : Int} (hc : CDivW i j) (k : R (.d (.int (i / j))) μ) : AO K rDivI (.d (.int i)) (.d (.int j)) μ R := ao_cI (g := fun i j => i / j) hc k
theorem o_modI {i j : Int} (hc : 0 < j) (k : R (.d (.int (i % j))) μ) : AO K rModI (.d (.int i)) (.d (.int j)) μ R := ao_cI (P := fun _ j => 0 < j) (g := fun i j => i % j) hc k
theorem o_powI {i j : Int} (hc : COp i j) (k : R (.d (.int (i ^ j.toNat))) μ) : AO K rPowI (.d (.int i)) (.d (.int j)) μ R := ao_cI (g := fun i j => i ^ j.toNat) hc k
theorem o_ltI {i j : Int} (k : R (.d (.bool (decide (i < j)))) μ) : AO K rLtU (.d (.int i)) (.d (.int j)) μ R := ao_l (ao_iB (g := fun i j => decide (i < j)) k)
theorem o_leI {i j : Int} (k : R (.d (.bool (decide (i ≤ j)))) μ) : AO K rLeI (.d (.int i)) (.d (.int j)) μ R := ao_iB (g := fun i j => decide (i ≤ j)) k
theorem o_gtI {i j : Int} (k : R (.d (.bool (decide (j < i)))) μ) : AO K rGtI (.d (.int i)) (.d (.int j)) μ R := ao_iB (g := fun i j => decide (j < i)) k
theorem o_geI {i j : Int} (k : R (.d (.bool (decide (j ≤ i)))) μ) : AO K rGeI (.d (.int i)) (.d (.int j)) μ R := ao_iB (g := fun i j => decide (j ≤ i)) k
theorem o_eqI {i j : Int} (k : R (.d (.bool (decide (i = j)))) μ) : AO K (rEqU K) (.d (.int i)) (.d (.int j)) μ R := ao_l (ao_eqI k)
theorem o_neI {i j : Int} (k : R (.d (.bool (!decide (i = j)))) μ) : AO K (rNeU K) (.d (.int i)) (.d (.int j)) μ R := ao_l (ao_neI k)
theorem o_eqB {i j : Bool} (k : R (.d (.bool (decide (i = j)))) μ) : AO K (rEqU K) (.d (.bool i)) (.d (.bool j)) μ R := ao_l (ao_eqB k)
theorem o_neB {i j : Bool} (k : R (.d (.bool (!decide (i = j)))) μ) : AO K (rNeU K) (.d (.bool i)) (.d (.bool j)) μ R := ao_l (ao_neB k)
theorem o_eqS {i j : PySem.Str} (k : R (.d (.bool (decide (i = j)))) μ) : AO K (rEqU K) (.d (.str i)) (.d (.str j)) μ R := ao_l (ao_eqS k)
theorem o_neS {i j : PySem.Str} (k : R (.d (.bool (!decide (i = j)))) μ) : AO K (rNeU K) (.d (.str i)) (.d (.str j)) μ R := ao_l (ao_neS k)
theorem o_eqD {x y : W} {d e : PyData} (hx : Rs μ x d) (hy : Rs μ y e) (sd : SeqAt.shaped d = true) (se : SeqAt.shaped e = true) (k : R (.d (.bool (PyData.eqv d e))) μ) : AO K (rEqU K) x y μ R := ao_r (ao_eqD hx hy sd se k)
theorem o_neD {x y : W} {d e : PyData} (hx : Rs μ x d) (hy : Rs μ y e) (sd : SeqAt.shaped d = true) (se : SeqAt.shaped e = true) (k : R (.d (.bool (!PyData.eqv d e))) μ) : AO K (rNeU K) x y μ R := ao_r (ao_neD hx hy sd se k)
theorem o_is {x : W} {neg : Bool} (k : R (.d (.bool (if neg then !isNon x else isNon x))) μ) : AO K (rIsU neg) x (.d .none) μ R := fun A M H v u mo rv ru Q h => by
  rw [vr_none ru]
  refine .inl ⟨rfl, ?_⟩
  rw [vr_isN rv]
  exact h M H _ _ μ mo Eff.refl (.d (.bl _)) k
theorem o_isB {a b neg : Bool} (k : R (.d (.bool (if neg then !decide (a = b) else decide (a = b)))) μ) : AO K (rIsU neg) (.d (.bool a)) (.d (.bool b)) μ R := fun A M H v u mo rv ru Q h => by
  rw [vr_bool rv, vr_bool ru]
  exact .inr ⟨a, b, rfl, rfl, h M H _ _ μ mo Eff.refl (.d (.bl _)) k⟩
/-! items -/
theorem o_ixL {x z : W} {ws : List W} {i : Int} (hx : LW μ x ws) (hz : atI ws i = some z) (q : R z μ) : AO K (rIx K) x (.d (.int i)) μ R := ao_l (ao_ixL hx hz q)
theorem o_ixT {x z : W} {ws : List W} {i : Int} (hx : TW x ws) (hz : atI ws i = some z) (q : R z μ) : AO K (rIx K) x (.d (.int i)) μ R := ao_r (ao_l (ao_ixT hx hz q))
theorem o_ixS {x : PySem.Str} {i : Int} {c : Nat} (hl : x.length ≤ sizeLine) (hc : atI x.cps.toList i = some c) (q : R (.d (.str ⟨#[c]⟩)) μ) : AO K (rIx K) (.d (.str x)) (.d (.int i)) μ R := ao_r (ao_r (ao_ixS hl hc q))
theorem o_slL {x : W} {ws : List W} {lo hi : Option Int} (hx : LW μ x ws) (q : NL (cutW ws lo hi) μ R) : ASl K (rSlU K) x lo hi μ R := asl_l (as_slL hx q)
theorem o_slS {x : PySem.Str} {lo hi : Option Int} (hl : x.length ≤ sizeLine) (q : R (.d (.str (cutS x lo hi))) μ) : ASl K (rSlU K) (.d (.str x)) lo hi μ R := asl_r (asl_r (as_slS hl q))
/-! truth -/
inductive TrW (μ : Mu) : W → Bool → Prop
  | non : TrW μ (.d .none) false
  | bl (b : Bool) : TrW μ (.d (.bool b)) b
  | int (i : Int) : TrW μ (.d (.int i)) (i != 0)
  | str (x : PySem.Str) (h : x.length ≤ sizeLine) : TrW μ (.d (.str x)) ((x.length : Int) != 0)
  | lst {w : W} {ws : List W} (h : LW μ w ws) : TrW μ w (!ws.isEmpty)
  | tup {w : W} {ws : List W} (h : TW w ws) : TrW μ w (!ws.isEmpty)
theorem vrs_empty {Hv : Hp} {M : List Addr} {vs : List V} {ws : List W} (h : VRs K Hv M vs ws) : vs.isEmpty = ws.isEmpty := by cases h <;> rfl
theorem TrW.ok {A : Addr → Prop} {M : List Addr} {H : Hp} {w : W} {v : V} {b : Bool} (mo : MOk K A M H μ) (r : VR K (vw A M μ H) M v w) (h : TrW μ w b) : TruV K v H b := by
  cases h with
  | non => rw [vr_none r]; rfl
  | bl b => rw [vr_bool r]; rfl
  | int i => rw [vr_int r]; rfl
  | str x hl => rw [vr_str r]; exact ⟨hl, rfl⟩
  | lst hl =>
    obtain ⟨a, vs, rfl, hs, rs⟩ := hl.get mo r
    exact .inl ⟨vs, hs, by rw [vrs_empty rs]⟩
  | tup hl =>
    obtain ⟨a, vs, rfl, hs, rs⟩ := hl.get r
    exact .inr (.inl ⟨vs, Evl.ex_t vw_le hs, by rw [vrs_empty rs]⟩)
theorem at_tru {RT : Bool → Mu → Prop} (h : AX K te Γ μ fun w μ1 => ∃ b, TrW μ1 w b ∧ RT b μ1) : AXT K (tTru K te) Γ μ RT := fun A M σ H c Q q =>
  h A M σ H c _ fun M1 H1 v w μ1 mo1 e1 r1 ⟨b, hb, hR⟩ => ⟨b, hb.ok mo1 r1, q M1 H1 b μ1 mo1 e1 hR⟩
theorem at_truB {RT : Bool → Mu → Prop} (h : AX K te Γ μ fun w μ1 => ∃ b, w = .d (.bool b) ∧ RT b μ1) : AXT K (tTru K te) Γ μ RT := at_tru (ax_weak h fun w μ' ⟨b, e, r⟩ => ⟨b, by rw [e]; exact .bl b, r⟩)
theorem ax_andT (h : AX K ta Γ μ fun x μ1 => ∃ b, TrW μ1 x b ∧ if b = true then AX K tb Γ μ1 R else R x μ1) : AX K (tAndT K ta tb) Γ μ R := fun A M σ H c Q q =>
  h A M σ H c _ fun M1 H1 v x μ1 mo1 e1 r1 ⟨b, hb, h1⟩ => by
    refine ⟨b, hb.ok mo1 r1, ?_⟩
    cases b with
    | true =>
      show tb σ H1 Q
      exact h1 A M1 σ H1 (c.eff e1 mo1) Q fun M2 H2 z w μ2 mo2 e2 r2 h2 => q M2 H2 z w μ2 mo2 (e1.trans e2) r2 h2
    | false => exact q M1 H1 _ _ μ1 mo1 e1 r1 h1
theorem ax_orT (h : AX K ta Γ μ fun x μ1 => ∃ b, TrW μ1 x b ∧ if b = true then R x μ1 else AX K tb Γ μ1 R) : AX K (tOrT K ta tb) Γ μ R := fun A M σ H c Q q =>
  h A M σ H c _ fun M1 H1 v x μ1 mo1 e1 r1 ⟨b, hb, h1⟩ => by
    refine ⟨b, hb.ok mo1 r1, ?_⟩
    cases b with
    | false =>
      show tb σ H1 Q
      exact h1 A M1 σ H1 (c.eff e1 mo1) Q fun M2 H2 z w μ2 mo2 e2 r2 h2 => q M2 H2 z w μ2 mo2 (e1.trans e2) r2 h2
    | true => exact q M1 H1 _ _ μ1 mo1 e1 r1 h1
theorem ax_notT (h : AX K ta Γ μ fun x μ1 => ∃ b, TrW μ1 x b ∧ R (.d (.bool (!b))) μ1) : AX K (tNotT K ta) Γ μ R := fun A M σ H c Q q =>
  h A M σ H c _ fun M1 H1 v x μ1 mo1 e1 r1 ⟨b, hb, h1⟩ => ⟨b, hb.ok mo1 r1, q M1 H1 _ _ μ1 mo1 e1 (.d (.bl _)) h1⟩
theorem ax_chain {r r' : R2} {tc : TE} (h : AX K ta Γ μ fun x μ1 => AX K tb Γ μ1 fun y μ2 => AO K r x y μ2 fun z μ3 => ∃ b, z = .d (.bool b) ∧ if b = true then AX K tc Γ μ3 fun u μ4 => AO K r' y u μ4 R else R (.d (.bool false)) μ3) : AX K (tChain r r' ta tb tc) Γ μ R := fun A M σ H c Q q =>
  h A M σ H c _ fun M1 H1 v x μ1 mo1 e1 r1 h1 => h1 A M1 σ H1 (c.eff e1 mo1) _ fun M2 H2 u y μ2 mo2 e2 r2 h2 => h2 A M2 H2 v u mo2 (r1.mono e2.ex e2.pre) r2 _ fun M3 H3 z w μ3 mo3 e3 r3 ⟨b, hb, h3⟩ => by
    subst hb
    have e13 := (e1.trans e2).trans e3
    refine ⟨b, vr_bool r3, ?_⟩
    cases b with
    | true => exact h3 A M3 σ H3 (c.eff e13 mo3) _ fun M4 H4 u4 w4 μ4 mo4 e4 r4 h4 => h4 A M4 H4 u u4 mo4 (r2.mono (e3.trans e4).ex (e3.trans e4).pre) r4 Q fun M5 H5 z5 w5 μ5 mo5 e5 r5 h5 => q M5 H5 z5 w5 μ5 mo5 ((e13.trans e4).trans e5) r5 h5
    | false => exact q M3 H3 _ _ μ3 mo3 e13 (.d (.bl _)) h3
/-! calls of built-ins -/
theorem c_lenL {x : W} {ws : List W} (hx : LW μ x ws) (q : R (.d (.int ws.length)) μ) : AC K (rLenU K) [x] μ R := fun A M H vs mo rs Q h => by
  cases rs with
  | cons rw rn =>
    cases rn
    obtain ⟨a, us, rfl, hs, ru⟩ := hx.get mo rw
    refine ⟨_, _, rfl, .inl ⟨us, hs, rfl⟩, ?_⟩
    rw [ru.length]
    exact h M H _ _ μ mo Eff.refl (.d (.int _)) q
theorem c_lenT {x : W} {ws : List W} (hx : TW x ws) (q : R (.d (.int ws.length)) μ) : AC K (rLenU K) [x] μ R := fun A M H vs mo rs Q h => by
  cases rs with
  | cons rw rn =>
    cases rn
    obtain ⟨a, us, rfl, hs, ru⟩ := hx.get rw
    refine ⟨_, _, rfl, .inr ⟨us, Evl.ex_t vw_le hs, rfl⟩, ?_⟩
    rw [ru.length]
    exact h M H _ _ μ mo Eff.refl (.d (.int _)) q
theorem c_lenS {x : PySem.Str} (hl : x.length ≤ sizeLine) (q : R (.d (.int x.length)) μ) : AC K (rLenU K) [.d (.str x)] μ R := fun A M H vs mo rs Q h => by
  cases rs with
  | cons rw rn =>
    cases rn
    rw [vr_str rw]
    exact ⟨_, x.length, rfl, ⟨hl, rfl⟩, h M H _ _ μ mo Eff.refl (.d (.int _)) q⟩
theorem c_int {i : Int} (q : R (.d (.int i)) μ) : AC K rIntU [.d (.int i)] μ R := ac_int q
theorem c_intB {i : Bool} (q : R (.d (.int (if i then 1 else 0))) μ) : AC K rIntU [.d (.bool i)] μ R := ac_intB q
theorem c_abs {i : Int} (q : R (.d (.int (if i < 0 then -i else i))) μ) : AC K rAbsU [.d (.int i)] μ R := ac_1 (g := fun i => if i < 0 then -i else i) q
theorem c_max2 {i j : Int} (q : R (.d (.int (max i j))) μ) : AC K (rMaxU K) [.d (.int i), .d (.int j)] μ R := ac_l (ac_2 (g := fun i j => if j > i then j else i) (by
  have e : (if j > i then j else i) = max i j := by omega
  show R (.d (.int (if j > i then j else i))) μ
  rw [e]
  exact q))
theorem c_min2 {i j : Int} (q : R (.d (.int (min i j))) μ) : AC K (rMinU K) [.d (.int i), .d (.int j)] μ R := ac_l (ac_2 (g := fun i j => if j < i then j else i) (by
  have e : (if j < i then j else i) = min i j := by omega
  show R (.d (.int (if j < i then j else i))) μ
  rw [e]
  exact q))
theorem c_maxL {x : W} {ns : List Int} (hx : LW μ x (ns.map fun n => W.d (.int n))) (h0 : 0 < ns.length) (q : ∀ m, m ∈ ns → (∀ y, y ∈ ns → y ≤ m) → R (.d (.int m)) μ) : AC K (rMaxU K) [x] μ R := ac_r (ac_max hx h0 q)
theorem c_minL {x : W} {ns : List Int} (hx : LW μ x (ns.map fun n => W.d (.int n))) (h0 : 0 < ns.length) (q : ∀ m, m ∈ ns → (∀ y, y ∈ ns → m ≤ y) → R (.d (.int m)) μ) : AC K (rMinU K) [x] μ R := ac_r (ac_min hx h0 q)
theorem c_listL {x : W} {ws : List W} (hx : LW μ x ws) (q : NL ws μ R) : AC K (rListU K) [x] μ R := ac_list hx q
theorem c_listT {x : W} {ws : List W} (hx : TW x ws) (q : NL ws μ R) : AC K (rListU K) [x] μ R := ac_listT hx q
theorem c_tupL {x : W} {ws : List W} (hx : LW μ x ws) (q : NT ws μ R) : AC K (rTupU K) [x] μ R := ac_tupleL hx q
/-- isinstance of data against a built-in class -/
def tyD : PyData → String
  | .none => "NoneType"
  | .bool _ => "bool"
  | .int _ => "int"
  | .str _ => "str"
  | .list _ => "list"
  | .tuple _ => "tuple"
  | .dict _ => "dict"
inductive TyW (μ : Mu) : W → String → Prop
  | d (x : PyData) : TyW μ (.d x) (tyD x)
  | m {k : Nat} {ws : List W} (h : μ[k]? = some (some (.lst ws))) : TyW μ (.m k) "list"
  | t (ws : List W) : TyW μ (.t ws) "tuple"
  | f (ws : List W) : TyW μ (.f ws) "list"
theorem tyx_t {H : Hp} {a : Addr} {xs : List V} (h : SqT K H a xs) : TyX K H (.ref a) (.type "tuple") := by
  rcases h with (h | ⟨o, h⟩) | ⟨o, its, n, h, hc, _⟩
  · exact .base (.tup h)
  · exact .fTuple h
  · exact .kTuple h hc
theorem tyx_l {H : Hp} {a : Addr} {xs : List V} (h : SqL K H a xs) : TyX K H (.ref a) (.type "list") := by
  rcases h with (h | ⟨o, h⟩) | ⟨o, its, n, h, hc, _⟩
  · exact .base (.lst h)
  · exact .base (.frz h)
  · exact .kList h hc
theorem TyW.ok {A : Addr → Prop} {M : List Addr} {H : Hp} {w : W} {v : V} {T : String} (mo : MOk K A M H μ) (r : VR K (vw A M μ H) M v w) (h : TyW μ w T) : TyX K H v (.type T) := by
  cases h with
  | d x =>
    cases r with
    | d r =>
      cases r with
      | non => exact .base .non
      | bl b => exact .base (.bl b)
      | int i => exact .base (.int i)
      | str x => exact .base (.str x)
      | lst h1 h2 => exact .base (.lst (vw_le _ _ h1))
      | tup h1 h2 => exact tyx_t (Evl.ex_t vw_le h1)
  | m hk =>
    obtain ⟨a, vs, rfl, hm, e, ru⟩ := cell_get mo r hk
    exact .base (.lst e)
  | t ws =>
    cases r with
    | t h1 h2 => exact tyx_t (Evl.ex_t vw_le h1)
  | f ws =>
    cases r with
    | f h1 h2 => exact tyx_l (Evl.ex_l vw_le h1)
theorem vr_k {v u : V} {Hv : Hp} {M : List Addr} (h : VR K Hv M v (.k u)) : v = u := by cases h; rfl
theorem c_isi {w : W} {S T : String} {b : Bool} (hw : TyW μ w S) (hk : kitB S T = some b) (q : R (.d (.bool b)) μ) : AC K (rIsi K) [w, .k (.ty T)] μ R := fun A M H vs mo rs Q h => by
  cases rs with
  | cons ra rn =>
    cases rn with
    | cons rb rn =>
      cases rn
      rw [vr_k rb]
      exact ⟨_, _, _, _, b, rfl, .ty T, hw.ok mo ra, kit_ty hk, h M H _ _ μ mo Eff.refl (.d (.bl _)) q⟩
end
/-! ### defs by their promises -/
/-- the module's x is a def that keeps F -/
def Has (P : Program) (w : World) (K : PySem.W.Frag) (mg : Str → Option Value) (base : Heap) (x : Str) (ps : List Str) (k : Nat) (F : FS) : Prop :=
  ∃ f fd, FnOk P w K mg base CX0 k f fd ps (spD K F) ∧ mg x = some (.ref f) ∧ PySem.W.keepIn K (.ref f) = true ∧ Binds K fd ps []
/-- .. and may be called with n values and the keywords ks -/
def HasK (P : Program) (w : World) (K : PySem.W.Frag) (mg : Str → Option Value) (base : Heap) (x : Str) (ps : List Str) (k : Nat) (F : FS) (n : Nat) (ks : List Str) (ix : List Nat) : Prop :=
  ∃ f fd, FnOk P w K mg base CX0 k f fd ps (spD K F) ∧ mg x = some (.ref f) ∧ PySem.W.keepIn K (.ref f) = true ∧ KBn K fd ps n ks (fun us ws => perm ix (us ++ ws)) (fun vs zs => perm ix (vs ++ zs))
section
variable {X : Cx} {x : Str} {ps ks : List Str} {k n m : Nat} {F : FS} {e : Expr} {es : List Expr} {ta tk : TA} {p pos : Pos} {kws : List Keyword} {ix : List Nat}
theorem pe_has (h : Has X.prog X.w X.K X.mg X.base x ps k F) (hr : Room k X.A) (ha : PA X (e :: es) ta) (hg : Gl X x := by rfl) (hd : (x == ("__debug__" : Str)) = false := by decide)
    (he : starEach (e :: es) X.env = (false, eval e X.env) :: starEach es X.env := by rfl) (hpl : (backTo pos (starEach es X.env)).any (·.1) = false := by rfl) : PE X (.Call (.Name x p) (e :: es) [] pos) (tCall (spD X.K F) [] E0 ta) := by
  obtain ⟨f, fd, G, hmg, kp, b⟩ := h
  exact pe_call G hr hg hmg kp b .nil pass0 ha hd he hpl
theorem pe_hasN (h : HasK X.prog X.w X.K X.mg X.base x ps k F n ks ix) (hr : Room k X.A) (ha : PA X (e :: es) ta) (hk : PK X kws tk) (hm : ks.length = m := by rfl) (hg : Gl X x := by rfl)
    (hall : (backToKw pos (keywordEach kws X.env)).all (·.1.isSome) = true := by rfl) (hks : (backToKw pos (keywordEach kws X.env)).filterMap (·.1) = ks := by rfl) (hdb : (x == ("__debug__" : Str)) = false := by decide)
    (he : starEach (e :: es) X.env = (false, eval e X.env) :: starEach es X.env := by rfl) (hpl : ((backTo pos (starEach (e :: es) X.env)).any (·.1) || (backToKw pos (keywordEach kws X.env)).any (·.1.isNone)) = false := by rfl) :
    PE X (.Call (.Name x p) (e :: es) kws pos) (tCallN n m (spD X.K F) (fun vs zs => perm ix (vs ++ zs)) E0 ta tk) := by
  subst hm
  obtain ⟨f, fd, G, hmg, kp, b⟩ := h
  exact pe_callN G hr hg hmg kp b pass0 ha hk hall hks hdb he hpl
theorem pe_hasN0 (h : HasK X.prog X.w X.K X.mg X.base x ps k F 0 ks ix) (hr : Room k X.A) (hk : PK X kws tk) (hm : ks.length = m := by rfl) (hg : Gl X x := by rfl)
    (hall : (backToKw pos (keywordEach kws X.env)).all (·.1.isSome) = true := by rfl) (hks : (backToKw pos (keywordEach kws X.env)).filterMap (·.1) = ks := by rfl) (hdb : (x == ("__debug__" : Str)) = false := by decide)
    (hpl : ((backTo pos (starEach [] X.env)).any (·.1) || (backToKw pos (keywordEach kws X.env)).any (·.1.isNone)) = false := by rfl) :
    PE X (.Call (.Name x p) [] kws pos) (tCallN 0 m (spD X.K F) (fun vs zs => perm ix (vs ++ zs)) E0 tNil tk) := by
  subst hm
  obtain ⟨f, fd, G, hmg, kp, b⟩ := h
  exact pe_callN0 G hr hg hmg kp b pass0 hk hall hks hdb hpl
end
theorem has_of {P : Program} {w : World} {K : PySem.W.Frag} {mg : Str → Option Value} {base : Heap} {x qual : Str} {st : Stmt} {f : Addr} {fd : FuncData} {ps : List Str} {k : Nat} {F : FS} (Fu : Fun K x qual st f fd) (m : mg x = some (.ref f)) (G : FnOk P w K mg base CX0 k f fd ps (spD K F))
    (h : ∀ (kV doc pm : Value) (an : Option Addr) (cdv ct : Value) (us : List Value), us.length = ps.length → bindArgs (PySem.W.fnOf x qual (defArgs st) (defBody st) (defScope st) .none kV doc pm an cdv ct) ⟨us, []⟩ = pure (ps.zip us)) : Has P w K mg base x ps k F := ⟨f, fd, G, m, Fu.kp, Fu.binds h⟩
theorem hask_of {P : Program} {w : World} {K : PySem.W.Frag} {mg : Str → Option Value} {base : Heap} {x qual : Str} {st : Stmt} {f : Addr} {fd : FuncData} {ps : List Str} {k : Nat} {F : FS} (Fu : Fun K x qual st f fd) (m : mg x = some (.ref f)) (G : FnOk P w K mg base CX0 k f fd ps (spD K F)) (n : Nat) (ks : List Str) (ix : List Nat)
    (h : ∀ (kV doc pm : Value) (an : Option Addr) (cdv ct : Value) (us ws : List Value), us.length = n → ws.length = ks.length → bindArgs (PySem.W.fnOf x qual (defArgs st) (defBody st) (defScope st) .none kV doc pm an cdv ct) ⟨us, ks.zip ws⟩ = pure (ps.zip (perm ix (us ++ ws)))) : HasK P w K mg base x ps k F n ks ix := by
  obtain ⟨oc, od, kV, doc, pm, an, cdv, ct, osl, rfl, lk, hcd⟩ := Fu.ex
  exact ⟨f, _, G, m, Fu.kp, fun s us ws _ h1 h2 => .of_eq (h kV doc pm an cdv ct us ws h1 h2), fun h1 h2 => vals_perm (h1.append h2) ix⟩
end Pd

/-! cells of one's own are left behind: what is handed out is plain data -/
namespace Pd
open PySem L2
open Evl (Ex)
mutual
inductive Rn (n : Nat) (μ : Mu) : W → PyData → Prop
  | d (x : PyData) : Rn n μ (.d x) x
  | m {k : Nat} {ws : List W} {xs : List PyData} : n ≤ k → μ[k]? = some (some (.lst ws)) → Rns n μ ws xs → Rn n μ (.m k) (.list xs)
  | t {ws : List W} {xs : List PyData} : Rns n μ ws xs → Rn n μ (.t ws) (.tuple xs)
inductive Rns (n : Nat) (μ : Mu) : List W → List PyData → Prop
  | nil : Rns n μ [] []
  | cons {w : W} {x : PyData} {ws : List W} {xs : List PyData} : Rn n μ w x → Rns n μ ws xs → Rns n μ (w :: ws) (x :: xs)
end
theorem Rns.ds {n : Nat} {μ : Mu} : ∀ xs : List PyData, Rns n μ (xs.map W.d) xs
  | [] => .nil
  | x :: xs => .cons (.d x) (Rns.ds xs)
theorem Rns.mp {n : Nat} {μ : Mu} {α : Type} (f : α → PyData) : ∀ xs : List α, Rns n μ (xs.map fun x => W.d (f x)) (xs.map f)
  | [] => .nil
  | x :: xs => .cons (.d (f x)) (Rns.mp f xs)
def DataC : C → Prop
  | .lst ws => ∃ xs : List PyData, ws = xs.map W.d
  | .xd _ _ => False
  | .er _ _ => True
section
variable {K : PySem.W.Frag} {A : Addr → Prop} {M M1 : List Addr} {H H1 : Hp} {μ μ1 μ' : Mu} {cs : Mu}
mutual
theorem vr_cut {Hv H0 : Hp} {n : Nat} (hn : M.length = n) : ∀ {w : W} {v v0 : V}, VR K Hv M1 v w → VR K H0 M v0 w → VR K Hv (M1.take n) v w
  | .d x, _, _, h, _ => by cases h with | d h => exact .d h
  | .m k, _, _, h, g => by
    cases h with
    | m h =>
      cases g with
      | m g =>
        refine .m ?_
        rw [List.getElem?_take, if_pos (by rw [← hn]; exact (List.getElem?_eq_some_iff.mp g).1)]
        exact h
  | .t ws, _, _, h, g => by
    cases h with
    | t h1 h2 =>
      cases g with
      | t g1 g2 => exact .t h1 (vrs_cutM hn h2 g2)
  | .f ws, _, _, h, g => by
    cases h with
    | f h1 h2 =>
      cases g with
      | f g1 g2 => exact .f h1 (vrs_cutM hn h2 g2)
  | .k v, _, _, h, _ => by cases h with | k => exact .k _
theorem vrs_cutM {Hv H0 : Hp} {n : Nat} (hn : M.length = n) : ∀ {ws : List W} {vs vs0 : List V}, VRs K Hv M1 vs ws → VRs K H0 M vs0 ws → VRs K Hv (M1.take n) vs ws
  | [], _, _, h, _ => by cases h with | nil => exact .nil
  | w :: ws, _, _, h, g => by
    cases h with
    | cons h1 h2 =>
      cases g with
      | cons g1 g2 => exact .cons (vr_cut hn h1 g1) (vrs_cutM hn h2 g2)
end
theorem vrs_dataM {Hv : Hp} {M M' : List Addr} {vs : List V} {xs : List PyData} (h : VRs K Hv M vs (xs.map W.d)) : VRs K Hv M' vs (xs.map W.d) := VRs.of_dp h.dp
theorem hid_cut {n : Nat} (hl : μ'.length = n) (h1 : μ1 = μ' ++ cs) {a : Addr} (h : hid A (M1.take n) μ' a) : hid A M1 μ1 a := by
  rcases h with z | ⟨k, c, e1, e2⟩
  · exact .inl z
  · have hk : k < n := by
      have := (List.getElem?_eq_some_iff.mp e2).1
      omega
    rw [List.getElem?_take, if_pos hk] at e1
    exact .inr ⟨k, c, e1, by rw [h1, List.getElem?_append_left (by omega)]; exact e2⟩
mutual
theorem rn_dq {n : Nat} (mo1 : MOk K A M1 H1 μ1) (hl : μ'.length = n) (h1 : μ1 = μ' ++ cs) : ∀ {w : W} {d : PyData} {v : V}, Rn n μ1 w d → VR K (vw A M1 μ1 H1) M1 v w → DQ K (vw A (M1.take n) μ' H1) v d
  | _, _, _, .d x, h => by
    cases h with
    | d h => exact dp_mono (fun a o q => vw_of (fun z => (vw_some q).1 (hid_cut hl h1 z)) (vw_some q).2) h
  | _, _, _, .m hk hc hs, h => by
    obtain ⟨a, vs, rfl, hm, e, ru⟩ := cell_get mo1 h hc
    refine .lst (vw_of (fun z => ?_) e) (rns_dq mo1 hl h1 hs ru)
    rcases z with z | ⟨j, c, e1, e2⟩
    · exact mo1.nA a (List.mem_of_getElem? hm) z
    · have hj : j < n := by
        have := (List.getElem?_eq_some_iff.mp e2).1
        omega
      rw [List.getElem?_take, if_pos hj] at e1
      have l1 := List.getElem?_eq_some_iff.mp hm
      have l2 := List.getElem?_eq_some_iff.mp e1
      have := (List.getElem_inj mo1.nd).mp (l1.2.trans l2.2.symm)
      omega
  | _, _, _, .t hs, h => by
    cases h with
    | t g1 g2 => exact .tup (Evl.ex_t (fun a o q => vw_of (fun z => (vw_some q).1 (hid_cut hl h1 z)) (vw_some q).2) g1) (rns_dq mo1 hl h1 hs g2)
theorem rns_dq {n : Nat} (mo1 : MOk K A M1 H1 μ1) (hl : μ'.length = n) (h1 : μ1 = μ' ++ cs) : ∀ {ws : List W} {ds : List PyData} {vs : List V}, Rns n μ1 ws ds → VRs K (vw A M1 μ1 H1) M1 vs ws → DQs K (vw A (M1.take n) μ' H1) vs ds
  | _, _, _, .nil, h => by cases h; exact .nil
  | _, _, _, .cons g1 g2, h => by
    cases h with
    | cons h1' h2' => exact .cons (rn_dq mo1 hl h1 g1 h1') (rns_dq mo1 hl h1 g2 h2')
end
/-- what is changed of the cells that were there is plain data -/
def Keeps (μ μ' : Mu) : Prop := ∀ (j : Nat) c, μ'[j]? = some (some c) → μ[j]? = some (some c) ∨ DataC c
theorem Keeps.refl (μ : Mu) : Keeps μ μ := fun _ _ h => .inl h
theorem Keeps.set {μ : Mu} {k : Nat} {xs : List PyData} {ws : List W} (e : ws = xs.map W.d := by first | rfl | simp) : Keeps μ (μ.set k (some (.lst ws))) := fun j c h => by
  by_cases hj : k = j
  · subst hj
    rw [List.getElem?_set, if_pos rfl] at h
    split at h
    · have : C.lst ws = c := by simpa using h
      subst this
      exact .inr ⟨xs, e⟩
    · cases h
  · rw [List.getElem?_set, if_neg hj] at h
    exact .inl h
theorem fz_core {v : V} {w : W} {d : PyData} (mo0 : MOk K A M H μ) (mo1 : MOk K A M1 H1 μ1) (e : Eff A M μ H M1 μ1 H1) (h1 : μ1 = μ' ++ cs) (hl : μ'.length = μ.length) (hc : Keeps μ μ') (r : VR K (vw A M1 μ1 H1) M1 v w) (hr : Rn μ.length μ1 w d) :
    ∃ M2, MOk K A M2 H1 μ' ∧ Eff A M μ H M2 μ' H1 ∧ VR K (vw A M2 μ' H1) M2 v (.d d) ∧ M2 = M1.take μ.length := by
  have vx : Ex (vw A M1 μ1 H1) (vw A (M1.take μ.length) μ' H1) := fun a o q => vw_of (fun z => (vw_some q).1 (hid_cut hl h1 z)) (vw_some q).2
  have hM1 : M1.length = μ'.length + cs.length := by rw [mo1.len, h1, List.length_append]
  refine ⟨M1.take μ.length, ⟨by rw [List.length_take]; omega, mo1.nd.sublist (List.take_sublist _ _), fun a m => mo1.nA a (List.mem_of_mem_take m), fun a m => mo1.al a (List.mem_of_mem_take m), mo1.aA, fun k a c e1 e2 => ?_⟩, ⟨fun k a e1 => ?_, e.own, e.ex.trans vx⟩, .d (rn_dq mo1 hl h1 hr r), rfl⟩
  · have hk : k < μ.length := by
      have := (List.getElem?_eq_some_iff.mp e2).1
      omega
    rw [List.getElem?_take, if_pos hk] at e1
    obtain ⟨o, q1, q2⟩ := mo1.ct k a c e1 (by rw [h1, List.getElem?_append_left (by omega)]; exact e2)
    refine ⟨o, q1, ?_⟩
    cases c with
    | lst ws =>
      obtain ⟨vs, rfl, rv⟩ := q2
      refine ⟨vs, rfl, ?_⟩
      rcases hc k _ e2 with z | ⟨xs, rfl⟩
      · have ha : M[k]? = some (M[k]'(by rw [mo0.len]; exact hk)) := List.getElem?_eq_getElem _
        obtain ⟨o0, p1, vs0, rfl, rv0⟩ := mo0.ct k _ _ ha z
        exact (vrs_cutM (n := μ.length) mo0.len rv rv0).mono vx (Pre.refl _)
      · exact vrs_dataM (rv.mono vx (Pre.refl _))
    | xd d w =>
      obtain ⟨q0, v, rfl, rv⟩ := q2
      refine ⟨q0, v, rfl, ?_⟩
      rcases hc k _ e2 with z | z
      · have ha : M[k]? = some (M[k]'(by rw [mo0.len]; exact hk)) := List.getElem?_eq_getElem _
        obtain ⟨o0, p1, _, v0, rfl, rv0⟩ := mo0.ct k _ _ ha z
        exact (vr_cut (n := μ.length) mo0.len rv rv0).mono vx (Pre.refl _)
      · exact z.elim
    | er x d => exact q2
  · have hk : k < μ.length := by
      rw [← mo0.len]
      exact (List.getElem?_eq_some_iff.mp e1).1
    rw [List.getElem?_take, if_pos hk]
    exact e.pre k a e1
end
/-- w, with the cells μ1, is data; the cells that were there ahead (μ) come to μ' -/
def Fz (μ : Mu) (w : W) (μ1 : Mu) (R : W → Mu → Prop) : Prop := ∃ μ' cs d, μ1 = μ' ++ cs ∧ μ'.length = μ.length ∧ Keeps μ μ' ∧ Rn μ.length μ1 w d ∧ R (.d d) μ'
theorem Fz.same {μ : Mu} {cs : Mu} {w : W} {d : PyData} {R : W → Mu → Prop} (hr : Rn μ.length (μ ++ cs) w d) (q : R (.d d) μ) : Fz μ w (μ ++ cs) R := ⟨μ, cs, d, rfl, rfl, Keeps.refl μ, hr, q⟩
theorem Fz.id {μ : Mu} {d : PyData} {R : W → Mu → Prop} (q : R (.d d) μ) : Fz μ (.d d) μ R := ⟨μ, [], d, by simp, rfl, Keeps.refl μ, .d d, q⟩
theorem ax_fz {K : PySem.W.Frag} {Γ : G} {μ : Mu} {te : TE} {R : W → Mu → Prop} (h : AX K te Γ μ fun w μ1 => Fz μ w μ1 R) : AX K te Γ μ R := fun A M σ H c Q q =>
  h A M σ H c Q fun M1 H1 v w μ1 mo1 e1 r1 ⟨μ', cs, d, a1, a2, a3, a4, hR⟩ => by
    obtain ⟨M2, mo2, e2, r2, _⟩ := fz_core c.mo mo1 e1 a1 a2 a3 r1 a4
    exact q M2 H1 v _ μ' mo2 e2 r2 hR
theorem as_fz {K : PySem.W.Frag} {Γ : G} {μ : Mu} {t : TS} {R : W → Mu → Prop} (h : AS K t { nx := fun _ μ1 => Fz μ (.d .none) μ1 R, rt := fun w μ1 => Fz μ w μ1 R } Γ μ) : AS K t { nx := fun _ μ1 => R (.d .none) μ1, rt := R } Γ μ := fun A M σ H c E hE => by
  have hn : ∀ M1 σ1 H1 Γ1 μ1, Cn K A M1 σ1 H1 Γ1 μ1 → Eff A M μ H M1 μ1 H1 → Fz μ (.d .none) μ1 R → E.nx σ1 H1 := fun M1 σ1 H1 Γ1 μ1 c1 e1 ⟨μ', cs, d, a1, a2, a3, a4, hR⟩ => by
    have a4' : Rn μ.length μ1 (.d .none) d := a4
    cases a4'
    obtain ⟨M2, mo2, e2, r2, _⟩ := fz_core c.mo c1.mo e1 a1 a2 a3 (.d .non : VR K (vw A M1 μ1 H1) M1 .non (.d .none)) (.d .none)
    refine hE.nx M2 σ1 H1 (List.replicate σ1.length none) μ' ⟨mo2, by simp, fun i w hw => ?_⟩ e2 hR
    rw [List.getElem?_replicate] at hw
    split at hw <;> cases hw
  exact h A M σ H c E ⟨hn, fun M1 H1 v w μ1 mo1 e1 r1 ⟨μ', cs, d, a1, a2, a3, a4, hR⟩ => by
    obtain ⟨M2, mo2, e2, r2, _⟩ := fz_core c.mo mo1 e1 a1 a2 a3 r1 a4
    exact hE.rt M2 H1 v _ μ' mo2 e2 r2 hR, fun M1 σ1 H1 Γ1 μ1 c1 e1 z => z.elim, fun M1 σ1 H1 Γ1 μ1 c1 e1 z => z.elim, fun _ _ _ _ _ _ _ _ _ _ _ _ z => z.elim⟩
/-! cells by number -/
theorem mu_set {μ : Mu} {k : Nat} {c c' : Option C} (h : μ[k]? = some c) : (μ.set k c')[k]? = some c' := by
  rw [List.getElem?_set, if_pos rfl, if_pos (List.getElem?_eq_some_iff.mp h).1]
theorem mu_ne {μ : Mu} {k j : Nat} {c' : Option C} (h : k ≠ j) : (μ.set k c')[j]? = μ[j]? := by rw [List.getElem?_set, if_neg h]
theorem mu_end {μ : Mu} {c : Option C} : (μ ++ [c])[μ.length]? = some c := by rw [List.getElem?_append_right (Nat.le_refl _)]; simp
theorem mu_setEnd {μ : Mu} {c c' : Option C} : (μ ++ [c]).set μ.length c' = μ ++ [c'] := by rw [List.set_append_right _ _ (Nat.le_refl _)]; simp
theorem mu_app {μ ν : Mu} {k : Nat} {c : Option C} (h : μ[k]? = some c) : (μ ++ ν)[k]? = some c := by rw [List.getElem?_append_left (List.getElem?_eq_some_iff.mp h).1]; exact h
theorem mu_setApp {μ ν : Mu} {k : Nat} {c c' : Option C} (h : μ[k]? = some c) : (μ ++ ν).set k c' = μ.set k c' ++ ν := List.set_append_left _ _ (List.getElem?_eq_some_iff.mp h).1
abbrev wInts (ns : List Int) : List W := ns.map fun n => W.d (.int n)
abbrev dInts (ns : List Int) : PyData := .list (ns.map PyData.int)
theorem ints_d (ns : List Int) : wInts ns = (ns.map PyData.int).map W.d := by simp [wInts]
theorem lw_ints (μ : Mu) (ns : List Int) : LW μ (.d (dInts ns)) (wInts ns) := by
  rw [ints_d]
  exact .d _
theorem ln_ints (μ : Mu) (ns : List Int) : LN μ (.d (dInts ns)) (wInts ns) := by
  rw [ints_d]
  exact .d _
theorem rss_ints {μ : Mu} (ns : List Int) : Rss μ (wInts ns) (ns.map PyData.int) := by
  rw [ints_d]
  exact Rss.ds _
theorem rns_ints {n : Nat} {μ : Mu} (ns : List Int) : Rns n μ (wInts ns) (ns.map PyData.int) := by
  rw [ints_d]
  exact Rns.ds _
theorem eqvAll_ints : ∀ xs ys : List Int, PyData.eqvAll (xs.map PyData.int) (ys.map PyData.int) = decide (xs = ys)
  | [], [] => rfl
  | [], _ :: _ => rfl
  | _ :: _, [] => rfl
  | x :: xs, y :: ys => by
    rw [List.map_cons, List.map_cons, PyData.eqvAll, eqvAll_ints xs ys, PyData.eqv]
    by_cases h : x = y
    · subst h
      by_cases h2 : xs = ys
      · subst h2; simp
      · simp [h2]
    · simp [h]
theorem eqv_ints (xs ys : List Int) : PyData.eqv (dInts xs) (dInts ys) = decide (xs = ys) := eqvAll_ints xs ys
theorem canLayAll_ints : ∀ xs : List Int, PyData.canLayAll0 (xs.map PyData.int) = true
  | [] => rfl
  | x :: xs => by rw [List.map_cons, PyData.canLayAll0, canLayAll_ints xs]; rfl
theorem depthAll_ints : ∀ xs : List Int, PyData.depthAll (xs.map PyData.int) ≤ 1
  | [] => by simp [PyData.depthAll]
  | x :: xs => by
    rw [List.map_cons, PyData.depthAll]
    have := depthAll_ints xs
    simp only [PyData.depth]
    omega
theorem shaped_ints (xs : List Int) : SeqAt.shaped (dInts xs) = true := by
  unfold SeqAt.shaped
  have h1 : PyData.canLay0 (dInts xs) = true := canLayAll_ints xs
  have h2 : PyData.depth (dInts xs) ≤ 64 := by
    have := depthAll_ints xs
    simp only [dInts, PyData.depth]
    omega
  rw [h1, decide_eq_true h2]
  rfl
end Pd

namespace Pd
open PySem L2
theorem pow_ok {i j : Int} {a : Nat} (hj : 0 ≤ j) (ha : i.natAbs < 2 ^ a) (h : (a : Int) * j ≤ 2 ^ 27) : COp i j :=
  ⟨hj, Int.le_trans (Int.mul_le_mul_of_nonneg_right (Int.ofNat_le.mpr (PyProof.Rows.intBits_le ha)) hj) h⟩
theorem sz_ok {n : Nat} (h : n ≤ 100000) : n ≤ sizeLine := Nat.le_trans h (by decide)
theorem sz_lt {n : Nat} (h : n < 100000) : n < sizeLine := Nat.lt_of_lt_of_le h (by decide)
theorem atI_get {α : Type} {xs : List α} {i : Nat} {x : α} (h : xs[i]? = some x) : atI xs (i : Int) = some x := by
  unfold atI ixN
  have hi := (List.getElem?_eq_some_iff.mp h).1
  rw [if_pos (by omega), if_pos (by omega)]
  simpa using h
theorem atI_end {α : Type} {xs : List α} {x : α} : atI (xs ++ [x]) (-1) = some x := by
  unfold atI ixN
  rw [if_neg (by omega), if_pos (by simp; omega)]
  have e : ((-1 : Int) + ((xs ++ [x]).length : Int)).toNat = xs.length := by simp; omega
  rw [e]
  simp
theorem atI_int {ns : List Int} {i : Int} {x : Int} (h : atI ns i = some x) : atI (wInts ns) i = some (.d (.int x)) := by
  unfold atI at h ⊢
  rw [show (wInts ns).length = ns.length by simp]
  cases e : ixN ns.length i with
  | none => rw [e] at h; cases h
  | some j =>
    rw [e] at h
    have h' : ns[j]? = some x := h
    show (wInts ns)[j]? = _
    rw [List.getElem?_map, h']
    rfl
theorem ite_t {c : Bool} {A B : Prop} (hc : c = true) (h : A) : if c = true then A else B := by rw [if_pos hc]; exact h
theorem ite_f {c : Bool} {A B : Prop} (hc : c = false) (h : B) : if c = true then A else B := by rw [hc]; rw [if_neg (by decide)]; exact h
theorem ite_b {c : Bool} {A B : Prop} (h1 : c = true → A) (h2 : c = false → B) : if c = true then A else B := by
  cases c with
  | true => rw [if_pos rfl]; exact h1 rfl
  | false => rw [if_neg (by decide)]; exact h2 rfl
/-- a cell that was found: the cells as they are are it -/
theorem cut_int {ns : List Int} {lo hi : Option Int} : cutW (wInts ns) lo hi = wInts ((ns.drop (HT.sIx ns.length 0 lo)).take (HT.sIx ns.length ns.length hi - HT.sIx ns.length 0 lo)) := by
  unfold cutW wInts
  rw [List.length_map, List.map_take, List.map_drop]
end Pd
namespace Pd
open PySem L2
section
variable {μ : Mu} {R : W → Mu → Prop}
theorem NL.d0 (h : R (.d (.list [])) μ) : NL [] μ R := NL.d (xs := []) h rfl
theorem NL.d1 {a : PyData} (h : R (.d (.list [a])) μ) : NL [W.d a] μ R := NL.d (xs := [a]) h rfl
theorem NL.d2 {a b : PyData} (h : R (.d (.list [a, b])) μ) : NL [W.d a, W.d b] μ R := NL.d (xs := [a, b]) h rfl
theorem NL.d3 {a b c : PyData} (h : R (.d (.list [a, b, c])) μ) : NL [W.d a, W.d b, W.d c] μ R := NL.d (xs := [a, b, c]) h rfl
theorem NL.di {ns : List Int} (h : R (.d (dInts ns)) μ) : NL (wInts ns) μ R := NL.d (xs := ns.map PyData.int) h (ints_d ns)
theorem NT.d1 {a : PyData} (h : R (.d (.tuple [a])) μ) : NT [W.d a] μ R := NT.d (xs := [a]) h rfl
theorem NT.d2 {a b : PyData} (h : R (.d (.tuple [a, b])) μ) : NT [W.d a, W.d b] μ R := NT.d (xs := [a, b]) h rfl
theorem NT.d3 {a b c : PyData} (h : R (.d (.tuple [a, b, c])) μ) : NT [W.d a, W.d b, W.d c] μ R := NT.d (xs := [a, b, c]) h rfl
end
theorem eqv_nil (ns : List Int) : PyData.eqv (dInts ns) (.list []) = decide (ns = []) := eqv_ints ns []
theorem mu_set2 {μ : Mu} {k : Nat} {a b : Option C} : (μ.set k a).set k b = μ.set k b := List.set_set ..
end Pd
namespace Pd
open PySem L2
theorem TW.d1 {a : PyData} : TW (.d (.tuple [a])) [.d a] := .d [a]
theorem TW.d2 {a b : PyData} : TW (.d (.tuple [a, b])) [.d a, .d b] := .d [a, b]
theorem TW.d3 {a b c : PyData} : TW (.d (.tuple [a, b, c])) [.d a, .d b, .d c] := .d [a, b, c]
theorem TW.d4 {a b c e : PyData} : TW (.d (.tuple [a, b, c, e])) [.d a, .d b, .d c, .d e] := .d [a, b, c, e]
theorem TW.d5 {a b c e f : PyData} : TW (.d (.tuple [a, b, c, e, f])) [.d a, .d b, .d c, .d e, .d f] := .d [a, b, c, e, f]
end Pd
namespace Pd
open PySem L2
theorem tyw_l {μ : Mu} {xs : List PyData} : TyW μ (.d (.list xs)) "list" := .d (.list xs)
theorem tyw_t {μ : Mu} {xs : List PyData} : TyW μ (.d (.tuple xs)) "tuple" := .d (.tuple xs)
theorem tyw_b {μ : Mu} {x : Bool} : TyW μ (.d (.bool x)) "bool" := .d (.bool x)
theorem tyw_i {μ : Mu} {x : Int} : TyW μ (.d (.int x)) "int" := .d (.int x)
theorem tyw_s {μ : Mu} {x : Str} : TyW μ (.d (.str x)) "str" := .d (.str x)
theorem tyw_n {μ : Mu} : TyW μ (.d .none) "NoneType" := .d .none
end Pd
namespace Pd
open PySem L2
theorem kb_NoneType_list : kitB "NoneType" "list" = some false := by decide +kernel
theorem kb_NoneType_tuple : kitB "NoneType" "tuple" = some false := by decide +kernel
theorem kb_NoneType_bool : kitB "NoneType" "bool" = some false := by decide +kernel
theorem kb_NoneType_int : kitB "NoneType" "int" = some false := by decide +kernel
theorem kb_NoneType_str : kitB "NoneType" "str" = some false := by decide +kernel
theorem kb_bool_list : kitB "bool" "list" = some false := by decide +kernel
theorem kb_bool_tuple : kitB "bool" "tuple" = some false := by decide +kernel
theorem kb_bool_bool : kitB "bool" "bool" = some true := by decide +kernel
theorem kb_bool_int : kitB "bool" "int" = some true := by decide +kernel
theorem kb_bool_str : kitB "bool" "str" = some false := by decide +kernel
theorem kb_int_list : kitB "int" "list" = some false := by decide +kernel
theorem kb_int_tuple : kitB "int" "tuple" = some false := by decide +kernel
theorem kb_int_bool : kitB "int" "bool" = some false := by decide +kernel
theorem kb_int_int : kitB "int" "int" = some true := by decide +kernel
theorem kb_int_str : kitB "int" "str" = some false := by decide +kernel
theorem kb_str_list : kitB "str" "list" = some false := by decide +kernel
theorem kb_str_tuple : kitB "str" "tuple" = some false := by decide +kernel
theorem kb_str_bool : kitB "str" "bool" = some false := by decide +kernel
theorem kb_str_int : kitB "str" "int" = some false := by decide +kernel
theorem kb_str_str : kitB "str" "str" = some true := by decide +kernel
theorem kb_list_list : kitB "list" "list" = some true := by decide +kernel
theorem kb_list_tuple : kitB "list" "tuple" = some false := by decide +kernel
theorem kb_list_bool : kitB "list" "bool" = some false := by decide +kernel
theorem kb_list_int : kitB "list" "int" = some false := by decide +kernel
theorem kb_list_str : kitB "list" "str" = some false := by decide +kernel
theorem kb_tuple_list : kitB "tuple" "list" = some false := by decide +kernel
theorem kb_tuple_tuple : kitB "tuple" "tuple" = some true := by decide +kernel
theorem kb_tuple_bool : kitB "tuple" "bool" = some false := by decide +kernel
theorem kb_tuple_int : kitB "tuple" "int" = some false := by decide +kernel
theorem kb_tuple_str : kitB "tuple" "str" = some false := by decide +kernel
end Pd

/-! Err: own error classes whose base's __init__ says super().__init__(word) and self.value = value. -/
namespace PySem
namespace OwnErr
open PySem.W PySem.Calls PyProof.Rows PySem.HandSPX
abbrev eA (p1 p2 : Pos) : Arguments := { posonlyargs := [], args := [{ arg := "self", annotation := none, pos := p1 }, { arg := "value", annotation := none, pos := p2 }], vararg := none, kwonlyargs := [], kw_defaults := [], kwarg := none, defaults := [] }
abbrev eB (wd : Str) (i : Nat) (q : Nat → Pos) : List Stmt :=
  [.Expr (.Call (.Attribute (.Call (.Name "super" (q 0)) [] [] (q 1)) "__init__" (q 2)) [.Constant (.str wd) i (q 3)] [] (q 4)) (q 5), .Assign [.Attribute (.Name "self" (q 6)) "value" (q 7)] (.Name "value" (q 8)) (q 9)]
abbrev eS : Scope := { kind := .function, names := [(PySem.Str.ofString "self", .local), (PySem.Str.ofString "value", .local), (PySem.Str.ofString "__class__", .free), (PySem.Str.ofString "super", .globalImplicit)], isGenerator := false, isCoroutine := false, more := [] }
/-- what the written part says of the base D and of its __init__ at fI -/
structure Bse (P : Program) (K : Frag) (D fI : Addr) : Prop where
  fn : ∃ (oc kV doc pm ct ccl cl : Value) (od an cdd cld : Option Addr) (cda cc : Addr) (osl ccs csl : Array (Option Value)) (vs : Array Value) (file : Str) (tf : Tok) (p1 p2 : Pos) (wd : Str) (i : Nat) (q : Nat → Pos),
    K.lookup fI = some ⟨oc, od, .func (ksFn "__init__" "WindowError.__init__" (eA p1 p2) (eB wd i q) eS .none kV doc pm an (.ref cda) ct cc), osl⟩ ∧ codeIn K (.ref cda) "WindowError.__init__" = true ∧
    K.lookup cda = some ⟨ccl, cdd, .fields vs, ccs⟩ ∧ vs[2]? = some (.str file tf) ∧ ((P.main.file : Str) == file) = true ∧ K.lookup cc = some ⟨cl, cld, .cell (some (.ref D)), csl⟩ ∧
    ∀ env : Env, ∃ pl : Sem Bool, eval (.Call (.Attribute (.Call (.Name "super" (q 0)) [] [] (q 1)) "__init__" (q 2)) [.Constant (.str wd) i (q 3)] [] (q 4)) env = (do
      let ov ← attributeBase (.Call (.Name "super" (q 0)) [] [] (q 1)) "__init__" env (eval (.Call (.Name "super" (q 0)) [] [] (q 1)) env)
      standAt (q 2).atName
      let (f, first) ← holding [ov] (getMethod ov "__init__" pl)
      callWith (q 4) f first (backTo (q 4) (starEach [.Constant (.str wd) i (q 3)] env)) [])
  dc : ∃ cd, clsIn K D = some cd
  top : (P.main.scope.names.lookup ("super" : Str)).isSome = false
  any : nsIn K cStatics "thirdparty.any" = some none
  ty : typeIn K (.ref fI) = some (.type "function")
/-- .. of a class C below it -/
structure Sub (K : Frag) (C D fI : Addr) : Prop where
  ox : L2.OexC K C
  xf : L2.XfC K C
  noN : findIn K (.ref C) "value" = some none
  iC : findIn K (.ref C) "__init__" = some (some (.ref fI))
  below : mroIn K C (.ref D) = some true
  sup : ks_superIn K C D "__init__" = some (some (.builtin "ValueError.__init__"))
  ve : subIn K (.ref C) (.type "ValueError") = some true
structure Glb (mg : Str → Option Value) (h : Heap) : Prop where
  g : h.Ns mainGlobals mg
  b : ∃ mb, h.Ns builtinsNs mb ∧ ∀ x : Str, x ≠ "__name__" → mb x = bootBuiltins x
theorem Glb.keeps {mg : Str → Option Value} {h h' : Heap} (G : Glb mg h) (k : ∀ b o, h.get? b = some o → h'.get? b = some o) : Glb mg h' :=
  ⟨G.g.keeps k, let ⟨mb, a, b⟩ := G.b; ⟨mb, a.keeps k, b⟩⟩
/-- what is made: the error at e, its dict at d -/
structure Made (h h' : Heap) (e C d : Addr) (v : Value) : Prop where
  keep : ∀ b o, h.get? b = some o → h'.get? b = some o
  new : h.objs.size ≤ e
  obj : ∃ oe vs, h'.get? e = some oe ∧ oe.cls = .ref C ∧ oe.dict = some d ∧ oe.data = .fields vs ∧ vs[1]? = some .none
  dbig : h.objs.size ≤ d
  dne : d ≠ e
  ns : h'.Ns1 d (fun y => if y = "value" then some v else none)
section
variable {prog : Program} {w : World} {A : Around} {E : Value → Shared → Prop} {R : Result → Shared → Prop} {s : Shared} {K : Frag} {mg : Str → Option Value} {C D fI : Addr}
/-- ValueError.__init__ bound to the error, called -/
theorem call_mw {nm q : Str} {N : Addr} {bs bm : List Value} {hdct : Bool} {sn : List Str} {sub : List Value} {ab : Bool} {col : Option Bool} {dd : Option Addr} {k0 k1 k2 k3 k5 : Option Value} {u e t0 : Addr} {rest : List Value} {Q : Value → Shared → Prop}
    (hC : s.heap.get? C = some (excClassObj nm q C N bs bm hdct sn sub ab col dd k0 k1 k2 k3 k5 "ValueError.__new__")) (he : s.heap.get? e = some (excO C t0)) (hu : s.heap.get? u = some (kxs_mw "ValueError.__init__" e)) (hz : rest.length ≤ sizeLine)
    (fin : ∀ h' t1, (∀ b o, b ≠ e → s.heap.get? b = some o → h'.get? b = some o) → h'.get? e = some (excO C t1) → Q .none { s with heap := h' }) :
    wpAny (model prog w) A (call (.ref u) rest) Q E s := by
  obtain ⟨hh, g, d, tk, os⟩ := s
  have FB := F.excBase_ValueError
  refine wpAny_call (codeAny_of_tree (?_ : wpAny _ A.in1 (callAny (.ref u) ⟨rest, []⟩) _ _ _))
  rw [callAny]
  refine wpAny_bind (wpAny_load hu ?_)
  have tt : (Value.type "method-wrapper" == Value.type "method" || Value.type "method-wrapper" == Value.type "builtin_function_or_method" || Value.type "method-wrapper" == Value.type "method-wrapper") = true := by decide
  simp only [tt, if_true]
  refine KFB.if_so (by decide) (wpAny_bind (check_bound_init FB.toExcCallFacts hC he rfl (wpAny_bind (wpAny_pure (wpAny_pure ?_)))))
  refine ⟨plainId_quiet FB.init.plain _, codeAny_builtin FB.initEntry ?_⟩
  exact exc_init_tree (cls := .ref C) (t0 := t0) (dv := none) (c2 := .none) (c3 := .none) (b4 := .bool false) he hz fun h' k x _ => fin h' _ k x

theorem err_init (B : Bse prog K D fI) (T : Sub K C D fI) {x t0 : Addr} {v : Value} (X : K.In s.heap) (G : Glb mg s.heap) (hsup : mg "super" = none) (hlim : s.heap.NoLimit) (hx : s.heap.get? x = some (excO C t0)) (hnx : K.lookup x = none) (hroom : A.depth < recursionLimit)
    (hq : ∀ h' tk dx t1, (∀ b o, b ≠ x → s.heap.get? b = some o → h'.get? b = some o) → h'.get? x = some { cls := .ref C, dict := some dx, data := .fields #[.ref t1, .none, .none, .none, .bool false, .none] } → s.heap.objs.size ≤ dx → dx ≠ x →
      h'.Ns1 dx (fun y => if y = "value" then some v else none) → R (.ok (.ret .none)) { s with heap := h', toks := tk }) :
    codeAny (model prog w) A (.call (.ref fI) ⟨[.ref x, v], []⟩) R s := by
  obtain ⟨oc, kV, doc, pm, ct, ccl, cl, od, an, cdd, cld, cda, cc, osl, ccs, csl, vs, file, tf, p1, p2, wd, ix, q, ho, hcd, hco, hvs, hfile, hcell, hev⟩ := B.fn
  obtain ⟨cdD, hD⟩ := B.dc
  obtain ⟨nm, qn, N, bs, bm, sn, sub, ab, col, dd, k0, k1, k2, k3, k5, hC, hbm⟩ := T.ox.cls
  have hcl : clsIn K C = some { name := nm, bases := bs, mro := .ref C :: bm, ns := N, qualname := qn, hasDict := true, slotNames := sn, subclasses := sub, abstract := ab, collection := col, hasDel := false } := by unfold clsIn; rw [hC] <;> rfl
  refine ks_codeAny_call_defAt (fd := ksFn "__init__" "WindowError.__init__" (eA p1 p2) (eB wd ix q) eS .none kV doc pm an (.ref cda) ct cc) (body := eB wd ix q) (binds := [("self", .ref x), ("value", v)]) hroom (X _ _ ho) rfl hlim (codeRec_of X hcd) rfl (BindsTo.of_eq (by first | rfl | with_unfolding_all rfl)) (show ∀ y ∈ eS.names, y.2 ≠ .cell by decide) (locs rfl) (fun h₁ hns k => ?_) rfl rfl rfl
  have hxL : s.heap.objs.size ≠ x := Nat.ne_of_gt (Heap.lt_size hx)
  have X₁ : K.In h₁ := X.keeps k
  have hx₁ := k _ _ hx
  have G₁ := G.keeps k
  obtain ⟨mb, hmb, hmb2⟩ := G₁.b
  have hn : h₁.Ns s.heap.objs.size (fun y => ([("self", .ref x), ("value", v)] : List (Str × Value)).reverse.lookup y) := hns
  obtain ⟨oD, hD1, hD2⟩ : ∃ oD, h₁.get? D = some oD ∧ oD.data = .cls cdD := by
    unfold clsIn at hD
    split at hD
    · rename_i c d cd' sl ho
      cases hD
      exact ⟨_, X₁ _ _ ho, rfl⟩
    · cases hD
  have I : InstAt h₁ x (excO C t0) C none := ⟨hx₁, rfl, rfl, trivial⟩
  obtain ⟨h0, g, dr, tk, os⟩ := s
  show _root_.PySem.wpAt (model prog w) (A.deeper (ksEnv "WindowError.__init__" eS h0.objs.size fI (.ref cda) cc)) (.func (eB wd ix q) (ksEnv "WindowError.__init__" eS h0.objs.size fI (.ref cda) cc)) (execs (eB wd ix q) (ksEnv "WindowError.__init__" eS h0.objs.size fI (.ref cda) cc)) _ _ _
  obtain ⟨pl, hpl⟩ := hev (ksEnv "WindowError.__init__" eS h0.objs.size fI (.ref cda) cc)
  refine ks_wpAt_execs_cons (ks_wpAt_Expr_any (ks_wpAt_MethodCall (pl := pl) ?_ hpl))
  refine ks_wpAt_super_base (env := ksEnv "WindowError.__init__" eS h0.objs.size fI (.ref cda) cc) rfl rfl (by decide) rfl (X₁ _ _ ho) rfl rfl rfl (X₁ _ _ hco) rfl hvs hfile B.top ?_
  refine ks_loadName_global rfl rfl (loadGlobal_builtin (env := ksEnv "WindowError.__init__" eS h0.objs.size fI (.ref cda) cc) G₁.g hsup hmb ((hmb2 _ (by decide)).trans (by first | boot_by_name | rfl | kernel_rfl)) ⟨rfl, ?_⟩)
  refine wpAny_loadName_free rfl rfl rfl ⟨_, X₁ _ _ hcell, rfl⟩ ?_
  refine wpAny_loadName_local rfl rfl hn (show _ = some (.ref x) from rfl) ?_
  refine ks_wpAny_isType_cls hD1 hD2 ⟨rfl, ?_⟩
  refine ks_wpAny_call_super hD1 hD2 hx₁ rfl (fun c e => ?_) (looks_mroIn X₁ T.below) (fun h2 e2 k2 => ?_)
  · cases e
  have X₂ : K.In h2 := X₁.keeps k2
  refine kxs_getMethod kxs_ValueError e2 (looks_opaque X₂ B.any) (l₀ := .ref C :: bm) ((looks_clsIn X₂ hcl).andThen .now) rfl X₂ ?_ ?_ ?_ (by decide) ?_
  · have z := T.sup
    unfold ks_superIn at z
    rw [hcl] at z
    exact z
  · exact (I.type (M := model prog w)).keeps k2 |>.andThen (looks_subIn X₂ T.ve)
  · have I2 : InstAt h2 x (excO C t0) C none := ⟨k2 _ _ hx₁, rfl, rfl, trivial⟩
    exact ks_ne X₂ I2 hcl
  refine kxs_callWith (i := "ValueError.__init__") (x := x) rfl (evalArgs_plain ?_)
  refine Calls.spliced_cons (Calls.Constant_str (k := ix) (pos := q 3) (Calls.spliced_nil ⟨?_, ?_⟩))
  · exact Heap.get?_push_size _ rfl
  refine call_mw (C := C) (t0 := t0) (X₂.keeps (fun b o e => Heap.get?_push_of_some _ e) _ _ hC) (Heap.get?_push_of_some _ (k2 _ _ hx₁)) (Heap.get?_push_size _ rfl) (by rw [sizeLine_eq]; exact (by decide : 1 ≤ 16777216)) fun h3 t1 k3 e3 => ?_
  have up : ∀ b o, b ≠ x → h₁.get? b = some o → h3.get? b = some o := fun b o hb e => k3 b o hb (Heap.get?_push_of_some _ (k2 b o e))
  have X₃ : K.In h3 := fun b o e => up b o (fun z => by rw [z, hnx] at e; cases e) (X₁ b o e)
  have hn3 : h3.Ns h0.objs.size (fun y => ([("self", .ref x), ("value", v)] : List (Str × Value)).reverse.lookup y) := by
    obtain ⟨o, es, ep, e, r⟩ := hn
    exact ⟨o, es, ep, up _ _ hxL e, r⟩
  refine ks_wpAt_execs_cons (wpAt_of_wpAny (plainObj_wpAny_Assign_Attribute ?_))
  refine wpAny_Name (wpAny_loadName_local rfl rfl hn3 (show _ = some v from rfl) ?_) (by decide)
  refine wpAny_Name (wpAny_loadName_local rfl rfl hn3 (show _ = some (.ref x) from rfl) ?_) (by decide)
  refine set_plain X₃ (ox := excO C t1) (od := none) ⟨e3, rfl, rfl, trivial⟩ T.ox.sa ?_
  refine exc_osa X₃ e3 hcl (show refsVE (.ref C :: bm) = true from hbm) rfl T.noN (fun h4 tk4 dx k4 dn dne hx4 hn4 => ?_)
  have z : h0.objs.size < h3.objs.size := hn3.lt
  exact wpAt_of_wpAny (wpAny_execs_nil (hq h4 tk4 dx t1 (fun b o hb e => k4 b o hb (up b o hb (k b o e))) hx4 (Nat.le_of_lt (Nat.lt_of_lt_of_le z dn)) dne hn4))
theorem err_made (B : Bse prog K D fI) (T : Sub K C D fI) {v : Value} (X : K.In s.heap) (G : Glb mg s.heap) (hsup : mg "super" = none) (hlim : s.heap.NoLimit) (hroom : A.depth + 1 < recursionLimit)
    (hq : ∀ h' tk e d, Made s.heap h' e C d v → R (.ok (.ret (.ref e))) { s with heap := h', toks := tk }) :
    codeAny (model prog w) A (.call (.ref C) ⟨[v], []⟩) R s := by
  obtain ⟨nm, q, N, bs, bm, sn, sub, ab, col, dd, k0, k1, k2, k3, k5, hC, hbm⟩ := T.ox.cls
  obtain ⟨hp, g, dr, tk, os⟩ := s
  have up : ∀ b o, hp.get? b = some o → ((hp.push (kdv_tup [v])).push (excO C hp.objs.size)).get? b = some o := fun b o e => Heap.get?_push_of_some _ (Heap.get?_push_of_some _ e)
  have hx : ((hp.push (kdv_tup [v])).push (excO C hp.objs.size)).get? (hp.objs.size + 1) = some (excO C hp.objs.size) := by heap_get
  have hnx : K.lookup (hp.objs.size + 1) = none := by
    cases e : K.lookup (hp.objs.size + 1) with
    | none => rfl
    | some o =>
      have z := Heap.lt_size (X _ _ e)
      exact absurd (Nat.lt_of_succ_lt z) (Nat.lt_irrefl _)
  refine call_own F.excBase_ValueError (fun Y => refsVE_contains Y bm hbm) (X _ _ hC) (looks_findIn X T.iC) (fun self => bind_fn X self B.ty) (by rw [sizeLine_eq]; exact (by decide : 1 ≤ 16777216)) ?_
  refine err_init (s := ⟨(hp.push (kdv_tup [v])).push (excO C hp.objs.size), g, dr, tk, os⟩) B T (X.keeps up) (G.keeps up) hsup (hlim.keeps up) hx hnx (show A.depth + 1 < recursionLimit from hroom) fun h' tk' dx t1 k' ex dn dne hns => ?_
  have old : ∀ b o, hp.get? b = some o → h'.get? b = some o := fun b o e => k' b o (Nat.ne_of_lt (Nat.lt_succ_of_lt (Heap.lt_size e))) (up b o e)
  have z : hp.objs.size + 1 + 1 ≤ dx := by simpa only [Heap.size_push] using dn
  exact ⟨rfl, hq h' tk' _ dx ⟨old, Nat.le_succ _, ⟨_, _, ex, rfl, rfl, rfl, rfl⟩, (show hp.objs.size ≤ dx by omega), dne, hns⟩⟩
end
end OwnErr
end PySem
namespace L2
open PySem PySem.Spec PyProof.Rows
theorem relO_value {v : V} {u : Value} (r : RelV v u) (f : Str) : RelO (List.lookup f [(("value" : Str), v)]) (if f = "value" then some u else none) := by
  by_cases e : f = "value"
  · subst e
    rw [if_pos rfl, show List.lookup ("value" : Str) [(("value" : Str), v)] = some v from by simp [List.lookup]]
    exact r
  · have q : (f == ("value" : Str)) = false := by simpa using e
    rw [if_neg e, show List.lookup f [(("value" : Str), v)] = none from by simp [List.lookup, q]]
    trivial
/-- C(e): its class and a new dict with the field value -/
def tMkErr (C : Addr) (ta : TA) : St → Hp → XK → Prop := fun σ H Q => ta σ H fun vs H1 => ∃ v, vs = [v] ∧ ∀ d, H1 d = none → Q (.ref C) (some d) (upd H1 d (.xd [(("value" : Str), v)]))
/-- a class of errors, as the text's top leaves it -/
structure Err (P : Program) (K : PySem.W.Frag) (mg : Str → Option Value) (x : Str) (C : Addr) : Prop where
  ex : ∃ D fI : Addr, PySem.OwnErr.Bse P K D fI ∧ PySem.OwnErr.Sub K C D fI
  gC : mg x = some (.ref C)
  sup : mg "super" = none
theorem pmk_err {X : Cx} {C : Addr} {x : Str} {a : Expr} {ta : TA} {p pos : Pos} {k : Nat} (T : Err X.prog X.K X.mg x C) (hr : Room k X.A) (ha : PA X [a] ta) (hg : Gl X x := by rfl) (hdb : (x == ("__debug__" : Str)) = false := by decide)
    (he : starEach (a :: []) X.env = (false, eval a X.env) :: starEach [] X.env := by rfl) (hpl : (backTo pos (starEach [] X.env)).any (·.1) = false := by rfl) :
    PMk X (.Call (.Name x p) [a] [] pos) (tMkErr C ta) := by
  obtain ⟨D, fI, B, S⟩ := T.ex
  intro pins s σ H Q I h
  refine wpAny_Call_Name_kw (ld_glob I hg T.gC ?_ hdb)
  refine PySem.W.callWith_K (h₀ := X.base) I.ok.mod.kin S.ox.kC (thn (ha.run pos pins s σ H _ I h) fun us s1 ⟨vs, H1, I1, r1, v, ev, q1⟩ => ⟨I1.kIn, ?_⟩) he hpl
  subst ev
  cases r1 with
  | @cons _ v' _ us' rv rn =>
    cases rn
    show wpAny _ _ (call (.ref C) [v']) _ _ _
    have G : PySem.OwnErr.Glb X.mg s1.heap := ⟨I1.mod.glob.keeps I1.bk, let ⟨mb, a, b⟩ := I1.mod.blt; ⟨mb, a.keeps I1.bk, b⟩⟩
    have hlim := I1.nolimit
    obtain ⟨hp, g, dr, tk, os⟩ := s1
    refine wpAny_call (PySem.OwnErr.err_made B S I1.kIn G T.sup hlim (by have := hr.dp; omega) fun h' tk' e d M => ?_)
    show MkP X pins σ Q (.ref e) ⟨h', g, dr, tk', os⟩
    obtain ⟨oe, fv, hoe, hc, hd, hdat, h1⟩ := M.obj
    obtain ⟨G', g1, g2⟩ := restrict h' fun b => decide (b ≠ e)
    have gk : ∀ b, b ≠ e → G'.get? b = h'.get? b := fun b hb => g1 b (decide_eq_true hb)
    have ge : G'.get? e = none := g2 e (by simp)
    have J : Inv X pins σ (upd H1 d (.xd [(("value" : Str), v)])) ⟨G', g, dr, tk', os⟩ :=
      I1.laid (t' := tk') (fun b o q => (gk b (Nat.ne_of_lt (Nat.lt_of_lt_of_le (Heap.lt_size q) M.new))).trans (M.keep b o q)) M.dbig ⟨_, M.ns.at (fun o q => (gk d M.dne).trans q), fun f => relO_value rv f⟩
    have sub : ∀ b o, G'.get? b = some o → h'.get? b = some o := fun b o q => by
      by_cases hb : b = e
      · rw [hb, ge] at q
        cases q
      · exact (gk b hb).symm.trans q
    have ne : (upd H1 d (.xd [(("value" : Str), v)])) e = none := (upd_ne (Ne.symm M.dne)).trans (I1.hok.fresh M.new)
    exact ⟨e, oe, fv, ⟨G', g, dr, tk', os⟩, _, .ref C, some d, rfl, J, sub, ge, hoe, ⟨hc, hd⟩, hdat, h1, ne, rfl, I1.bare, raises_own S.ox.exC S.ox.tyC, q1 d (I1.hok.fresh M.dbig)⟩
end L2

/-! Pd8: defs that raise, try. An error's dict stands as a cell of its own. -/
namespace Pd
open PySem L2
open Evl (Ex)
open PyProof.Rows
variable {K : PySem.W.Frag}
/-! ### an error's dict goes out of sight: values do not hang on it -/
def ExL (H H' : Hp) : Prop := ∀ a o, H a = some o → (∀ fs, o ≠ .xd fs) → H' a = some o
theorem rdL {H H' : Hp} {a : Addr} {o : HO} (e : ExL H H') (ho : ∀ fs, o ≠ .xd fs) (h : Rd H a o) : Rd H' a o := by
  rcases h with h | ⟨o', h⟩
  · exact .inl (e _ _ h ho)
  · exact .inr ⟨o', e _ _ h fun fs z => by cases z⟩
theorem lstL {H H' : Hp} {a : Addr} {xs : List V} (e : ExL H H') (h : SqL K H a xs) : SqL K H' a xs := by
  rcases h with h | h
  · exact .inl (rdL e (fun fs z => by cases z) h)
  · exact .inr h
theorem tupL {H H' : Hp} {a : Addr} {xs : List V} (e : ExL H H') (h : SqT K H a xs) : SqT K H' a xs := by
  rcases h with h | h
  · exact .inl (rdL e (fun fs z => by cases z) h)
  · exact .inr h
mutual
theorem dqL {H H' : Hp} (e : ExL H H') : ∀ {v : V} {d : PyData}, DQ K H v d → DQ K H' v d
  | _, _, .non => .non
  | _, _, .bl b => .bl b
  | _, _, .int i => .int i
  | _, _, .str x => .str x
  | _, _, .lst h1 h2 => .lst (e _ _ h1 fun fs z => by cases z) (dqsL e h2)
  | _, _, .tup h1 h2 => .tup (tupL e h1) (dqsL e h2)
theorem dqsL {H H' : Hp} (e : ExL H H') : ∀ {vs : List V} {ds : List PyData}, DQs K H vs ds → DQs K H' vs ds
  | _, _, .nil => .nil
  | _, _, .cons h1 h2 => .cons (dqL e h1) (dqsL e h2)
end
mutual
theorem vrL {H H' : Hp} {M M' : List Addr} (e : ExL H H') (p : Pre M M') : ∀ {v : V} {w : W}, VR K H M v w → VR K H' M' v w
  | _, _, .d h => .d (dqL e h)
  | _, _, .m h => .m (p _ _ h)
  | _, _, .t h1 h2 => .t (tupL e h1) (vrsL e p h2)
  | _, _, .f h1 h2 => .f (lstL e h1) (vrsL e p h2)
  | _, _, .k v => .k v
theorem vrsL {H H' : Hp} {M M' : List Addr} (e : ExL H H') (p : Pre M M') : ∀ {vs : List V} {ws : List W}, VRs K H M vs ws → VRs K H' M' vs ws
  | _, _, .nil => .nil
  | _, _, .cons h1 h2 => .cons (vrL e p h1) (vrsL e p h2)
end
section
variable {A : Addr → Prop} {M : List Addr} {H : Hp} {μ : Mu} {d : Addr} {v : V} {w : W}
theorem hideL (hl : M.length = μ.length) (hv : vw A M μ H d = some (.xd [(("value" : PySem.Str), v)])) : ExL (vw A M μ H) (vw A (M ++ [d]) (μ ++ [some (.xd d w)]) H) := fun a o h ho => by
  obtain ⟨h1, h2⟩ := vw_some h
  refine vw_of (fun z => ?_) h2
  rcases (hid_new hl).mp z with z | z
  · exact h1 z
  · subst z
    rw [hv] at h
    exact ho _ (Option.some.inj h).symm
/-- the error's dict becomes a cell -/
theorem MOk.hide (mo : MOk K A M H μ) (nm : d ∉ M) (hv : vw A M μ H d = some (.xd [(("value" : PySem.Str), v)])) (r : VR K (vw A M μ H) M v w) : MOk K A (M ++ [d]) H (μ ++ [some (.xd d w)]) := by
  obtain ⟨nh, hd⟩ := vw_some hv
  have e := hideL (w := w) mo.len hv
  refine ⟨by simp [mo.len], ?_, fun a m => ?_, fun a m => ?_, mo.aA, fun j b c h1 h2 => ?_⟩
  · rw [List.nodup_append]
    refine ⟨mo.nd, by simp, fun a m b mb z => ?_⟩
    have : b = d := by simpa using mb
    subst this
    subst z
    exact nm m
  · rcases List.mem_append.mp m with m | m
    · exact mo.nA a m
    · have : a = d := by simpa using m
      subst this
      exact fun z => nh (.inl z)
  · rcases List.mem_append.mp m with m | m
    · exact mo.al a m
    · have : a = d := by simpa using m
      subst this
      rw [hd]
      intro z
      cases z
  · by_cases hj : j < M.length
    · rw [List.getElem?_append_left hj] at h1
      rw [List.getElem?_append_left (by have := mo.len; omega)] at h2
      obtain ⟨u, q1, q2⟩ := mo.ct j b c h1 h2
      refine ⟨u, q1, ?_⟩
      cases c with
      | lst ws =>
        obtain ⟨vs, g1, g2⟩ := q2
        exact ⟨vs, g1, vrsL e pre_snoc g2⟩
      | xd d' w' =>
        obtain ⟨g0, v', g1, g2⟩ := q2
        exact ⟨g0, v', g1, vrL e pre_snoc g2⟩
      | er x' d' => exact q2
    · have hj2 : j = M.length := by
        have := (List.getElem?_eq_some_iff.mp h1).1
        simp at this
        omega
      subst hj2
      rw [List.getElem?_append_right (Nat.le_refl _)] at h1
      rw [mo.len, List.getElem?_append_right (Nat.le_refl _)] at h2
      simp at h1 h2
      subst h1 h2
      exact ⟨_, hd, rfl, v, rfl, vrL e pre_snoc r⟩
end
/-- an error's value, the cells (its own dict's last): as data; the cells that were there (μ) come to μ' -/
def FzX (μ : Mu) (x : PySem.Str) (w : W) (μ1 : Mu) (S : PySem.Str → W → Mu → Prop) : Prop := ∃ μ' cs d, μ1 = μ' ++ cs ∧ μ'.length = μ.length ∧ Keeps μ μ' ∧ Rn μ.length μ1 w d ∧ S x (.d d) μ'
mutual
theorem Rn.app {n : Nat} {μ ν : Mu} : ∀ {w : W} {x : PyData}, Rn n μ w x → Rn n (μ ++ ν) w x
  | _, _, .d x => .d x
  | _, _, .m a b c => .m a (mu_app b) (Rns.app c)
  | _, _, .t a => .t (Rns.app a)
theorem Rns.app {n : Nat} {μ ν : Mu} : ∀ {ws : List W} {xs : List PyData}, Rns n μ ws xs → Rns n (μ ++ ν) ws xs
  | _, _, .nil => .nil
  | _, _, .cons a b => .cons (Rn.app a) (Rns.app b)
end
theorem last_get {M : List Addr} {d : Addr} {μ : Mu} (h : (M ++ [d]).length = μ.length + 1) : (M ++ [d])[μ.length]? = some d := by
  have : M.length = μ.length := by simpa using h
  rw [← this, List.getElem?_append_right (Nat.le_refl _)]
  simp
theorem fzx_core {A : Addr → Prop} {M M1 : List Addr} {H H1 : Hp} {μ μ1 : Mu} {d : Addr} {w : W} {x : PySem.Str} {S : PySem.Str → W → Mu → Prop} (mo0 : MOk K A M H μ) (mo1 : MOk K A (M1 ++ [d]) H1 (μ1 ++ [some (.xd d w)])) (e : Eff A M μ H (M1 ++ [d]) (μ1 ++ [some (.xd d w)]) H1) (hz : FzX μ x w μ1 S) :
    ∃ M2 μ2 u, MOk K A (M2 ++ [d]) H1 (μ2 ++ [some (.xd d u)]) ∧ Eff A M μ H (M2 ++ [d]) (μ2 ++ [some (.xd d u)]) H1 ∧ S x u μ2 := by
  obtain ⟨μ', cs, dt, h1, hl, hk, hr, hS⟩ := hz
  have hlen : (M1 ++ [d]).length = μ1.length + 1 := by rw [mo1.len]; simp
  obtain ⟨o, ho, _, v, hv, rv⟩ := mo1.ct μ1.length d (.xd d w) (last_get hlen) (by rw [List.getElem?_append_right (Nat.le_refl _)]; simp)
  subst hv
  have h1' : μ1 ++ [some (.xd d w)] = μ' ++ (cs ++ [some (.xd d w)]) := by rw [h1, List.append_assoc]
  obtain ⟨M2, mo2, e2, r2, hM2⟩ := fz_core mo0 mo1 e h1' hl hk rv hr.app
  have hle : μ.length ≤ μ1.length := by rw [h1, List.length_append]; omega
  have hM1 : M1.length = μ1.length := by simpa using hlen
  have nm : d ∉ M2 := fun m => by
    rw [hM2, List.take_append_of_le_length (by omega)] at m
    have := mo1.nd
    rw [List.nodup_append] at this
    exact this.2.2 d (List.mem_of_mem_take m) d (by simp) rfl
  have hvis : vw A M2 μ' H1 d = some (.xd [(("value" : PySem.Str), v)]) := vw_of (fun z => by
    rcases z with z | ⟨k, c, q1, _⟩
    · exact mo1.nA d (by simp) z
    · exact nm (List.mem_of_getElem? q1)) ho
  refine ⟨M2, μ', .d dt, mo2.hide nm hvis r2, ⟨e2.pre.trans pre_snoc, e2.own, fun a o' q => ?_⟩, hS⟩
  obtain ⟨n1, q1⟩ := vw_some (e2.ex a o' q)
  refine vw_of (fun z => ?_) q1
  rcases (hid_new mo2.len).mp z with z | z
  · exact n1 z
  · subst z
    have z2 := (vw_some (e.ex a o' q)).1
    exact z2 (.inr ⟨μ1.length, .xd a w, last_get hlen, by rw [List.getElem?_append_right (Nat.le_refl _)]; simp⟩)
/-! ### defs that raise: by values -/
abbrev FX := List W → Mu → (W → Mu → Prop) → (PySem.Str → W → Mu → Prop) → Prop
def spX (K : PySem.W.Frag) (F : FX) : Sp := fun vs H Q E => ∃ (A : Addr → Prop) (M : List Addr) (μ : Mu) (ws : List W) (R : W → Mu → Prop) (S : PySem.Str → W → Mu → Prop), MOk K A M H μ ∧ VRs K (vw A M μ H) M vs ws ∧ F ws μ R S ∧
  (∀ M' H' v w μ', MOk K A M' H' μ' → Eff A M μ H M' μ' H' → VR K (vw A M' μ' H') M' v w → R w μ' → Q v H') ∧
  (∀ M' H' x a d w μ', clA K x a → MOk K A (M' ++ [d]) H' (μ' ++ [some (.xd d w)]) → Eff A M μ H (M' ++ [d]) (μ' ++ [some (.xd d w)]) H' → S x w μ' → E (.ref a) (some d) H')
abbrev NoX : PySem.Str → W → Mu → Prop := fun _ _ _ => False
/-- an expression that may raise -/
def AXx (K : PySem.W.Frag) (xw : L2.WX) (xc : PySem.Str → W → G → Mu → Prop) (te : TE) (Γ : G) (μ : Mu) (R : W → Mu → Prop) : Prop := ∀ (A : Addr → Prop) (M : List Addr) (σ : L2.St) (H : Hp), Cn K A M σ H Γ μ → XW K A M μ H xw xc → ∀ Q : VK,
  (∀ M' H' v w μ', MOk K A M' H' μ' → Eff A M μ H M' μ' H' → VR K (vw A M' μ' H') M' v w → R w μ' → Q v H') → te σ H Q
section
variable {Γ : G} {μ : Mu} {R : W → Mu → Prop} {ta tk : TA} {te : TE} {D : AEn} {xw : L2.WX} {xc : PySem.Str → W → G → Mu → Prop}
theorem axx_of (h : AX K te Γ μ R) : AXx K xw xc te Γ μ R := fun A M σ H c _ Q q => h A M σ H c Q q
/-- called where it does not raise -/
theorem ax_callX {F : FX} {E : XK} (h : AXA K ta Γ μ fun ws μ1 => F ws μ1 R NoX) : AX K (tCall (spX K F) [] E ta) Γ μ R := fun A M σ H c Q q =>
  h A M σ H c _ fun M1 H1 vs ws μ1 mo1 e1 r1 h1 => by
    show spX K F (vs ++ []) H1 Q E
    rw [List.append_nil]
    exact ⟨A, M1, μ1, ws, R, NoX, mo1, r1, h1, fun M' H' v w μ' mo' e' r' hR => q M' H' v w μ' mo' (e1.trans e') r' hR, fun _ _ _ _ _ _ _ _ _ _ z => z.elim⟩
theorem ax_callXN {F : FX} {E : XK} {n m : Nat} {ix : List Nat} (h : AXA K ta Γ μ fun ws μ1 => ws.length = n ∧ AXA K tk Γ μ1 fun us μ2 => us.length = m ∧ F (perm ix (ws ++ us)) μ2 R NoX) : AX K (tCallN n m (spX K F) (fun vs zs => perm ix (vs ++ zs)) E ta tk) Γ μ R := fun A M σ H c Q q =>
  h A M σ H c _ fun M1 H1 vs ws μ1 mo1 e1 r1 ⟨l1, h1⟩ => h1 A M1 σ H1 (c.eff e1 mo1) _ fun M2 H2 zs us μ2 mo2 e2 r2 ⟨l2, h2⟩ =>
    ⟨r1.length.trans l1, r2.length.trans l2, A, M2, μ2, _, R, NoX, mo2, vrs_perm ((r1.mono e2.ex e2.pre).append r2) ix, h2, fun M' H' v w μ' mo' e' r' hR => q M' H' v w μ' mo' ((e1.trans e2).trans e') r' hR, fun _ _ _ _ _ _ _ _ _ _ z => z.elim⟩
/-- called where it may raise -/
theorem axx_call {F : FX} (h : AXA K ta Γ μ fun ws μ1 => F ws μ1 R fun x w μ2 => xc x w Γ μ2) : AXx K xw xc (tCallS (spX K F) (WE xw) ta) Γ μ R := fun A M σ H c x Q q =>
  h A M σ H c _ fun M1 H1 vs ws μ1 mo1 e1 r1 h1 =>
    ⟨A, M1, μ1, ws, R, _, mo1, r1, h1, fun M' H' v w μ' mo' e' r' hR => q M' H' v w μ' mo' (e1.trans e') r' hR, fun M' H' n a d w μ' hc mo' e' hS => x M' σ H' Γ n a d w μ' hc (c.eff (e1.trans e') mo') (e1.trans e') hS⟩
theorem as_asgX {g : TG} (h : AXx K D.xw D.xc te Γ μ fun w μ1 => AG K g w Γ μ1 D.nx) : AS K (tAsg te g) D Γ μ := fun A M σ H cn E hd =>
  h A M σ H cn hd.xx _ fun M1 H1 v w μ1 mo1 e1 r1 h1 => h1 A M1 σ H1 v (cn.eff e1 mo1) r1 _ fun M2 σ2 H2 Γ2 μ2 c2 e2 h2 => hd.nx M2 σ2 H2 Γ2 μ2 c2 (e1.trans e2) h2
theorem as_dropX (h : AXx K D.xw D.xc te Γ μ fun _ μ1 => D.nx Γ μ1) : AS K (tDrop te) D Γ μ := fun A M σ H cn E hd =>
  h A M σ H cn hd.xx _ fun M1 H1 v w μ1 mo1 e1 r1 h1 => hd.nx M1 σ H1 Γ μ1 (cn.eff e1 mo1) e1 h1
theorem as_retX (h : AXx K D.xw D.xc te Γ μ D.rt) : AS K (tRet te) D Γ μ := fun A M σ H cn E hd => h A M σ H cn hd.xx _ fun M1 H1 v w μ1 mo1 e1 r1 h1 => hd.rt M1 H1 v w μ1 mo1 e1 r1 h1
/-- raise x(e) -/
def tRaiseE (K : PySem.W.Frag) (x : PySem.Str) (xw : L2.WX) (ta : TA) : TS := fun _ σ H => ∀ C, clA K x C → tMkErr C ta σ H fun cls d H' => xw cls d σ H'
theorem as_raise {x : PySem.Str} (h : AXA K ta Γ μ fun ws μ1 => ∃ w, ws = [w] ∧ D.xc x w Γ μ1) : AS K (tRaiseE K x D.xw ta) D Γ μ := fun A M σ H cn E hd C hC =>
  h A M σ H cn _ fun M1 H1 vs ws μ1 mo1 e1 r1 ⟨w, ew, hx⟩ => by
    subst ew
    cases r1 with
    | @cons v _ vs' _ rv rn =>
      cases rn
      refine ⟨v, rfl, fun d hd0 => ?_⟩
      have mo2 : MOk K A (M1 ++ [d]) (upd H1 d (.xd [(("value" : PySem.Str), v)])) (μ1 ++ [some (.xd d w)]) := mo1.new hd0 ⟨rfl, v, rfl, rv⟩
      have e2 : Eff A M1 μ1 H1 (M1 ++ [d]) (μ1 ++ [some (.xd d w)]) (upd H1 d (.xd [(("value" : PySem.Str), v)])) := Eff.new mo1 hd0
      exact hd.xx M1 σ _ Γ x C d w μ1 hC (cn.eff (e1.trans e2) mo2) (e1.trans e2) hx
/-- a def that raises: its own cells are left behind -/
theorem as_fzX {t : TS} {xk : L2.XK} {S : PySem.Str → W → Mu → Prop} (h : AS K t { nx := fun _ μ1 => Fz μ (.d .none) μ1 R, rt := fun w μ1 => Fz μ w μ1 R, xw := fun c d _ H => xk c d H, xc := fun x w _ μ1 => FzX μ x w μ1 S } Γ μ) :
    AS K t { nx := fun _ μ1 => R (.d .none) μ1, rt := R, xw := fun c d _ H => xk c d H, xc := fun x w _ μ1 => S x w μ1 } Γ μ := fun A M σ H c E hE => by
  refine h A M σ H c E ⟨fun M1 σ1 H1 Γ1 μ1 c1 e1 ⟨μ', cs, d, a1, a2, a3, a4, hR⟩ => ?_, fun M1 H1 v w μ1 mo1 e1 r1 ⟨μ', cs, d, a1, a2, a3, a4, hR⟩ => ?_, fun M1 σ1 H1 Γ1 μ1 c1 e1 z => z.elim, fun M1 σ1 H1 Γ1 μ1 c1 e1 z => z.elim, fun M1 σ1 H1 Γ1 x a d w μ1 hc c1 e1 hz => ?_⟩
  · have a4' : Rn μ.length μ1 (.d .none) d := a4
    cases a4'
    obtain ⟨M2, mo2, e2, r2, _⟩ := fz_core c.mo c1.mo e1 a1 a2 a3 (.d .non : VR K (vw A M1 μ1 H1) M1 .non (.d .none)) (.d .none)
    refine hE.nx M2 σ1 H1 (List.replicate σ1.length none) μ' ⟨mo2, by simp, fun i w hw => ?_⟩ e2 hR
    rw [List.getElem?_replicate] at hw
    split at hw <;> cases hw
  · obtain ⟨M2, mo2, e2, r2, _⟩ := fz_core c.mo mo1 e1 a1 a2 a3 r1 a4
    exact hE.rt M2 H1 v _ μ' mo2 e2 r2 hR
  · obtain ⟨M2, μ2, u, mo2, e2, hS⟩ := fzx_core c.mo c1.mo e1 hz
    refine hE.xx M2 σ1 H1 (List.replicate σ1.length none) x a d u μ2 hc ⟨mo2, by simp, fun i w hw => ?_⟩ e2 hS
    rw [List.getElem?_replicate] at hw
    split at hw <;> cases hw
end
/-- THE RULE for a def that raises -/
theorem fn_okX {P : PySem.Program} {w : PySem.World} {mg : PySem.Str → Option PySem.Value} {base : PySem.Heap} {x qual : PySem.Str} {st : PySem.Stmt} {f : Addr} {fd : PySem.FuncData} {N ps : List PySem.Str} {k : Nat} {F : FX} (Fu : Fun K x qual st f fd) (S : FnScope N ps (defScope st)) (len : ∀ ws μ R S, F ws μ R S → ws.length = ps.length)
    (hbody : ∀ (cdv : PySem.Value) (A : PySem.Around) (outer : List PySem.Env) (s : PySem.Shared) (H : Hp) (E : XK), Room k (A.deeper (PyProof.Rows.envOfC qual (defScope st) s.heap.objs.size f cdv)) →
      ∃ t, PSs (cxOf (L2.CX P w) P w K mg base N qual (defScope st) f cdv A outer s H E) (defBody st) t ∧ ∀ ws μ R S, F ws μ R S → AS K t { nx := fun _ μ' => R (.d .none) μ', rt := R, xw := fun c d _ H => E c d H, xc := fun x w _ μ' => S x w μ' } (stG N ws) μ) : FnOk P w K mg base (L2.CX P w) (k + 1) f fd ps (spX K F) := by
  refine Fu.okX S (fun vs H Q E h => ?_) (fun cdv A outer s H vs Q E hr h => ?_)
  · obtain ⟨A, M, μ, ws, R, S, mo, r, h, _⟩ := h
    rw [r.length]
    exact len ws μ R S h
  · obtain ⟨t, ht, hs⟩ := hbody cdv A outer s H E hr
    obtain ⟨A, M, μ, ws, R, S, mo, r, h, q, qx⟩ := h
    exact ⟨t, ht, hs ws μ R S h A M _ H ⟨mo, gr_start r⟩ _ ⟨fun M' σ' H' Γ' μ' c e h => q M' H' _ _ μ' c.mo e (.d .non) h, fun M' H' v w μ' mo' e' r' h => q M' H' v w μ' mo' e' r' h, fun _ _ _ _ _ _ _ h => h.elim, fun _ _ _ _ _ _ _ h => h.elim,
      fun M' σ' H' Γ' x a d w μ' hc c e h => qx M' H' x a d w μ' hc c.mo e h⟩⟩
end Pd

/-! Pd9: try with several clauses, each with a name or without; e.value; the walk's rules for defs that raise. -/
namespace L2
open PySem PySem.Spec PyProof.Rows
/-- a clause: the class, the slot of its name, its suite -/
structure Cl where
  c : Value
  i : Option Nat
  ts : Addr → Value → Option Addr → TS
def Cl.ends (h : Cl) (D : Ends) : Ends := match h.i with
  | none => D
  | some i => { nx := fun σ H => D.nx (σ.set i none) H, rt := D.rt, bk := fun σ H => D.bk (σ.set i none) H, ct := fun σ H => D.ct (σ.set i none) H }
def Cl.st (h : Cl) (a : Addr) (σ : St) : St := match h.i with
  | none => σ
  | some i => σ.set i (some (.ref a))
/-- what the clauses wish of an error of the body -/
def wCls (K : PySem.W.Frag) (out : WX) (D : Ends) : List Cl → WX
  | [] => out
  | h :: r => fun cls d σ H => ∃ b, PySem.W.exmOne K cls h.c = some b ∧ (b = true → ∀ a, H a = none → h.ts a cls d (h.ends D) (h.st a σ) H) ∧ (b = false → wCls K out D r cls d σ H)
inductive ClsOk (X : Cx) : List ExceptHandler → List Cl → Prop
  | nil : ClsOk X [] []
  | anon {x : Str} {c : Value} {ts : Addr → Value → Option Addr → TS} {b₀ : Stmt} {suite : List Stmt} {np pos' : Pos} {hds : List ExceptHandler} {l : List Cl} (hc : Names X x c)
      (hsu : ∀ (a : Addr) (oe : Obj) (cls : Value) (d : Option Addr) (pn : List (Addr × Obj)), Zc cls d oe → (∃ vs, oe.data = .fields vs) → PSs (X.suite a ((a, oe) :: pn)) (b₀ :: suite) (ts a cls d)) (r : ClsOk X hds l) :
      ClsOk X (.ExceptHandler (some (.Name x np)) none (b₀ :: suite) pos' :: hds) (⟨c, none, ts⟩ :: l)
  | named {x n : Str} {i : Nat} {c : Value} {ts : Addr → Value → Option Addr → TS} {b₀ : Stmt} {suite : List Stmt} {np pos' : Pos} {hds : List ExceptHandler} {l : List Cl} (hc : Names X x c) (hN : X.N.Nodup) (hi : X.N[i]? = some n) (hln : X.env.kindOf n = some .local)
      (hsu : ∀ (a : Addr) (oe : Obj) (cls : Value) (d : Option Addr) (pn : List (Addr × Obj)), Zc cls d oe → (∃ vs, oe.data = .fields vs) → PSs (X.suite a ((a, oe) :: pn)) (b₀ :: suite) (ts a cls d)) (r : ClsOk X hds l) :
      ClsOk X (.ExceptHandler (some (.Name x np)) (some n) (b₀ :: suite) pos' :: hds) (⟨c, some i, ts⟩ :: l)
section
variable {X : Cx} {body : List Stmt} {h₀ : ExceptHandler} {hds : List ExceptHandler} {l : List Cl} {pos : Pos} {tb : WX → TS} {out : WX}
theorem ps_tryA (hs : X.stack = X.env :: X.outer) (hf : X.env.frame = some X.env.locals) (tk : Takes X out)
    (hb : ∀ (W : WX) (pn : List (Addr × Obj)) (xe : Value → Shared → Prop), Takes (X.tr pn xe) W → PassesOwn (model X.prog X.w) X.A X.env xe → PSs (X.tr pn xe) body (tb W))
    (hh : ClsOk X (h₀ :: hds) l) : PS X (.Try body (h₀ :: hds) [] [] pos) (fun D σ H => tb (wCls X.K out D l) D σ H) := by
  refine ⟨fun pins s σ H D I h => ?_⟩
  have ok := I.ok
  have afr : X.A.frames = some (X.env :: X.outer) := ok.frames.trans (by rw [hs])
  refine wpAny_Try_except (wpAny_mono ((hb (wCls X.K out D l) (X.pn ++ pins) (fun e s₁ => wpAny (model X.prog X.w) X.A (noteFrame e X.env)
    (fun _ s₂ => wpAny (model X.prog X.w) X.A (setFlight e none) (fun _ s₃ => wpAny (model X.prog X.w) X.A (handleBy e X.env (h₀ :: hds)) (SP X pins D) X.xe s₃) X.xe s₂) X.xe s₁) (fun u s' xx => ?_) PassesOwn.looking).run [] s σ H D (I.toTry _) h)
    (fun f s1 hsp => ?_) (fun e s1 he => he))
  · obtain ⟨a, B, sI, pins', σ', H', cls, d, rfl, J', nb, up, sky, na, os, ag, w⟩ := xx
    have J : Inv X pins σ' H' sI := J'.ofTry ok
    rw [show (X.tr (X.pn ++ pins) _).stack = X.env :: X.outer from hs] at sky
    refine (Sky.land Zc.steady afr hf sky fun h3 fl3 up3 => ?_ : wpAny (model X.prog X.w) X.A (noteFrame (.ref a) X.env) _ _ _)
    have J3 : Inv X pins σ' H' { s' with heap := h3 } := J.landed nb fl3.1 (up.trans up3) os ag
    obtain ⟨oe3, vs3, he3, hz3, hd3⟩ := fl3.there
    have nfr : a ∉ frs (X.env :: X.outer) := fun hm => by
      obtain ⟨_, o', e', hnf⟩ := fl3.2.2.1.mem hm
      rw [he3] at e'
      cases e'
      exact hnf _ hd3
    have nL : a ≠ X.env.locals := fun z => nfr (List.mem_filterMap.mpr ⟨X.env, .head _, by rw [hf, z]⟩)
    have nF : a ∉ X.fs := fun hm => by
      obtain ⟨e, he, q⟩ := List.mem_filterMap.mp hm
      exact nfr (List.mem_filterMap.mpr ⟨e, .tail _ he, q⟩)
    have S3 := J3.suite he3 hd3 na nL nF
    have tyE : PySem.W.Looks (model X.prog X.w) h3 (typeOf (.ref a)) cls := fun A Q E s k q => wpAny_typeOf_ref (k _ _ he3) (by rw [hz3.1]; exact q)
    have asked : ∀ {x : Str} {np : Pos} {c : Value} {Q : Value → Shared → Prop} {E : Value → Shared → Prop}, Names X x c → Q c { s' with heap := h3 } → wpAny (model X.prog X.w) (X.A.mark (some (.ref a))) (eval (.Name x np) X.env) Q E { s' with heap := h3 } := by
      intro x np c Q E hc q
      obtain ⟨hg, hdbg, hm | ⟨hm, hv, hnn⟩⟩ := hc
      · exact ld_glob (X := X.suite a ((a, oe3) :: (X.pn ++ pins))) S3 hg hm q hdbg
      · exact ld_blt (X := X.suite a ((a, oe3) :: (X.pn ++ pins))) S3 hg hm hv q hnn hdbg
    have land4 : ∀ h4, HandSPX.FlyingZ B (X.env :: X.outer) a (Zc cls d) h4 → Heap.UpToSlots h3 h4 → ∃ oe4, (∃ vs, oe4.data = .fields vs) ∧ Zc cls d oe4 ∧ Inv (X.suite a ((a, oe4) :: (X.pn ++ pins))) [] σ' H' { s' with heap := h4 } := fun h4 fl4 up4 => by
      obtain ⟨oe4, vs4, he4, hz4, hd4⟩ := fl4.there
      exact ⟨oe4, ⟨_, hd4⟩, hz4, (J.landed nb fl4.1 ((up.trans up3).trans up4) os ag : Inv X pins σ' H' { s' with heap := h4 }).suite he4 hd4 na nL nF⟩
    have go : ∀ {hds' : List ExceptHandler} {l' : List Cl}, ClsOk X hds' l' → wCls X.K out D l' cls d σ' H' → wpAny (model X.prog X.w) X.A (handleBy (.ref a) X.env hds') (SP X pins D) X.xe { s' with heap := h3 } := by
      intro hds' l' hk
      induction hk with
      | nil =>
        intro w
        refine wpAny_handleBy_nil ?_
        obtain ⟨_, _, _, oe, vs, T, _, _, he, _, hd, h1, _⟩ := id fl3
        have thrown : wpAny (model X.prog X.w) X.A (setFlight (.ref a) X.env.frame) (fun _ s4 => wpAny (model X.prog X.w) X.A (throw (.ref a) : Sem Flow) (SP X pins D) X.xe s4) X.xe { s' with heap := h3 } := by
          rw [hf]
          exact HandSPX.setFlight_upZ fl3 fun h4 hh4 up4 => wpAny_throw (tk _ _ ⟨a, B, sI, pins, σ', H', cls, d, rfl, J, nb, (up.trans up3).trans up4, .inr (.inr (by rw [hs]; exact hh4)), na, os, ag, w⟩)
        unfold PySem.passOn
        refine wpAny_bind (wpAny_field he hd h1 ?_)
        rw [if_neg (show ¬ ((Value.ref T == Value.none) = true) by simp)]
        first
          | exact wpAny_bind (wpAny_pure (wpAny_bind thrown))
          | exact wpAny_bind thrown
      | @anon x c ts b₀ suite np pos' hds2 l2 hc hsu r ih =>
        intro ⟨b, hb1, hyes, hno⟩
        refine wpAny_handleBy_cons (codeAny_handlers_test (asked hc ((PySem.W.exm_one (M := model X.prog X.w) J3.kIn tyE hb1).here ?_))) (by intro q; cases q)
        cases b with
        | false => exact (ih (hno rfl) : wpAny _ X.A (handleBy (.ref a) X.env hds2) _ _ _)
        | true =>
          refine codeAny_handlers_suite (HandSPX.lands_againZ fl3 fun h4 fl4 up4 => ?_)
          obtain ⟨oe4, hd4, hz4, S4⟩ := land4 h4 fl4 up4
          refine wpAny_mono ((hsu a oe4 cls d (X.pn ++ pins) hz4 hd4).run [] _ _ H' _ S4 (hyes rfl a na)) (fun f s6 hsp => ?_) (fun _ _ z => z.elim)
          match f, hsp with
          | .next, ⟨_, _, S6, q6⟩ => exact ⟨_, _, S6.unsuite ok, q6⟩
          | .brk, ⟨_, _, S6, q6⟩ => exact ⟨_, _, S6.unsuite ok, q6⟩
          | .cont, ⟨_, _, S6, q6⟩ => exact ⟨_, _, S6.unsuite ok, q6⟩
          | .ret u, ⟨_, _, _, S6, r6, q6⟩ => exact ⟨_, _, _, S6.unsuite ok, r6, q6⟩
      | @named x n i c ts b₀ suite np pos' hds2 l2 hc hN hi hln hsu r ih =>
        intro ⟨b, hb1, hyes, hno⟩
        refine wpAny_handleBy_cons (codeAny_handlers_test (asked hc ((PySem.W.exm_one (M := model X.prog X.w) J3.kIn tyE hb1).here ?_))) (by intro q; cases q)
        cases b with
        | false => exact (ih (hno rfl) : wpAny _ X.A (handleBy (.ref a) X.env hds2) _ _ _)
        | true =>
          refine codeAny_handlers_suite_as (HandSPX.lands_againZ fl3 fun h4 fl4 up4 => ?_)
          obtain ⟨oe4, hd4, hz4, S4⟩ := land4 h4 fl4 up4
          refine store_ok (X := X.suite a ((a, oe4) :: (X.pn ++ pins))) (v := .ref a) S4 hN hi (.inl hln) rfl (fun s5 S5 => ?_) (.inr hln)
          refine wpAny_mono ((hsu a oe4 cls d (X.pn ++ pins) hz4 hd4).run [] s5 _ H' _ S5 (hyes rfl a na)) (fun f s6 hsp => ?_) (fun _ _ z => z.elim)
          have goes : ∀ {σ6 : St} {H6 : Hp} {Q : Shared → Prop}, Inv (X.suite a ((a, oe4) :: (X.pn ++ pins))) [] σ6 H6 s6 → (∀ s7, Inv X pins (σ6.set i none) H6 s7 → Q s7) →
              wpAny (model X.prog X.w) X.A (do bindName X.env n .none; unbindBehindTheSuite X.env n pos') (fun _ s7 => Q s7) X.xe s6 := fun {σ6 H6 Q} S6 hq => gone_ok (S6.unsuite ok) hN hi hln hq
          match f, hsp with
          | .next, ⟨_, _, S6, q6⟩ => exact goes S6 fun s7 J7 => ⟨_, _, J7, q6⟩
          | .brk, ⟨_, _, S6, q6⟩ => exact goes S6 fun s7 J7 => ⟨_, _, J7, q6⟩
          | .cont, ⟨_, _, S6, q6⟩ => exact goes S6 fun s7 J7 => ⟨_, _, J7, q6⟩
          | .ret u, ⟨_, _, _, S6, r6, q6⟩ => exact goes S6 fun s7 J7 => ⟨_, _, _, J7, r6, q6⟩
    exact go hh w
  · match f, hsp with
    | .next, ⟨σ', H', J', q⟩ => exact wpAny_execs_nil ⟨σ', H', J'.ofTry ok, q⟩
    | .brk, ⟨σ', H', J', q⟩ => exact ⟨σ', H', J'.ofTry ok, q⟩
    | .cont, ⟨σ', H', J', q⟩ => exact ⟨σ', H', J'.ofTry ok, q⟩
    | .ret u, ⟨v, σ', H', J', r, q⟩ => exact ⟨v, σ', H', J'.ofTry ok, r, q⟩
end
end L2
namespace Pd
open PySem L2
open Evl (Ex)
open PyProof.Rows
variable {K : PySem.W.Frag}
/-- what stands for x in an except clause -/
def ClV (K : PySem.W.Frag) (x : PySem.Str) (c : PySem.Value) : Prop := PySem.W.nsIn K PySem.mainGlobals x = some (some c) ∨ (PySem.W.nsIn K PySem.mainGlobals x = some none ∧ bootBuiltins x = some c)
/-- an error that the text calls x is one that the clause for y takes (or not) -/
def SubIs (K : PySem.W.Frag) (x y : PySem.Str) (b : Bool) : Prop := ∀ a c, clA K x a → ClV K y c → PySem.W.exmOne K (.ref a) c = some b
structure Hn where
  x : PySem.Str
  i : Option Nat
  ts : Addr → PySem.Value → Option Addr → TS
def CsOk (K : PySem.W.Frag) : List Hn → List Cl → Prop
  | [], [] => True
  | h :: r, c :: s => (ClV K h.x c.c ∧ c.i = h.i ∧ c.ts = h.ts) ∧ CsOk K r s
  | _, _ => False
def tTry (K : PySem.W.Frag) (hs : List Hn) (tb : L2.WX → TS) (out : L2.WX) : TS := fun D σ H => ∀ l, CsOk K hs l → tb (wCls K out D l) D σ H
def Hn.ends (h : Hn) (D : AEn) : AEn := match h.i with
  | none => D
  | some i => { D with nx := fun g m => D.nx (g.set i none) m, bk := fun g m => D.bk (g.set i none) m, ct := fun g m => D.ct (g.set i none) m }
def Hn.sl (h : Hn) (a : Addr) (Γ : G) : G := match h.i with
  | none => Γ
  | some i => Γ.set i (some (.k (.ref a)))
/-- what is wished of an error of the body: by its name and value, clause by clause. Its suite leaves no error in turn. -/
def hX (K : PySem.W.Frag) (D : AEn) : List Hn → PySem.Str → W → G → Mu → Prop
  | [] => D.xc
  | h :: r => fun x w Γ μ => ∃ b, SubIs K x h.x b ∧ (b = true → ∀ a C d, clA K x C → AS K (h.ts a (.ref C) (some d)) (h.ends D) (h.sl a Γ) (μ ++ [some (.xd d w)])) ∧ (b = false → hX K D r x w Γ μ)
section
variable {Γ : G} {μ : Mu} {R : W → Mu → Prop} {ta : TA} {te : TE} {D : AEn}
theorem as_try {hs : List Hn} {tb : L2.WX → TS} (h : ∀ xw : L2.WX, AS K (tb xw) { D with xw := xw, xc := hX K D hs } Γ μ) : AS K (tTry K hs tb D.xw) D Γ μ := fun A M σ H cn E hE l hl => by
  refine h (wCls K D.xw E l) A M σ H cn E ⟨hE.nx, hE.rt, hE.bk, hE.ct, fun M' σ' H' Γ' x a d w μ' hc c' e' hx => ?_⟩
  show wCls K D.xw E l (.ref a) (some d) σ' H'
  have hx' : hX K D hs x w Γ' μ' := hx
  clear hx h
  induction hs generalizing l with
  | nil =>
    cases l with
    | nil => exact hE.xx M' σ' H' Γ' x a d w μ' hc c' e' hx'
    | cons _ _ => exact hl.elim
  | cons h r ih =>
    cases l with
    | nil => exact hl.elim
    | cons c s =>
      obtain ⟨⟨h1, h2, h3⟩, hr⟩ := hl
      obtain ⟨b, hb, hy, hn⟩ := hx'
      refine ⟨b, hb a c.c hc h1, fun e a0 _ => ?_, fun e => ih s hr (hn e)⟩
      have q := hy e a0 a d hc
      obtain ⟨cc, ci, cts⟩ := c
      obtain ⟨hx0, hi, hts⟩ := h
      dsimp only at h2 h3
      subst h2 h3
      have hd' : Hd K A (M' ++ [d]) (μ' ++ [some (.xd d w)]) H' D E := hE.after e'
      cases ci with
      | none => exact q A _ σ' H' c' E hd'
      | some i =>
        refine q A _ _ H' ⟨c'.mo, c'.gr.set (.k _)⟩ _ ⟨fun M4 σ4 H4 Γ4 μ4 c4 e4 h4 => ?_, hd'.rt, fun M4 σ4 H4 Γ4 μ4 c4 e4 h4 => ?_, fun M4 σ4 H4 Γ4 μ4 c4 e4 h4 => ?_, hd'.xx⟩
        · exact hd'.nx M4 _ H4 _ μ4 ⟨c4.mo, c4.gr.drop⟩ e4 h4
        · exact hd'.bk M4 _ H4 _ μ4 ⟨c4.mo, c4.gr.drop⟩ e4 h4
        · exact hd'.ct M4 _ H4 _ μ4 ⟨c4.mo, c4.gr.drop⟩ e4 h4
/-- e.value, e the error that the suite holds -/
def tXv (K : PySem.W.Frag) (a : Addr) (cls : PySem.Value) (d : Option Addr) (te : TE) : TE := fun σ H Q => te σ H fun x H1 => x = .ref a ∧ ∃ C dd v, cls = .ref C ∧ XfC K C ∧ PySem.W.findIn K (.ref C) "value" = some none ∧ d = some dd ∧ H1 dd = some (.xd [(("value" : PySem.Str), v)]) ∧ Q v H1
/-- the errors that the text calls x have a value -/
def ErrV (K : PySem.W.Frag) (x : PySem.Str) : Prop := ∀ C, clA K x C → XfC K C ∧ PySem.W.findIn K (.ref C) "value" = some none
theorem ax_xv {a C d : Addr} {x : PySem.Str} {k : Nat} {w : W} (hx : ErrV K x) (hC : clA K x C) (h : AX K te Γ μ fun u μ1 => u = .k (.ref a) ∧ μ1[k]? = some (some (.xd d w)) ∧ R w μ1) : AX K (tXv K a (.ref C) (some d) te) Γ μ R := fun A M σ H c Q q =>
  h A M σ H c _ fun M1 H1 v u μ1 mo1 e1 r1 ⟨eu, hk, hR⟩ => by
    subst eu
    cases r1
    have hl : k < M1.length := by
      rw [mo1.len]
      exact (List.getElem?_eq_some_iff.mp hk).1
    obtain ⟨o, ho, ep, v, rfl, rv⟩ := mo1.ct k _ (.xd d w) (List.getElem?_eq_getElem hl) hk
    rw [ep] at ho
    exact ⟨rfl, C, d, v, rfl, (hx C hC).1, (hx C hC).2, rfl, ho, q M1 H1 v w μ1 mo1 e1 rv hR⟩
end
/-! ### the walk's rules -/
section
variable {X : Cx}
theorem pe_xv {a : Addr} {oe : Obj} {cls : Value} {d : Option Addr} {pn : List (Addr × Obj)} {e : Expr} {te : TE} {pos : Pos} (hz : Zc cls d oe) (hf : ∃ vs, oe.data = .fields vs) (he : PE (X.suite a ((a, oe) :: pn)) e te)
    (hb : attributeBase e "value" X.env (eval e X.env) = eval e X.env := by rfl) : PE (X.suite a ((a, oe) :: pn)) (.Attribute e "value" pos) (tXv X.K a cls d te) := by
  refine ⟨fun pins s σ H Q I h => attr_of hb (thn (he.run pins s σ H _ I h) fun u s1 ⟨x, H1, I1, rx, ex, C, dd, v, ec, T, hno, ed, ea, q⟩ => ?_)⟩
  subst ex ec ed
  obtain rfl : u = Value.ref a := rx
  obtain ⟨ha, _⟩ := I1.pin (a, oe) (List.mem_append_left _ (.head _))
  obtain ⟨vs, hd⟩ := hf
  obtain ⟨mA, hns, hr⟩ : ObjOk X.prog X.w H1 s1.heap dd (.xd [(("value" : PySem.Str), v)]) := I1.hok dd _ ea
  obtain ⟨od, ho, hl⟩ := lookIn_ns hns
  obtain ⟨u, hu, ru⟩ := RelO.some_of (v := v) (o := mA "value") (by have z := hr "value"; simpa [List.lookup] using z)
  have J : PySem.W.InstAt s1.heap a oe C (some od) := ⟨ha, hz.1, by unfold PySem.W.notCls; rw [hd] <;> rfl, by rw [hz.2]; exact ho⟩
  exact HandSPX.exc_get I1.kIn J T.ga T.gg T.exC (PySem.W.findObj_own T.hdC hno rfl (by rw [hl, hu])) (handed_of ru) ⟨v, H1, I1.tok _, ru, q⟩
/-- the text's x is a class of errors -/
def IsErr (P : Program) (K : PySem.W.Frag) (mg : Str → Option Value) (x : Str) : Prop := ∃ C, clA K x C ∧ Err P K mg x C
theorem ps_raiseE {x : Str} {xw : L2.WX} {a : Expr} {ta : TA} {p pos pos2 : Pos} {k : Nat} (hc : X.calm = true) (T : IsErr X.prog X.K X.mg x) (hr : Room k X.A) (tk : Takes X xw) (ha : PA X [a] ta) (hg : Gl X x := by rfl) (hdb : (x == ("__debug__" : Str)) = false := by decide)
    (he : starEach (a :: []) X.env = (false, eval a X.env) :: starEach [] X.env := by rfl) (hpl : (backTo pos (starEach [] X.env)).any (·.1) = false := by rfl) :
    PS X (.Raise (some (.Call (.Name x p) [a] [] pos)) none pos2) (tRaiseE X.K x xw ta) := by
  obtain ⟨C, hC, E⟩ := T
  exact ⟨fun pins s σ H D I h => (ps_raise hc tk (pmk_err E hr ha hg hdb he hpl)).run pins s σ H D I (h C hC)⟩
def HsOk (X : Cx) (hds : List ExceptHandler) (hs : List Hn) : Prop := ∃ l, ClsOk X hds l ∧ CsOk X.K hs l
theorem hs_nil : HsOk X [] [] := ⟨[], .nil, trivial⟩
theorem hs_named {x n : Str} {i : Nat} {ts : Addr → Value → Option Addr → TS} {b₀ : Stmt} {suite : List Stmt} {np pos' : Pos} {hds : List ExceptHandler} {hs : List Hn} (T : IsErr X.prog X.K X.mg x) (hN : X.N.Nodup)
    (hsu : ∀ (a : Addr) (oe : Obj) (cls : Value) (d : Option Addr) (pn : List (Addr × Obj)), Zc cls d oe → (∃ vs, oe.data = .fields vs) → PSs (X.suite a ((a, oe) :: pn)) (b₀ :: suite) (ts a cls d)) (r : HsOk X hds hs)
    (hg : Gl X x := by rfl) (hi : X.N[i]? = some n := by rfl) (hln : X.env.kindOf n = some .local := by rfl) (hdb : (x == ("__debug__" : Str)) = false := by decide) :
    HsOk X (.ExceptHandler (some (.Name x np)) (some n) (b₀ :: suite) pos' :: hds) (⟨x, some i, ts⟩ :: hs) := by
  obtain ⟨l, h1, h2⟩ := r
  obtain ⟨C, hC, E⟩ := T
  exact ⟨⟨.ref C, some i, ts⟩ :: l, .named ⟨hg, hdb, .inl E.gC⟩ hN hi hln hsu h1, ⟨.inl hC, rfl, rfl⟩, h2⟩
theorem hs_anon {x : Str} {ts : Addr → Value → Option Addr → TS} {b₀ : Stmt} {suite : List Stmt} {np pos' : Pos} {hds : List ExceptHandler} {hs : List Hn} (T : IsErr X.prog X.K X.mg x)
    (hsu : ∀ (a : Addr) (oe : Obj) (cls : Value) (d : Option Addr) (pn : List (Addr × Obj)), Zc cls d oe → (∃ vs, oe.data = .fields vs) → PSs (X.suite a ((a, oe) :: pn)) (b₀ :: suite) (ts a cls d)) (r : HsOk X hds hs)
    (hg : Gl X x := by rfl) (hdb : (x == ("__debug__" : Str)) = false := by decide) :
    HsOk X (.ExceptHandler (some (.Name x np)) none (b₀ :: suite) pos' :: hds) (⟨x, none, ts⟩ :: hs) := by
  obtain ⟨l, h1, h2⟩ := r
  obtain ⟨C, hC, E⟩ := T
  exact ⟨⟨.ref C, none, ts⟩ :: l, .anon ⟨hg, hdb, .inl E.gC⟩ hsu h1, ⟨.inl hC, rfl, rfl⟩, h2⟩
theorem ps_tryN {body : List Stmt} {h₀ : ExceptHandler} {hds : List ExceptHandler} {hs : List Hn} {pos : Pos} {tb : WX → TS} {out : WX} (tk : Takes X out)
    (hb : ∀ (xw : WX) (pn : List (Addr × Obj)) (xe : Value → Shared → Prop), Takes (X.tr pn xe) xw → PassesOwn (model X.prog X.w) X.A X.env xe → PSs (X.tr pn xe) body (tb xw))
    (hh : HsOk X (h₀ :: hds) hs) (hst : X.stack = X.env :: X.outer := by rfl) (hf : X.env.frame = some X.env.locals := by rfl) : PS X (.Try body (h₀ :: hds) [] [] pos) (tTry X.K hs tb out) := by
  obtain ⟨l, h1, h2⟩ := hh
  exact ⟨fun pins s σ H D I h => (ps_tryA hst hf tk hb h1).run pins s σ H D I (h l h2)⟩
/-! defs that raise, by their promises -/
def HasX (P : Program) (w : World) (K : PySem.W.Frag) (mg : Str → Option Value) (base : Heap) (x : Str) (ps : List Str) (k : Nat) (F : FX) : Prop :=
  ∃ f fd, FnOk P w K mg base (L2.CX P w) k f fd ps (spX K F) ∧ mg x = some (.ref f) ∧ PySem.W.keepIn K (.ref f) = true ∧ Binds K fd ps []
def HasXK (P : Program) (w : World) (K : PySem.W.Frag) (mg : Str → Option Value) (base : Heap) (x : Str) (ps : List Str) (k : Nat) (F : FX) (n : Nat) (ks : List Str) (ix : List Nat) : Prop :=
  ∃ f fd, FnOk P w K mg base (L2.CX P w) k f fd ps (spX K F) ∧ mg x = some (.ref f) ∧ PySem.W.keepIn K (.ref f) = true ∧ KBn K fd ps n ks (fun us ws => perm ix (us ++ ws)) (fun vs zs => perm ix (vs ++ zs))
variable {x : Str} {ps ks : List Str} {k n m : Nat} {F : FX} {e : Expr} {es : List Expr} {ta tk : TA} {p pos : Pos} {kws : List Keyword} {ix : List Nat} {xw : WX}
theorem pe_hasX (h : HasX X.prog X.w X.K X.mg X.base x ps k F) (hr : Room k X.A) (ha : PA X (e :: es) ta) (hg : Gl X x := by rfl) (hd : (x == ("__debug__" : Str)) = false := by decide)
    (he : starEach (e :: es) X.env = (false, eval e X.env) :: starEach es X.env := by rfl) (hpl : (backTo pos (starEach es X.env)).any (·.1) = false := by rfl) : PE X (.Call (.Name x p) (e :: es) [] pos) (tCall (spX X.K F) [] E0 ta) := by
  obtain ⟨f, fd, G, hmg, kp, b⟩ := h
  exact pe_call G hr hg hmg kp b .nil passL ha hd he hpl
theorem pe_hasXT (h : HasX X.prog X.w X.K X.mg X.base x ps k F) (hr : Room k X.A) (tk : Takes X xw) (ha : PA X (e :: es) ta) (hg : Gl X x := by rfl) (hd : (x == ("__debug__" : Str)) = false := by decide)
    (he : starEach (e :: es) X.env = (false, eval e X.env) :: starEach es X.env := by rfl) (hpl : (backTo pos (starEach es X.env)).any (·.1) = false := by rfl) : PE X (.Call (.Name x p) (e :: es) [] pos) (tCallS (spX X.K F) (WE xw) ta) := by
  obtain ⟨f, fd, G, hmg, kp, b⟩ := h
  exact pe_callS G hr hg hmg kp b (fun σ => passAt tk σ) ha hd he hpl
theorem pe_hasXN (h : HasXK X.prog X.w X.K X.mg X.base x ps k F n ks ix) (hr : Room k X.A) (ha : PA X (e :: es) ta) (hk : PK X kws tk) (hm : ks.length = m := by rfl) (hg : Gl X x := by rfl)
    (hall : (backToKw pos (keywordEach kws X.env)).all (·.1.isSome) = true := by rfl) (hks : (backToKw pos (keywordEach kws X.env)).filterMap (·.1) = ks := by rfl) (hdb : (x == ("__debug__" : Str)) = false := by decide)
    (he : starEach (e :: es) X.env = (false, eval e X.env) :: starEach es X.env := by rfl) (hpl : ((backTo pos (starEach (e :: es) X.env)).any (·.1) || (backToKw pos (keywordEach kws X.env)).any (·.1.isNone)) = false := by rfl) :
    PE X (.Call (.Name x p) (e :: es) kws pos) (tCallN n m (spX X.K F) (fun vs zs => perm ix (vs ++ zs)) E0 ta tk) := by
  subst hm
  obtain ⟨f, fd, G, hmg, kp, b⟩ := h
  exact pe_callN G hr hg hmg kp b passL ha hk hall hks hdb he hpl
theorem pe_hasXN0 (h : HasXK X.prog X.w X.K X.mg X.base x ps k F 0 ks ix) (hr : Room k X.A) (hk : PK X kws tk) (hm : ks.length = m := by rfl) (hg : Gl X x := by rfl)
    (hall : (backToKw pos (keywordEach kws X.env)).all (·.1.isSome) = true := by rfl) (hks : (backToKw pos (keywordEach kws X.env)).filterMap (·.1) = ks := by rfl) (hdb : (x == ("__debug__" : Str)) = false := by decide)
    (hpl : ((backTo pos (starEach [] X.env)).any (·.1) || (backToKw pos (keywordEach kws X.env)).any (·.1.isNone)) = false := by rfl) :
    PE X (.Call (.Name x p) [] kws pos) (tCallN 0 m (spX X.K F) (fun vs zs => perm ix (vs ++ zs)) E0 tNil tk) := by
  subst hm
  obtain ⟨f, fd, G, hmg, kp, b⟩ := h
  exact pe_callN0 G hr hg hmg kp b passL hk hall hks hdb hpl
end
theorem hasx_of {P : Program} {w : World} {mg : Str → Option Value} {base : Heap} {x qual : Str} {st : Stmt} {f : Addr} {fd : FuncData} {ps : List Str} {k : Nat} {F : FX} (Fu : Fun K x qual st f fd) (m : mg x = some (.ref f)) (G : FnOk P w K mg base (L2.CX P w) k f fd ps (spX K F))
    (h : ∀ (kV doc pm : Value) (an : Option Addr) (cdv ct : Value) (us : List Value), us.length = ps.length → bindArgs (PySem.W.fnOf x qual (defArgs st) (defBody st) (defScope st) .none kV doc pm an cdv ct) ⟨us, []⟩ = pure (ps.zip us)) : HasX P w K mg base x ps k F := ⟨f, fd, G, m, Fu.kp, Fu.binds h⟩
theorem hasxk_of {P : Program} {w : World} {mg : Str → Option Value} {base : Heap} {x qual : Str} {st : Stmt} {f : Addr} {fd : FuncData} {ps : List Str} {k : Nat} {F : FX} (Fu : Fun K x qual st f fd) (m : mg x = some (.ref f)) (G : FnOk P w K mg base (L2.CX P w) k f fd ps (spX K F)) (n : Nat) (ks : List Str) (ix : List Nat)
    (h : ∀ (kV doc pm : Value) (an : Option Addr) (cdv ct : Value) (us ws : List Value), us.length = n → ws.length = ks.length → bindArgs (PySem.W.fnOf x qual (defArgs st) (defBody st) (defScope st) .none kV doc pm an cdv ct) ⟨us, ks.zip ws⟩ = pure (ps.zip (perm ix (us ++ ws)))) : HasXK P w K mg base x ps k F n ks ix := by
  obtain ⟨oc, od, kV, doc, pm, an, cdv, ct, osl, rfl, lk, hcd⟩ := Fu.ex
  exact ⟨f, _, G, m, Fu.kp, fun s us ws _ h1 h2 => .of_eq (h kV doc pm an cdv ct us ws h1 h2), fun h1 h2 => vals_perm (h1.append h2) ix⟩
end Pd

/-! Pd10: promises of defs that are called where no guard stands (so repr may be asked). -/
namespace Pd
open PySem PySem.Spec L2
open Evl (Ex)
open PyProof.Rows
/-- a def's promise, where no guard stands -/
structure FnG (P : Program) (w : World) (K : PySem.W.Frag) (mg : Str → Option Value) (base : Heap) (CX : CXT) (k : Nat) (f : Addr) (fd : FuncData) (ps : List Str) (sp : Sp) : Prop where
  len : ∀ vs H Q E, sp vs H Q E → vs.length = ps.length
  go : ∀ (A : Around) (fr : List Env) (s : Shared) (H : Hp) (args : Args) (us : List Value) (vs : List V) (Q : VK) (E : XK), Room k A → A.guards = some [] → Env0 P w K mg base A fr s H → BindsTo s fd args (ps.zip us) → Vals vs us → sp vs H Q E →
    codeAny (model P w) A (.call (.ref f) args) (CR CX fr P w H s Q E) s
theorem fnG_of {CX : CXT} {P : Program} {w : World} {K : PySem.W.Frag} {mg : Str → Option Value} {base : Heap} {k : Nat} {f : Addr} {name qual : Str} {pr : Arguments} {bd : List Stmt} {sc : Scope} {dV kV doc pm cdv ct oc : Value} {an od : Option Addr}
    {osl : Array (Option Value)} {N ps : List Str} {sp : Sp} (lk : K.lookup f = some ⟨oc, od, .func (PySem.W.fnOf name qual pr bd sc dV kV doc pm an cdv ct), osl⟩) (hcd : PySem.W.codeIn K cdv qual = true) (S : FnScope N ps sc)
    (len : ∀ vs H Q E, sp vs H Q E → vs.length = ps.length)
    (hb : ∀ (A : Around) (fr : List Env) (s : Shared) (H : Hp) (vs : List V) (Q : VK) (E : XK), Room k (A.deeper (envOfC qual sc s.heap.objs.size f cdv)) → (A.deeper (envOfC qual sc s.heap.objs.size f cdv)).guards = some [] → sp vs H Q E →
      ∃ t, PSs (cxOf CX P w K mg base N qual sc f cdv A fr s H E) bd t ∧ t { nx := fun _ H' => Q .non H', rt := Q } (start N vs) H) :
    FnG P w K mg base CX (k + 1) f (PySem.W.fnOf name qual pr bd sc dV kV doc pm an cdv ct) ps sp := by
  refine ⟨len, fun A fr s H args us vs Q E hr hgd e0 hbi r hsp => ?_⟩
  have hl := len _ _ _ _ hsp
  have kb : ∀ b o, base.get? b = some o → s.heap.get? b = some o := fun b o e => (e0.bs b o e).1
  have KX : K.In s.heap := e0.mod.kin.keeps kb
  have kinds : ∀ y ∈ ps.zip us, sc.names.lookup y.1 = some .local ∨ (sc.names.lookup y.1 = some .cell ∧ ((cellsFrom (s.heap.objs.size + 1) sc.names []).lookup y.1).isSome = true) := by
    rintro ⟨n, v⟩ hy
    exact (S.par n (List.of_mem_zip hy).1).imp id fun q => ⟨q, PySem.W.cellsFrom_some _ _ _ (.inl q)⟩
  refine codeAny_call_function hr.depth (KX _ _ lk) rfl S.co S.gen rfl (PySem.W.codeRec_of KX hcd) (hbi _ _ _ _ (wpAny_newFunctionEnv_cells S.kind kinds fun env he s1 x => ?_))
  subst he
  refine ⟨(e0.mod.nolimit.keeps kb).keeps x.toInCall.keep, codeAny_func ?_⟩
  obtain ⟨t, ht, hq⟩ := hb A fr s H vs Q E (hr.deeper _) hgd hsp
  have I : Inv (cxOf CX P w K mg base N qual sc f cdv A fr s H E) [] (start N vs) H s1 := inv_start S hr.hd e0 hl r x
  refine wpAny_mono (ht.run [] s1 (start N vs) H _ I hq) (fun fl s' hs => ?_) fun e s' hs => hs
  match fl, hs with
  | .ret u, ⟨v, σ', H', J, rv, q⟩ => exact ⟨v, H', J.os, J.bare, J.base, J.hok, rv, q⟩
  | .next, ⟨σ', H', J, q⟩ => exact ⟨V.non, H', J.os, J.bare, J.base, J.hok, (rfl : RelV V.non Value.none), q⟩
  | .brk, ⟨_, _, _, q⟩ => exact q.elim
  | .cont, ⟨_, _, _, q⟩ => exact q.elim
section
variable {X : Cx} {CX : CXT} {k n : Nat} {f : Addr} {fd : FuncData} {ps ks : List Str} {sp : Sp} {E : L2.St → XK} {x : Str} {p pos : Pos} {e : Expr} {es : List Expr} {kws : List Keyword} {t tk : TA} {g : List Value → List Value → List Value} {gV : List V → List V → List V}
theorem back_of {pins : List (Addr × Obj)} {σ : L2.St} {H : Hp} {s : Shared} {Q : VK} (hx : PassesAt CX X σ (E σ)) (I : Inv X pins σ H s) {args : Args} (h : codeAny (model X.prog X.w) X.A (.call (.ref f) args) (CR CX X.stack X.prog X.w H s Q (E σ)) s) :
    codeAny (model X.prog X.w) X.A (.call (.ref f) args) (fun r s' => match r with | .ok (.ret u) => EP X pins σ Q u s' | .ok _ => False | .error e => X.xe e s') s := codeAny_mono h fun r s' hq => by
  match r, hq with
  | .error e, hq => exact hx pins H s e s' I hq
  | .ok (.ret u), hq => exact I.after hq
def tCallNS (n m : Nat) (sp : Sp) (gV : List V → List V → List V) (E : L2.St → XK) (t tk : TA) : TE := fun σ H Q => t σ H fun vs H1 => tk σ H1 fun zs H2 => vs.length = n ∧ zs.length = m ∧ sp (gV vs zs) H2 Q (E σ)
theorem pe_gS (F : FnG X.prog X.w X.K X.mg X.base CX k f fd ps sp) (hr : Room k X.A) (hd : X.A.guards = some []) (hg : Gl X x) (hm : X.mg x = some (.ref f)) (hk : PySem.W.keepIn X.K (.ref f) = true) (hb : Binds X.K fd ps []) (hx : ∀ σ, PassesAt CX X σ (E σ))
    (ha : PA X (e :: es) t) (hdb : (x == ("__debug__" : Str)) = false) (he : starEach (e :: es) X.env = (false, eval e X.env) :: starEach es X.env) (hpl : (backTo pos (starEach es X.env)).any (·.1) = false) :
    PE X (.Call (.Name x p) (e :: es) [] pos) (tCallS sp E t) := by
  refine ⟨fun pins s σ H Q I h => wpAny_Call_Name_kw (ld_glob I hg hm (PySem.W.callWith_K (h₀ := X.base) I.ok.mod.kin hk (thn (ha.run pos pins s σ H _ I h) fun us s1 ⟨vs, H1, I1, r, q⟩ => ⟨I1.kIn, ?_⟩) he hpl) hdb)⟩
  have hl : us.length = ps.length := by
    rw [← r.length]
    exact F.len _ _ _ _ q
  have b := hb s1 us I1.kIn (by rw [List.append_nil]; exact hl)
  rw [List.append_nil] at b
  have q' := back_of (hx σ) I1 (F.go X.A X.stack s1 H1 ⟨us, []⟩ us vs _ _ hr hd I1.env0 b r q)
  exact (wpAny_call q' : wpAny _ _ (call (.ref f) us) _ _ _)
theorem pe_gNS (F : FnG X.prog X.w X.K X.mg X.base CX k f fd ps sp) (hr : Room k X.A) (hd : X.A.guards = some []) (hg : Gl X x) (hm : X.mg x = some (.ref f)) (hk : PySem.W.keepIn X.K (.ref f) = true) (hb : KBn X.K fd ps n ks g gV) (hx : ∀ σ, PassesAt CX X σ (E σ))
    (ha : PA X (e :: es) t) (hkw : PK X kws tk) (hall : (backToKw pos (keywordEach kws X.env)).all (·.1.isSome) = true) (hks : (backToKw pos (keywordEach kws X.env)).filterMap (·.1) = ks)
    (hdb : (x == ("__debug__" : Str)) = false) (he : starEach (e :: es) X.env = (false, eval e X.env) :: starEach es X.env)
    (hpl : ((backTo pos (starEach (e :: es) X.env)).any (·.1) || (backToKw pos (keywordEach kws X.env)).any (·.1.isNone)) = false) :
    PE X (.Call (.Name x p) (e :: es) kws pos) (tCallNS n ks.length sp gV E t tk) := by
  refine ⟨fun pins s σ H Q I h => wpAny_Call_Name_kw (ld_glob I hg hm (PySem.W.callWith_KW (h₀ := X.base) I.ok.mod.kin hk hall (thn (ha.run pos pins s σ H _ I h) fun us s1 ⟨vs, H1, I1, r, q⟩ => ?_) hpl he) hdb)⟩
  refine thn (hkw.run pos pins s1 σ H1 _ I1 q) fun ws s2 ⟨zs, H2, I2, rz, l1, l2, q2⟩ => ⟨I2.kIn, ?_⟩
  rw [hks]
  exact wpAny_call (back_of (hx σ) I2 (F.go X.A X.stack s2 H2 ⟨us, ks.zip ws⟩ (g us ws) (gV vs zs) _ _ hr hd I2.env0 (hb.to s2 us ws I2.kIn (r.length.symm.trans l1) (rz.length.symm.trans l2)) (hb.rel r rz) q2))
theorem pe_gNS0 (F : FnG X.prog X.w X.K X.mg X.base CX k f fd ps sp) (hr : Room k X.A) (hd : X.A.guards = some []) (hg : Gl X x) (hm : X.mg x = some (.ref f)) (hk : PySem.W.keepIn X.K (.ref f) = true) (hb : KBn X.K fd ps 0 ks g gV) (hx : ∀ σ, PassesAt CX X σ (E σ))
    (hkw : PK X kws tk) (hall : (backToKw pos (keywordEach kws X.env)).all (·.1.isSome) = true) (hks : (backToKw pos (keywordEach kws X.env)).filterMap (·.1) = ks)
    (hdb : (x == ("__debug__" : Str)) = false) (hpl : ((backTo pos (starEach [] X.env)).any (·.1) || (backToKw pos (keywordEach kws X.env)).any (·.1.isNone)) = false) :
    PE X (.Call (.Name x p) [] kws pos) (tCallNS 0 ks.length sp gV E tNil tk) := by
  refine ⟨fun pins s σ H Q I h => wpAny_Call_Name_kw (ld_glob I hg hm (PySem.W.callWith_KW0 (h₀ := X.base) I.ok.mod.kin hk hall (thn (hkw.run pos pins s σ H _ I h) fun ws s2 ⟨zs, H2, I2, rz, l1, l2, q2⟩ => ⟨I2.kIn, ?_⟩) hpl) hdb)⟩
  rw [hks]
  exact wpAny_call (back_of (hx σ) I2 (F.go X.A X.stack s2 H2 ⟨[], ks.zip ws⟩ (g [] ws) (gV [] zs) _ _ hr hd I2.env0 (hb.to s2 [] ws I2.kIn l1 (rz.length.symm.trans l2)) (hb.rel .nil rz) q2))
end
/-- the module's x is a def that promises sp -/
def HasG (P : Program) (w : World) (K : PySem.W.Frag) (mg : Str → Option Value) (base : Heap) (CX : CXT) (x : Str) (ps : List Str) (k : Nat) (sp : Sp) : Prop :=
  ∃ f fd, FnG P w K mg base CX k f fd ps sp ∧ mg x = some (.ref f) ∧ PySem.W.keepIn K (.ref f) = true ∧ Binds K fd ps []
def HasGK (P : Program) (w : World) (K : PySem.W.Frag) (mg : Str → Option Value) (base : Heap) (CX : CXT) (x : Str) (ps : List Str) (k : Nat) (sp : Sp) (n : Nat) (ks : List Str) (ix : List Nat) : Prop :=
  ∃ f fd, FnG P w K mg base CX k f fd ps sp ∧ mg x = some (.ref f) ∧ PySem.W.keepIn K (.ref f) = true ∧ KBn K fd ps n ks (fun us ws => perm ix (us ++ ws)) (fun vs zs => perm ix (vs ++ zs))
abbrev Ez : L2.St → XK := fun _ => E0
theorem pz0 {X : Cx} (σ : L2.St) : PassesAt CX0 X σ (Ez σ) := fun _ _ _ _ _ _ h => h.elim
theorem pzL {X : Cx} (σ : L2.St) : PassesAt (L2.CX X.prog X.w) X σ (Ez σ) := fun pins H s e s' I c => passL pins σ H s e s' I c
section
variable {X : Cx} {CX : CXT} {k n m : Nat} {ps ks : List Str} {sp : Sp} {E : L2.St → XK} {x : Str} {p pos : Pos} {e : Expr} {es : List Expr} {kws : List Keyword} {t tk : TA} {ix : List Nat}
theorem pe_hG (h : HasG X.prog X.w X.K X.mg X.base CX x ps k sp) (hr : Room k X.A) (hgd : X.A.guards = some []) (hx : ∀ σ, PassesAt CX X σ (E σ)) (ha : PA X (e :: es) t) (hg : Gl X x := by rfl) (hd : (x == ("__debug__" : Str)) = false := by decide)
    (he : starEach (e :: es) X.env = (false, eval e X.env) :: starEach es X.env := by rfl) (hpl : (backTo pos (starEach es X.env)).any (·.1) = false := by rfl) : PE X (.Call (.Name x p) (e :: es) [] pos) (tCallS sp E t) := by
  obtain ⟨f, fd, G, hmg, kp, b⟩ := h
  exact pe_gS G hr hgd hg hmg kp b hx ha hd he hpl
theorem pe_hGN (h : HasGK X.prog X.w X.K X.mg X.base CX x ps k sp n ks ix) (hr : Room k X.A) (hgd : X.A.guards = some []) (hx : ∀ σ, PassesAt CX X σ (E σ)) (ha : PA X (e :: es) t) (hk : PK X kws tk) (hm : ks.length = m := by rfl) (hg : Gl X x := by rfl)
    (hall : (backToKw pos (keywordEach kws X.env)).all (·.1.isSome) = true := by rfl) (hks : (backToKw pos (keywordEach kws X.env)).filterMap (·.1) = ks := by rfl) (hdb : (x == ("__debug__" : Str)) = false := by decide)
    (he : starEach (e :: es) X.env = (false, eval e X.env) :: starEach es X.env := by rfl) (hpl : ((backTo pos (starEach (e :: es) X.env)).any (·.1) || (backToKw pos (keywordEach kws X.env)).any (·.1.isNone)) = false := by rfl) :
    PE X (.Call (.Name x p) (e :: es) kws pos) (tCallNS n m sp (fun vs zs => perm ix (vs ++ zs)) E t tk) := by
  subst hm
  obtain ⟨f, fd, G, hmg, kp, b⟩ := h
  exact pe_gNS G hr hgd hg hmg kp b hx ha hk hall hks hdb he hpl
theorem pe_hGN0 (h : HasGK X.prog X.w X.K X.mg X.base CX x ps k sp 0 ks ix) (hr : Room k X.A) (hgd : X.A.guards = some []) (hx : ∀ σ, PassesAt CX X σ (E σ)) (hk : PK X kws tk) (hm : ks.length = m := by rfl) (hg : Gl X x := by rfl)
    (hall : (backToKw pos (keywordEach kws X.env)).all (·.1.isSome) = true := by rfl) (hks : (backToKw pos (keywordEach kws X.env)).filterMap (·.1) = ks := by rfl) (hdb : (x == ("__debug__" : Str)) = false := by decide)
    (hpl : ((backTo pos (starEach [] X.env)).any (·.1) || (backToKw pos (keywordEach kws X.env)).any (·.1.isNone)) = false := by rfl) :
    PE X (.Call (.Name x p) [] kws pos) (tCallNS 0 m sp (fun vs zs => perm ix (vs ++ zs)) E tNil tk) := by
  subst hm
  obtain ⟨f, fd, G, hmg, kp, b⟩ := h
  exact pe_gNS0 G hr hgd hg hmg kp b hx hk hall hks hdb hpl
end
theorem hasg_of {P : Program} {w : World} {K : PySem.W.Frag} {mg : Str → Option Value} {base : Heap} {CX : CXT} {x qual : Str} {st : Stmt} {f : Addr} {fd : FuncData} {ps : List Str} {k : Nat} {sp : Sp} (Fu : Fun K x qual st f fd) (m : mg x = some (.ref f)) (G : FnG P w K mg base CX k f fd ps sp)
    (h : ∀ (kV doc pm : Value) (an : Option Addr) (cdv ct : Value) (us : List Value), us.length = ps.length → bindArgs (PySem.W.fnOf x qual (defArgs st) (defBody st) (defScope st) .none kV doc pm an cdv ct) ⟨us, []⟩ = pure (ps.zip us)) : HasG P w K mg base CX x ps k sp := ⟨f, fd, G, m, Fu.kp, Fu.binds h⟩
theorem hasgk_of {P : Program} {w : World} {K : PySem.W.Frag} {mg : Str → Option Value} {base : Heap} {CX : CXT} {x qual : Str} {st : Stmt} {f : Addr} {fd : FuncData} {ps : List Str} {k : Nat} {sp : Sp} (Fu : Fun K x qual st f fd) (m : mg x = some (.ref f)) (G : FnG P w K mg base CX k f fd ps sp) (n : Nat) (ks : List Str) (ix : List Nat)
    (h : ∀ (kV doc pm : Value) (an : Option Addr) (cdv ct : Value) (us ws : List Value), us.length = n → ws.length = ks.length → bindArgs (PySem.W.fnOf x qual (defArgs st) (defBody st) (defScope st) .none kV doc pm an cdv ct) ⟨us, ks.zip ws⟩ = pure (ps.zip (perm ix (us ++ ws)))) : HasGK P w K mg base CX x ps k sp n ks ix := by
  obtain ⟨oc, od, kV, doc, pm, an, cdv, ct, osl, rfl, lk, hcd⟩ := Fu.ex
  exact ⟨f, _, G, m, Fu.kp, fun s us ws _ h1 h2 => .of_eq (h kV doc pm an cdv ct us ws h1 h2), fun h1 h2 => vals_perm (h1.append h2) ix⟩
/-! the rules for a def, by values -/
section
variable {P : Program} {w : World} {K : PySem.W.Frag} {mg : Str → Option Value} {base : Heap} {x qual : Str} {st : Stmt} {f : Addr} {fd : FuncData} {N ps : List Str} {k : Nat}
theorem fnG_ok {F : FS} (Fu : Fun K x qual st f fd) (S : FnScope N ps (defScope st)) (len : ∀ ws μ R, F ws μ R → ws.length = ps.length)
    (hbody : ∀ (cdv : Value) (A : Around) (fr : List Env) (s : Shared) (H : Hp) (E : XK), Room k (A.deeper (envOfC qual (defScope st) s.heap.objs.size f cdv)) → (A.deeper (envOfC qual (defScope st) s.heap.objs.size f cdv)).guards = some [] →
      ∃ t, PSs (cxOf CX0 P w K mg base N qual (defScope st) f cdv A fr s H E).nox (defBody st) t ∧ ∀ ws μ R, F ws μ R → AS K t { nx := fun _ μ' => R (.d .none) μ', rt := R } (stG N ws) μ) : FnG P w K mg base CX0 (k + 1) f fd ps (spD K F) := by
  obtain ⟨oc, od, kV, doc, pm, an, cdv, ct, osl, rfl, lk, hcd⟩ := Fu.ex
  refine fnG_of lk hcd S (fun vs H Q E ⟨A, M, μ, ws, R, mo, r, h, _⟩ => by rw [r.length]; exact len ws μ R h) fun A fr s H vs Q E hr hgd ⟨A', M, μ, ws, R, mo, r, h, q⟩ => ?_
  obtain ⟨t, ht, hs⟩ := hbody cdv A fr s H E hr hgd
  exact ⟨t, ht.nox, hs ws μ R h A' M _ H ⟨mo, gr_start r⟩ _ ⟨fun M' σ' H' Γ' μ' c e h => q M' H' _ _ μ' c.mo e (.d .non) h, fun M' H' v w μ' mo' e' r' h => q M' H' v w μ' mo' e' r' h, fun _ _ _ _ _ _ _ h => h.elim, fun _ _ _ _ _ _ _ h => h.elim, fun _ _ _ _ _ _ _ _ _ _ _ _ h => h.elim⟩⟩
theorem fnG_okX {F : FX} (Fu : Fun K x qual st f fd) (S : FnScope N ps (defScope st)) (len : ∀ ws μ R S, F ws μ R S → ws.length = ps.length)
    (hbody : ∀ (cdv : Value) (A : Around) (fr : List Env) (s : Shared) (H : Hp) (E : XK), Room k (A.deeper (envOfC qual (defScope st) s.heap.objs.size f cdv)) → (A.deeper (envOfC qual (defScope st) s.heap.objs.size f cdv)).guards = some [] →
      ∃ t, PSs (cxOf (L2.CX P w) P w K mg base N qual (defScope st) f cdv A fr s H E) (defBody st) t ∧ ∀ ws μ R S, F ws μ R S → AS K t { nx := fun _ μ' => R (.d .none) μ', rt := R, xw := fun c d _ H => E c d H, xc := fun x w _ μ' => S x w μ' } (stG N ws) μ) :
    FnG P w K mg base (L2.CX P w) (k + 1) f fd ps (spX K F) := by
  obtain ⟨oc, od, kV, doc, pm, an, cdv, ct, osl, rfl, lk, hcd⟩ := Fu.ex
  refine fnG_of lk hcd S (fun vs H Q E ⟨A, M, μ, ws, R, S, mo, r, h, _⟩ => by rw [r.length]; exact len ws μ R S h) fun A fr s H vs Q E hr hgd ⟨A', M, μ, ws, R, S, mo, r, h, q, qx⟩ => ?_
  obtain ⟨t, ht, hs⟩ := hbody cdv A fr s H E hr hgd
  exact ⟨t, ht, hs ws μ R S h A' M _ H ⟨mo, gr_start r⟩ _ ⟨fun M' σ' H' Γ' μ' c e h => q M' H' _ _ μ' c.mo e (.d .non) h, fun M' H' v w μ' mo' e' r' h => q M' H' v w μ' mo' e' r' h, fun _ _ _ _ _ _ _ h => h.elim, fun _ _ _ _ _ _ _ h => h.elim,
    fun M' σ' H' Γ' x a d w μ' hc c e h => qx M' H' x a d w μ' hc c.mo e h⟩⟩
end
/-! calls by values -/
section
variable {K : PySem.W.Frag} {Γ : G} {μ : Mu} {R : W → Mu → Prop} {ta tk : TA} {E : L2.St → XK} {xw : L2.WX} {xc : Str → W → G → Mu → Prop} {n m : Nat} {ix : List Nat}
theorem ax_g {F : FS} (h : AXA K ta Γ μ fun ws μ1 => F ws μ1 R) : AX K (tCallS (spD K F) E ta) Γ μ R := fun A M σ H c Q q =>
  h A M σ H c _ fun M1 H1 vs ws μ1 mo1 e1 r1 h1 => ⟨A, M1, μ1, ws, R, mo1, r1, h1, fun M' H' v w μ' mo' e' r' hR => q M' H' v w μ' mo' (e1.trans e') r' hR⟩
theorem ax_gN {F : FS} (h : AXA K ta Γ μ fun ws μ1 => ws.length = n ∧ AXA K tk Γ μ1 fun us μ2 => us.length = m ∧ F (perm ix (ws ++ us)) μ2 R) : AX K (tCallNS n m (spD K F) (fun vs zs => perm ix (vs ++ zs)) E ta tk) Γ μ R := fun A M σ H c Q q =>
  h A M σ H c _ fun M1 H1 vs ws μ1 mo1 e1 r1 ⟨l1, h1⟩ => h1 A M1 σ H1 (c.eff e1 mo1) _ fun M2 H2 zs us μ2 mo2 e2 r2 ⟨l2, h2⟩ =>
    ⟨r1.length.trans l1, r2.length.trans l2, A, M2, μ2, _, R, mo2, vrs_perm ((r1.mono e2.ex e2.pre).append r2) ix, h2, fun M' H' v w μ' mo' e' r' hR => q M' H' v w μ' mo' ((e1.trans e2).trans e') r' hR⟩
/-- called where it does not raise -/
theorem ax_gX {F : FX} (h : AXA K ta Γ μ fun ws μ1 => F ws μ1 R NoX) : AX K (tCallS (spX K F) E ta) Γ μ R := fun A M σ H c Q q =>
  h A M σ H c _ fun M1 H1 vs ws μ1 mo1 e1 r1 h1 => ⟨A, M1, μ1, ws, R, NoX, mo1, r1, h1, fun M' H' v w μ' mo' e' r' hR => q M' H' v w μ' mo' (e1.trans e') r' hR, fun _ _ _ _ _ _ _ _ _ _ z => z.elim⟩
theorem ax_gXN {F : FX} (h : AXA K ta Γ μ fun ws μ1 => ws.length = n ∧ AXA K tk Γ μ1 fun us μ2 => us.length = m ∧ F (perm ix (ws ++ us)) μ2 R NoX) : AX K (tCallNS n m (spX K F) (fun vs zs => perm ix (vs ++ zs)) E ta tk) Γ μ R := fun A M σ H c Q q =>
  h A M σ H c _ fun M1 H1 vs ws μ1 mo1 e1 r1 ⟨l1, h1⟩ => h1 A M1 σ H1 (c.eff e1 mo1) _ fun M2 H2 zs us μ2 mo2 e2 r2 ⟨l2, h2⟩ =>
    ⟨r1.length.trans l1, r2.length.trans l2, A, M2, μ2, _, R, NoX, mo2, vrs_perm ((r1.mono e2.ex e2.pre).append r2) ix, h2, fun M' H' v w μ' mo' e' r' hR => q M' H' v w μ' mo' ((e1.trans e2).trans e') r' hR, fun _ _ _ _ _ _ _ _ _ _ z => z.elim⟩
/-- called where it may raise, by keywords -/
theorem axx_callN {F : FX} (h : AXA K ta Γ μ fun ws μ1 => ws.length = n ∧ AXA K tk Γ μ1 fun us μ2 => us.length = m ∧ F (perm ix (ws ++ us)) μ2 R fun x w μ3 => xc x w Γ μ3) : AXx K xw xc (tCallNS n m (spX K F) (fun vs zs => perm ix (vs ++ zs)) (WE xw) ta tk) Γ μ R := fun A M σ H c x Q q =>
  h A M σ H c _ fun M1 H1 vs ws μ1 mo1 e1 r1 ⟨l1, h1⟩ => h1 A M1 σ H1 (c.eff e1 mo1) _ fun M2 H2 zs us μ2 mo2 e2 r2 ⟨l2, h2⟩ =>
    ⟨r1.length.trans l1, r2.length.trans l2, A, M2, μ2, _, R, _, mo2, vrs_perm ((r1.mono e2.ex e2.pre).append r2) ix, h2, fun M' H' v w μ' mo' e' r' hR => q M' H' v w μ' mo' ((e1.trans e2).trans e') r' hR,
      fun M' H' y a d w μ' hc mo' e' hS => x M' σ H' Γ y a d w μ' hc (c.eff ((e1.trans e2).trans e') mo') ((e1.trans e2).trans e') hS⟩
end
/-! ### the law's end -/
theorem law_callG {P : Program} {w : World} {K : PySem.W.Frag} {mg mb : Str → Option Value} {CX : CXT} {k : Nat} {fa a : Addr} {fd : FuncData} {x : Str} {sp : Sp} {s₁ : Shared} {vs : List Value} {ns : List Int}
    (KX : K.In s₁.heap) (hns : s₁.heap.Ns mainGlobals mg) (hb : s₁.heap.Ns builtinsNs mb) (hbb : ∀ x : Str, x ≠ "__name__" → mb x = bootBuiltins x) (hlim : s₁.heap.NoLimit) (hg : s₁.gens = #[])
    (ha : s₁.heap.get? a = some { cls := .type "list", data := .seq vs.toArray }) (hi : IntsAre vs ns) (hl : ns.length ≤ sizeLine) (hr : Room k callerA)
    (F : ∀ base : Heap, K.In base → base.Ns mainGlobals mg → FnG P w K mg base CX k fa fd [x] sp) (hbd : ∀ (s : Shared) (u : Value), BindsTo s fd ⟨[u], []⟩ [(x, u)])
    (hsp : ∀ H : Hp, Only H → SqL K H a (ns.map V.int) → sp [.ref a] H (fun v _ => v = .bl true) fun _ _ _ => False) (hCX : ∀ H e s', CX [] H s₁ (fun _ _ _ => False) e s' → False) :
    codeAny (model P w) callerA (.call (.ref fa) ⟨[.ref a], []⟩) (fun r s' => r = .ok (.ret (.bool true)) ∧ OldK s₁.heap s'.heap ∧ s'.os = s₁.os ∧ AllBare s'.gens) s₁ := by
  have rv := vals_ints hi
  have core : ∀ H : Hp, Only H → SqL K H a (ns.map V.int) → HOk P w H s₁.heap → (∀ b, H b ≠ none → b = a) → (H a ≠ none → K.lookup a = none) →
      codeAny (model P w) callerA (.call (.ref fa) ⟨[.ref a], []⟩) (fun r s' => r = .ok (.ret (.bool true)) ∧ OldK s₁.heap s'.heap ∧ s'.os = s₁.os ∧ AllBare s'.gens) s₁ := fun H hO hS hok hA hK => by
    have isA : ∀ {b : Addr} {u : HO}, H b = some u → b = a := fun {b u} q => hA b (by rw [q]; simp)
    have noA : ∀ {b : Addr} {o : Obj} {es : Array DictEntry} {ep : Nat}, s₁.heap.get? b = some o → o.data = .dict es ep → H b = none := fun {b o es ep} e d => by
      cases q : H b with
      | none => rfl
      | some u =>
        rw [isA q, ha] at e
        cases e
        cases d
    have toK : ∀ {b : Addr} {m : Str → Option Value}, s₁.heap.Ns b m → (hidT s₁.heap H).Ns b m := fun {b m} ⟨o, es, ep, e, d, r⟩ => ⟨o, es, ep, hidT_get e (noA e d), d, r⟩
    have KB : K.In (hidT s₁.heap H) := fun b o e => hidT_get (KX b o e) (by
      cases q : H b with
      | none => rfl
      | some u =>
        have z := isA q
        subst z
        rw [hK (by rw [q]; simp)] at e
        cases e)
    have md : Mod K mg (hidT s₁.heap H) := ⟨KB, toK hns, ⟨mb, toK hb, hbb⟩, let ⟨mc, h1, h2⟩ := hlim; ⟨mc, toK h1, h2⟩⟩
    have e0 : Env0 P w K mg (hidT s₁.heap H) callerA [] s₁ H := ⟨rfl, md, fun b o e => of_hidT e, Nat.le_of_eq (hidT_size _ _), trivial, fun b hb => (by cases hb), hok, .of_eq hg⟩
    refine codeAny_mono ((F _ KB (toK hns)).go callerA [] s₁ H ⟨[.ref a], []⟩ [.ref a] [.ref a] _ _ hr rfl e0 (hbd s₁ (.ref a)) (.cons rfl .nil) (hsp H hO hS)) fun r s' h => ?_
    match r, h with
    | .error e, h => exact (hCX H e s' h).elim
    | .ok (.ret u), ⟨v, H', os, bare, un, hok', r', q⟩ =>
      have q' : v = .bl true := q
      subst q'
      obtain rfl : u = Value.bool true := r'
      refine ⟨rfl, OldK.of_keep fun b o e => ?_, os, bare⟩
      cases q : H b with
      | none => exact un.keep b o e q (fun z => by cases z) (by simp)
      | some u =>
        rcases hO b with z | ⟨ob, xs, z⟩
        · rw [q] at z
          cases z
        · have e1 := (hok b _ z).1
          have e2 := (hok' b _ (un.frzs b ob _ z)).1
          rw [e] at e1
          cases e1
          exact e2
  cases hk : K.lookup a with
  | some o =>
    have e := KX a o hk
    rw [ha] at e
    cases e
    exact core (fun _ => none) (fun _ => .inl rfl) (.inr ⟨_, vs.toArray, _, hk, rfl, rfl, rfl, by rw [List.size_toArray, hi.length]; exact hl, by simpa using rv⟩) (fun b u z => by cases z) (fun b z => (z rfl).elim) fun z => (z rfl).elim
  | none =>
    have some_of : ∀ {b : Addr} {u : HO}, (if b = a then some (HO.frz { cls := .type "list", data := .seq vs.toArray } (.lst (ns.map V.int))) else none) = some u → b = a ∧ u = .frz { cls := .type "list", data := .seq vs.toArray } (.lst (ns.map V.int)) := fun {b u} z => by
      by_cases hb : b = a
      · rw [if_pos hb] at z
        exact ⟨hb, (Option.some.inj z).symm⟩
      · rw [if_neg hb] at z
        cases z
    refine core (fun b => if b = a then some (.frz { cls := .type "list", data := .seq vs.toArray } (.lst (ns.map V.int))) else none) (fun b => ?_) (.inl (.inr ⟨{ cls := .type "list", data := .seq vs.toArray }, if_pos rfl⟩)) (fun b u z => ?_) (fun b z => ?_) fun _ => hk
    · by_cases hb : b = a
      · exact .inr ⟨_, _, if_pos hb⟩
      · exact .inl (if_neg hb)
    · obtain ⟨rfl, rfl⟩ := some_of z
      exact ⟨ha, by rw [List.length_map]; exact hl, vs, _, rv, ha⟩
    · by_cases hb : b = a
      · exact hb
      · exact (z (if_neg hb)).elim
/-- the goal that k_head leaves, from the law's promise -/
theorem walk_ofG {l : PySem.W.OpenLaw} {n k : Nat} {q : Program} {loose : List Str} {XP : (Str → Option Value) → Heap → Prop} {YP : World → Heap → Prop} {d : DefRec} {K : Params → PySem.W.Frag} {CX : World → CXT} {sp : World → Sp} {x : Str}
    (hn : l.most = some n) (hn2 : n ≤ sizeLine) (hdf : d.params.defaults = []) (hr : Room k callerA) (hY : ∀ (w : World) (h : Heap), YP w h → (K w.params).In h)
    (F : ∀ (w : World) (mg : Str → Option Value) (fa : Addr) (h : Heap), (K w.params).In h → h.Ns mainGlobals mg → mg d.name = some (.ref fa) →
      ∃ fd : FuncData, (∀ (s : Shared) (u : Value), BindsTo s fd ⟨[u], []⟩ [(x, u)]) ∧ ∀ base : Heap, (K w.params).In base → base.Ns mainGlobals mg → FnG l.prog w (K w.params) mg base (CX w) k fa fd [x] (sp w))
    (hsp : ∀ (w : World) (H : Hp) (a : Addr) (ns : List Int), ns.length ≤ n → Only H → SqL (K w.params) H a (ns.map V.int) → sp w [.ref a] H (fun v _ => v = .bl true) fun _ _ _ => False)
    (hCX : ∀ (w : World) (H : Hp) (s : Shared) (e : Value) (s' : Shared), CX w [] H s (fun _ _ _ => False) e s' → False) : PySem.W.WalkO q loose XP YP l.row.toRowW d [] (fun f vs => PySem.call f vs) :=
  Att.attach_call hn hdf fun w s₀ s₁ mg mb fa o pm cd doc a vs ns G Y ho hd hcd hmg hobj hints hlen hg => by
    have KX := hY w _ Y
    obtain ⟨fd, hb, hF⟩ := F w mg fa _ KX G.T.g hmg
    exact law_callG KX G.T.g G.T.b G.T.builtins G.T.nolimit hg hobj hints (Nat.le_trans hlen hn2) hr hF hb (fun H hO hS => hsp w H a ns hlen hO hS) fun H e s' => hCX w H s₁ e s'
end Pd

/-! Pd11: repr of data. -/
namespace Pd
open PySem PySem.Spec L2
open Evl (Ex)
open PyProof.Rows
/-- data that may be shown -/
structure Shw (d : PyData) : Prop where
  s : d.showable = true
  n : d.hasDict = false
  dp : d.depth ≤ 60
  ln : d.shown.length ≤ sizeLine
mutual
/-- integers below 10 ** 50, proper texts, no dicts -/
def bd : PyData → Prop
  | .none | .bool _ => True
  | .int i => i.natAbs < 10 ^ 50
  | .str x => ∀ c ∈ x.cps.toList, c < 16 ^ 8
  | .list xs | .tuple xs => bds xs
  | .dict _ => False
def bds : List PyData → Prop
  | [] => True
  | x :: xs => bd x ∧ bds xs
end
mutual
def nd : PyData → Nat
  | .none | .bool _ | .int _ => 1
  | .str x => x.cps.size + 1
  | .list xs | .tuple xs => nds xs + 1
  | .dict _ => 1
def nds : List PyData → Nat
  | [] => 0
  | x :: xs => nd x + nds xs
end
theorem log_of {n : Nat} (h : n < 10 ^ 50) : n.log2 < 167 := by
  by_cases z : n = 0
  · subst z
    decide
  · exact (Nat.log2_lt z).mpr (Nat.lt_trans h (by decide))
mutual
theorem bd_all : ∀ d : PyData, bd d → d.showable = true ∧ d.hasDict = false ∧ d.leavesShort 60 = true ∧ d.weight + 1 ≤ 200 * nd d
  | .none, _ => ⟨rfl, rfl, rfl, by decide⟩
  | .bool _, _ => ⟨rfl, rfl, rfl, by simp [PyData.weight, nd]⟩
  | .int i, h => by
    have h' : i.natAbs < 10 ^ 50 := h
    have l := log_of h'
    refine ⟨decide_eq_true (Nat.lt_trans l (by decide)), rfl, decide_eq_true ?_, ?_⟩
    · have e := int_text_length_le10 (a := i) (k := 50) (by decide) h'
      have e2 : (PyData.shown (.int i)).length = (toString i).length := by
        show (Str.ofString (toString i)).length = _
        exact PySem.ofString_length _
      omega
    · show (if i == 0 then 0 else i.natAbs.log2 + 1) + 1 ≤ 200 * 1
      split <;> omega
  | .str x, h => ⟨rfl, rfl, by
      have h' : ∀ c ∈ x.cps.toList, c < 16 ^ 8 := h
      show (x.cps.toList.all fun c => decide (c < 16 ^ 8)) = true
      rw [List.all_eq_true]
      exact fun c m => decide_eq_true (h' c m), by
      show x.cps.size + 1 ≤ 200 * (x.cps.size + 1)
      omega⟩
  | .list xs, h => by
    obtain ⟨a, b, c, e⟩ := bds_all xs h
    exact ⟨a, b, c, by show PyData.weightAll xs + 1 ≤ 200 * (nds xs + 1); omega⟩
  | .tuple xs, h => by
    obtain ⟨a, b, c, e⟩ := bds_all xs h
    exact ⟨a, b, c, by show PyData.weightAll xs + 1 ≤ 200 * (nds xs + 1); omega⟩
  | .dict _, h => h.elim
theorem bds_all : ∀ xs : List PyData, bds xs → PyData.showableAll xs = true ∧ PyData.hasDictAll xs = false ∧ PyData.leavesShortAll 60 xs = true ∧ PyData.weightAll xs ≤ 200 * nds xs
  | [], _ => ⟨rfl, rfl, rfl, Nat.zero_le _⟩
  | x :: xs, h => by
    obtain ⟨a, b, c, e⟩ := bd_all x h.1
    obtain ⟨a', b', c', e'⟩ := bds_all xs h.2
    refine ⟨?_, ?_, ?_, ?_⟩
    · simp [PyData.showableAll, a, a']
    · simp [PyData.hasDictAll, b, b']
    · simp [PyData.leavesShortAll, c, c']
    · show PyData.weight x + 1 + PyData.weightAll xs ≤ 200 * (nd x + nds xs)
      omega
end
theorem shw_of {d : PyData} (h : bd d) (hn : nd d ≤ 1000) (hd : d.depth ≤ 60) : Shw d := by
  obtain ⟨a, b, c, e⟩ := bd_all d h
  refine ⟨a, b, hd, ?_⟩
  have := PyData.shown_le 60 (by decide) d c
  rw [sizeLine_eq]
  omega
theorem bds_ints : ∀ {ns : List Int}, (∀ n ∈ ns, n.natAbs < 10 ^ 50) → bds (ns.map PyData.int)
  | [], _ => trivial
  | n :: ns, h => ⟨h n (.head _), bds_ints fun m k => h m (.tail _ k)⟩
theorem nds_ints : ∀ ns : List Int, nds (ns.map PyData.int) = ns.length
  | [] => rfl
  | n :: ns => by
    show 1 + nds (ns.map PyData.int) = ns.length + 1
    rw [nds_ints ns]
    omega
theorem shw_ints {ns : List Int} (h : ∀ n ∈ ns, n.natAbs < 10 ^ 50) (hl : ns.length ≤ 900) : Shw (dInts ns) :=
  shw_of (bds_ints h) (by show nds (ns.map PyData.int) + 1 ≤ 1000; rw [nds_ints]; omega) (by have := depthAll_ints ns; simp only [dInts, PyData.depth]; omega)
def rRep (K : PySem.W.Frag) : List V → Hp → VK → Prop := fun xs H Q => ∃ v d, xs = [v] ∧ Dp K H v d ∧ Shw d ∧ Q (.str d.shown) H
theorem call_rep {X : Cx} (hg : X.A.guards = some []) (hu : X.A.units + 64 < cLine) : CallR X (.builtin "repr") (rRep X.K) := by
  intro pins s σ H xs us Q I r h
  obtain ⟨v, d, rfl, hd, S, q⟩ := h
  cases r with
  | @cons _ u _ _ rv rn =>
    cases rn
    have viaRef : ∀ a : Addr, v = .ref a → wpAny (model X.prog X.w) X.A (call (.builtin "repr") [u]) (EP X pins σ Q) X.xe s := fun a e => by
      subst e
      obtain rfl : u = Value.ref a := rv
      obtain ⟨as, rd⟩ := Dp.reads I d _ _ hd rfl
      refine repr_of_reads' rd S.s (fun z => by rw [S.n] at z; cases z) hg (by have := S.dp; omega) (fun _ _ e => e) (fun h' t tk k => ⟨.str d.shown, H, ?_, ⟨_, rfl⟩, q⟩) S.ln
      exact I.kept (t' := tk) k
    cases hd with
    | non =>
      obtain rfl : u = Value.none := rv
      exact PySem.P.repr_of_none ⟨.str (PyData.shown .none), H, I.tok _, ⟨_, rfl⟩, q⟩
    | bl b =>
      obtain rfl : u = Value.bool b := rv
      exact PySem.P.repr_of_bool ⟨.str (PyData.shown (.bool b)), H, I.tok _, ⟨_, by cases b <;> rfl⟩, q⟩
    | int i =>
      obtain ⟨t, rfl⟩ := rv
      exact PySem.P.repr_of_int (of_decide_eq_true S.s) ⟨.str (PyData.shown (.int i)), H, I.tok _, ⟨_, rfl⟩, q⟩
    | str x =>
      obtain ⟨t, rfl⟩ := rv
      exact PySem.P.repr_of_str ⟨.str (PyData.shown (.str x)), H, I.tok _, ⟨_, rfl⟩, q⟩ S.ln
    | lst _ _ => exact viaRef _ rfl
    | tup _ _ => exact viaRef _ rfl
theorem c_rep {K : PySem.W.Frag} {μ : Mu} {R : W → Mu → Prop} {x : W} {d : PyData} (hx : Rs μ x d) (S : Shw d) (q : R (.d (.str d.shown)) μ) : AC K (rRep K) [x] μ R := fun A M H vs mo rs Q h => by
  cases rs with
  | cons rw rn =>
    cases rn
    exact ⟨_, d, rfl, hx.dp mo rw, S, h M H _ _ μ mo Eff.refl (.d (.str _)) q⟩
/-- the module's x is the constant v -/
def Cst (mg : Str → Option Value) (x : Str) (v : V) : Prop := ∃ u, mg x = some u ∧ RelV v u
theorem pe_con0 {X : Cx} {x : Str} {v : V} {pos : Pos} (h : Cst X.mg x v) (hg : Gl X x) (hd : (x == ("__debug__" : Str)) = false := by decide) : PE X (.Name x pos) (tC v) := by
  obtain ⟨u, hm, r⟩ := h
  exact pe_glob hg hm r hd
end Pd

/-! Pd12: shorter readings: pure comprehensions, draws, clauses. -/
namespace Pd
open PySem PySem.Spec L2
open Evl (Ex)
open PyProof.Rows
section
variable {K : PySem.W.Frag} {Γ : G} {μ : Mu} {R : W → Mu → Prop} {wi : TI} {g : TG} {te : TE} {vs : List Nat}
theorem ai_weak {RI RI' : List W → (Mu → Prop) → Mu → Prop} (h : AI K wi Γ μ RI) (k : ∀ items S μ', RI items S μ' → RI' items S μ') : AI K wi Γ μ RI' := fun A M σ H c Q q => h A M σ H c Q fun M' H' J items S μ' mo e hJ hR => q M' H' J items S μ' mo e hJ (k _ _ _ hR)
theorem ag_weak {w : W} {RG RG' : G → Mu → Prop} (h : AG K g w Γ μ RG) (k : ∀ Γ' μ', RG Γ' μ' → RG' Γ' μ') : AG K g w Γ μ RG' := fun A M σ H v c r Q q => h A M σ H v c r Q fun M' σ' H' Γ' μ' c' e hR => q M' σ' H' Γ' μ' c' e (k _ _ hR)
/-- a comprehension that changes nothing -/
theorem ax_lcP {α : Type} (f : α → W) (ns : List α) (gf : α → W) (hz : ns.length ≤ sizeLine) (hw : WipeOk g vs) (h : AI K wi Γ μ fun items S μ1 => items = ns.map f ∧ S μ ∧ μ1 = μ)
    (hs : ∀ x, x ∈ ns → AG K g (f x) (wipeG Γ vs) μ fun Γ2 μ2 => AX K te Γ2 μ2 fun w μ4 => w = gf x ∧ μ4 = μ) (q : NL (ns.map gf) μ R) : AX K (tLc wi g tYes te vs) Γ μ R := by
  refine ax_lc f ns (fun pre acc μ' => acc = pre.map gf ∧ μ' = μ) hz hw ?_ ?_ ?_
  · refine ai_weak h fun items S μ1 ⟨a, b, c⟩ => ⟨a, fun pre acc μ' e => ?_, rfl, c⟩
    rw [e.2]
    exact b
  · rintro pre x post acc μ' e hl ⟨rfl, rfl⟩
    refine ag_weak (hs x (by rw [e]; simp)) fun Γ2 μ2 h2 => at_yes ?_
    rw [if_pos rfl]
    exact ax_weak h2 fun w μ4 ⟨a, b⟩ => ⟨by rw [a]; simp, b⟩
  · rintro acc μ' ⟨rfl, rfl⟩
    exact q
theorem ax_lcI {α : Type} (f : α → W) (ns : List α) (gf : α → Int) (hz : ns.length ≤ sizeLine) (hw : WipeOk g vs) (h : AI K wi Γ μ fun items S μ1 => items = ns.map f ∧ S μ ∧ μ1 = μ)
    (hs : ∀ x, x ∈ ns → AG K g (f x) (wipeG Γ vs) μ fun Γ2 μ2 => AX K te Γ2 μ2 fun w μ4 => w = .d (.int (gf x)) ∧ μ4 = μ) (q : NL (wInts (ns.map gf)) μ R) : AX K (tLc wi g tYes te vs) Γ μ R :=
  ax_lcP f ns (fun x => .d (.int (gf x))) hz hw h hs (by
    have e : ns.map (fun x => W.d (.int (gf x))) = wInts (ns.map gf) := by simp [wInts]
    rw [e]
    exact q)
/-- all([.. for ..]) -/
theorem ax_allP {α : Type} (f : α → W) (ns : List α) (pf : α → Bool) (hz : ns.length ≤ sizeLine) (hw : WipeOk g vs) (h : AI K wi Γ μ fun items S μ1 => items = ns.map f ∧ S μ ∧ μ1 = μ)
    (hs : ∀ x, x ∈ ns → AG K g (f x) (wipeG Γ vs) μ fun Γ2 μ2 => AX K te Γ2 μ2 fun w μ4 => w = .d (.bool (pf x)) ∧ μ4 = μ) (q : R (.d (.bool (ns.all pf))) μ) : AX K (tCB (rAll K) (tCons (tLc wi g tYes te vs) tNil)) Γ μ R := by
  refine ax_cb (aa_cons (ax_lcP f ns (fun x => .d (.bool (pf x))) hz hw h hs (NL.d (xs := ns.map fun x => PyData.bool (pf x)) ?_ (by simp))))
  refine aa_nil (ac_all (bs := ns.map pf) ?_ ?_)
  · have e : (ns.map pf).map (fun n => W.d (.bool n)) = (ns.map fun x => PyData.bool (pf x)).map W.d := by simp
    rw [e]
    exact .d _
  · have e : (ns.map pf).all id = ns.all pf := by simp [List.all_map]
    rw [e]
    exact q
theorem as_raiseE {D : AEn} {ta : TA} {x : PySem.Str} {xw : L2.WX} (hx : D.xw = xw) (h : AXA K ta Γ μ fun ws μ1 => ∃ w, ws = [w] ∧ D.xc x w Γ μ1) : AS K (tRaiseE K x xw ta) D Γ μ := by
  subst hx
  exact as_raise h
end
/-- as ax_lc, the list told once the iterator is made -/
theorem ax_lcD {K : PySem.W.Frag} {Γ : G} {μ : Mu} {wi : TI} {g : TG} {tt : TT} {te : TE} {vs : List Nat} {R : W → Mu → Prop} {α : Type} (f : α → W) (hw : WipeOk g vs)
    (h : AI K wi Γ μ fun items S μ1 => ∃ (ns : List α) (I : List α → List W → Mu → Prop), items = ns.map f ∧ ns.length ≤ sizeLine ∧ (∀ pre acc μ', I pre acc μ' → S μ') ∧ I [] [] μ1 ∧
      (∀ pre x post acc μ', ns = pre ++ x :: post → acc.length ≤ pre.length → I pre acc μ' → AG K g (f x) (wipeG Γ vs) μ' fun Γ2 μ2 => AXT K tt Γ2 μ2 fun b μ3 => if b = true then AX K te Γ2 μ3 fun w μ4 => I (pre ++ [x]) (acc ++ [w]) μ4 else I (pre ++ [x]) acc μ3) ∧
      ∀ acc μ', I ns acc μ' → NL acc μ' R) : AX K (tLc wi g tt te vs) Γ μ R := fun A M σ H cn Q q =>
  h A M σ H cn _ fun M1 H1 J items S μ1 mo1 e1 hJ ⟨ns, I, hi, hz, hS, h0, hs, hd⟩ => by
    subst hi
    intro p hp
    have hA : ¬ A p := fun z => mo1.aA p z hp
    refine ⟨fun i m H' => i ≤ ns.length ∧ m = ns.length - i ∧ LcI K A M1 μ1 H1 p (fun acc μ' => acc.length ≤ i ∧ I (ns.take i) acc μ') H',
      ⟨ns.length, Nat.zero_le _, rfl, M1, μ1, [], [], upd_same, mo1.add hp, by rw [delH_upd2, delH_none hp]; exact Eff.refl, .nil, Nat.le_refl _, h0⟩, fun i m H' hW => ?_⟩
    obtain ⟨hi, rfl, M', μ', us, acc, hu, mo', e', ru, hal, hI⟩ := hW
    have hex : Ex (vw A M1 μ1 H1) (vw (addA A p) M' μ' H') := by
      rw [vw_add]
      exact e'.ex
    have hit := hJ (addA A p) M' H' μ' mo' hex e'.pre (hS _ _ _ hI) i
    by_cases hlt : i < ns.length
    · have hx : ns[i]? = some ns[i] := List.getElem?_eq_getElem hlt
      have hw' : (ns.map f)[i]? = some (f ns[i]) := by rw [List.getElem?_map, hx]; rfl
      obtain ⟨hgo, hy⟩ := hit.1 _ hw'
      refine .inr ⟨hgo, LcI K A M1 μ1 H1 p (fun acc μ' => acc.length ≤ i + 1 ∧ I (ns.take (i + 1)) acc μ'), fun H2 h2 => ⟨ns.length - (i + 1), by omega, hlt, rfl, h2⟩, fun x H2 hyld => ?_⟩
      obtain ⟨ex2, rx⟩ := hy x H2 hyld
      have eH2 : Eff (addA A p) M' μ' H' M' μ' H2 := Eff.of_ex ex2
      have c0 : GR K (vw A M1 μ1 H1) M1 (wipe σ vs) (wipeG Γ vs) := (cn.gr.mono e1.ex e1.pre).wipeG vs
      have c2 : Cn K (addA A p) M' (wipe σ vs) H2 (wipeG Γ vs) μ' := ⟨mo'.ex ex2, (c0.mono hex e'.pre).mono (vw_ex ex2) (Pre.refl _)⟩
      have hlen : (ns.take i).length = i := by rw [List.length_take]; omega
      refine hw x σ H2 _ ?_
      refine hs (ns.take i) ns[i] (ns.drop (i + 1)) acc μ' (split_at hx) (by omega) hI (addA A p) M' (wipe σ vs) H2 x c2 rx _ fun M3 σ3 H3 Γ3 μ3 c3 e3 h3 => ?_
      refine h3 (addA A p) M3 σ3 H3 c3 _ fun M4 H4 b μ4 mo4 e4 h4 => ?_
      have eA : Eff (addA A p) M' μ' H' M4 μ4 H4 := (eH2.trans e3).trans e4
      have hu4 : H4 p = some (.lst us) := eA.own p _ (.inr rfl) hu
      cases b with
      | false =>
        refine ⟨M4, μ4, us, acc, hu4, mo4, e'.trans eA.del2, ru.mono eA.ex eA.pre, by omega, ?_⟩
        rw [take_snoc hx]
        exact h4
      | true =>
        refine h4 (addA A p) M4 σ3 H4 (c3.eff e4 mo4) _ fun M5 H5 y w μ5 mo5 e5 r5 h5 => ?_
        have eB : Eff (addA A p) M' μ' H' M5 μ5 H5 := eA.trans e5
        have hu5 : H5 p = some (.lst us) := eB.own p _ (.inr rfl) hu
        have rus : VRs K (vw (addA A p) M5 μ5 H5) M5 (us ++ [y]) (acc ++ [w]) := (ru.mono eB.ex eB.pre).snoc r5
        refine ⟨us, hu5, ?_, M5, μ5, us ++ [y], acc ++ [w], upd_same, mo5.wr, ?_, ?_, by simp; omega, ?_⟩
        · rw [ru.length]
          omega
        · rw [delH_upd2]
          exact e'.trans eB.del2
        · rw [vw_add, delH_upd2, ← vw_add]
          exact rus
        · rw [take_snoc hx]
          exact h5
    · have hei : i = ns.length := by omega
      subst hei
      refine .inl ⟨hit.2 (by simp), ?_⟩
      rw [List.take_length] at hI
      have md := mo'.del hA
      have rd : VRs K (vw A M' μ' (delH H' p)) M' us acc := by
        rw [← vw_add]
        exact ru
      obtain ⟨M2, μ2, w, m2, e2, r2, hR⟩ := (hd acc μ' hI).use md rd (show delH H' p p = none from if_pos rfl)
      rw [delH_upd hu] at m2 e2 r2
      exact q M2 H' _ w μ2 m2 ((e1.trans e').trans e2) r2 hR
/-- as as_for, the list told once the iterator is made -/
theorem as_forD {K : PySem.W.Frag} {Γ : G} {μ : Mu} {wi : TI} {g : TG} {tb : TS} {D : AEn} {α : Type} (f : α → W)
    (h : AI K wi Γ μ fun items S μ1 => ∃ (ns : List α) (I : List α → G → Mu → Prop), items = ns.map f ∧ (∀ pre Γ' μ', I pre Γ' μ' → S μ') ∧ I [] Γ μ1 ∧
      (∀ pre x post Γ' μ', ns = pre ++ x :: post → I pre Γ' μ' → AG K g (f x) Γ' μ' fun Γ2 μ2 => AS K tb { D with nx := I (pre ++ [x]), ct := I (pre ++ [x]), bk := D.nx } Γ2 μ2) ∧
      ∀ Γ' μ', I ns Γ' μ' → D.nx Γ' μ') : AS K (tFor wi g tb) D Γ μ := fun A M σ H cn E hE =>
  h A M σ H cn _ fun M1 H1 J items S μ1 mo1 e1 hJ ⟨ns, I, hi, hS, h0, hs, hd⟩ => by
    subst hi
    refine ⟨fun i m σ' H' => ∃ M' Γ' μ', Cn K A M' σ' H' Γ' μ' ∧ Eff A M1 μ1 H1 M' μ' H' ∧ i ≤ ns.length ∧ m = ns.length - i ∧ I (ns.take i) Γ' μ',
      ⟨ns.length, M1, Γ, μ1, cn.eff e1 mo1, Eff.refl, Nat.zero_le _, rfl, h0⟩, fun i m σ' H' hW => ?_⟩
    obtain ⟨M', Γ', μ', c', e', hi, rfl, hI⟩ := hW
    have hit := hJ A M' H' μ' c'.mo e'.ex e'.pre (hS _ _ _ hI) i
    by_cases hlt : i < ns.length
    · have hx : ns[i]? = some ns[i] := List.getElem?_eq_getElem hlt
      have hw : (ns.map f)[i]? = some (f ns[i]) := by rw [List.getElem?_map, hx]; rfl
      obtain ⟨hgo, hy⟩ := hit.1 _ hw
      refine .inr ⟨hgo, fun σ2 H2 => ∃ M2 Γ2 μ2, Cn K A M2 σ2 H2 Γ2 μ2 ∧ Eff A M1 μ1 H1 M2 μ2 H2 ∧ I (ns.take (i + 1)) Γ2 μ2,
        fun σ2 H2 ⟨M2, Γ2, μ2, c2, e2, hI2⟩ => ⟨ns.length - (i + 1), by omega, M2, Γ2, μ2, c2, e2, hlt, rfl, hI2⟩, fun x H2 hyld => ?_⟩
      obtain ⟨ex2, rx⟩ := hy x H2 hyld
      have e2' : Eff A M' μ' H' M' μ' H2 := Eff.of_ex ex2
      refine hs (ns.take i) ns[i] (ns.drop (i + 1)) Γ' μ' (split_at hx) hI A M' σ' H2 x (c'.ex ex2) rx _ fun M3 σ3 H3 Γ3 μ3 c3 e3 h3 => ?_
      have e13 : Eff A M1 μ1 H1 M3 μ3 H3 := (e'.trans e2').trans e3
      refine h3 A M3 σ3 H3 c3 _ ⟨fun M4 σ4 H4 Γ4 μ4 c4 e4 h4 => ?_, fun M4 H4 v w μ4 m4 e4 r4 h4 => hE.rt M4 H4 v w μ4 m4 ((e1.trans e13).trans e4) r4 h4, fun M4 σ4 H4 Γ4 μ4 c4 e4 h4 => hE.nx M4 σ4 H4 Γ4 μ4 c4 ((e1.trans e13).trans e4) h4, fun M4 σ4 H4 Γ4 μ4 c4 e4 h4 => ?_, hE.xx.after (e1.trans e13)⟩
      · refine ⟨M4, Γ4, μ4, c4, e13.trans e4, ?_⟩
        rw [take_snoc hx]
        exact h4
      · refine ⟨M4, Γ4, μ4, c4, e13.trans e4, ?_⟩
        rw [take_snoc hx]
        exact h4
    · have hei : i = ns.length := by omega
      subst hei
      refine .inl ⟨hit.2 (by simp), ?_⟩
      rw [List.take_length] at hI
      exact hE.nx M' σ' H' Γ' μ' c' (e1.trans e') (hd Γ' μ' hI)
theorem ax_xvV {K : PySem.W.Frag} {Γ : G} {μ : Mu} {R : W → Mu → Prop} {a C d : Addr} {x : PySem.Str} {k i : Nat} {w : W} (hx : ErrV K x) (hC : clA K x C) (hi : Γ[i]? = some (some (.k (.ref a)))) (hk : μ[k]? = some (some (.xd d w))) (q : R w μ) : AX K (tXv K a (.ref C) (some d) (tVar i)) Γ μ R :=
  ax_xv hx hC (ax_var hi ⟨rfl, hk, q⟩)
theorem set_self {μ : Mu} {k : Nat} {c : Option C} (h : μ[k]? = some c) : μ.set k c = μ := by
  apply List.ext_getElem?
  intro j
  rw [List.getElem?_set]
  by_cases e : k = j
  · subst e
    rw [if_pos rfl, if_pos (List.getElem?_eq_some_iff.mp h).1, h]
  · rw [if_neg e]
theorem eqv_rs {d : PyData} (h : SeqAt.shaped d = true) : PyData.eqv d d = true := SeqAt.eqv_refl d (SeqAt.canLay_of_shaped h)
/-! ### the list that is drawn from -/
def PotOk (n : Nat) (c : Option C) : Prop := ∃ a b k : Int, c = some (.lst (wInts [a, b, k])) ∧ 0 ≤ a ∧ 0 ≤ b ∧ b < 2 ^ 200 ∧ 0 ≤ k ∧ k ≤ n
theorem PotOk.le {n m : Nat} {c : Option C} (h : PotOk n c) (e : n ≤ m) : PotOk m c := let ⟨a, b, k, h0, h1, h2, h3, h4, h5⟩ := h; ⟨a, b, k, h0, h1, h2, h3, h4, by omega⟩
def F_draw : FS := fun ws μ R => ∃ k many p n, ws = [.m k, .d (.int many)] ∧ μ[k]? = some p ∧ PotOk n p ∧ n ≤ 1000000 ∧ 0 < many ∧ many < 2 ^ 200 ∧ ∀ r p', 0 ≤ r → r < many → PotOk (n + 1) p' → R (.d (.int r)) (μ.set k p')
theorem draw_at {μ : Mu} {R : W → Mu → Prop} {k : Nat} {many : Int} {p : Option C} {n : Nat} (hk : μ[k]? = some p) (hp : PotOk n p) (hn : n ≤ 1000000) (h0 : 0 < many) (h1 : many < 2 ^ 200) (q : ∀ r p', 0 ≤ r → r < many → PotOk (n + 1) p' → R (.d (.int r)) (μ.set k p')) : F_draw [.m k, .d (.int many)] μ R := ⟨k, many, p, n, rfl, hk, hp, hn, h0, h1, q⟩
theorem Keeps.pot {μ : Mu} {k n : Nat} {p : Option C} (h : PotOk n p) : Keeps μ (μ.set k p) := by
  obtain ⟨a, b, c, rfl, _⟩ := h
  exact Keeps.set (xs := [.int a, .int b, .int c])
/-! ### what the clauses do -/
section
variable {K : PySem.W.Frag} {D : AEn} {x y : PySem.Str} {w : W} {Γ : G} {μ : Mu} {i : Nat} {ts : Addr → PySem.Value → Option Addr → TS} {r : List Hn}
theorem hX_yes (h : SubIs K x y true) (q : ∀ a C d, clA K x C → AS K (ts a (.ref C) (some d)) { D with nx := fun g m => D.nx (g.set i none) m, bk := fun g m => D.bk (g.set i none) m, ct := fun g m => D.ct (g.set i none) m } (Γ.set i (some (.k (.ref a)))) (μ ++ [some (.xd d w)])) :
    hX K D (⟨y, some i, ts⟩ :: r) x w Γ μ := ⟨true, h, fun _ a C d hc => q a C d hc, fun z => by cases z⟩
theorem hX_yesA (h : SubIs K x y true) (q : ∀ a C d, clA K x C → AS K (ts a (.ref C) (some d)) D Γ (μ ++ [some (.xd d w)])) : hX K D (⟨y, none, ts⟩ :: r) x w Γ μ := ⟨true, h, fun _ a C d hc => q a C d hc, fun z => by cases z⟩
theorem hX_no {j : Option Nat} (h : SubIs K x y false) (q : hX K D r x w Γ μ) : hX K D (⟨y, j, ts⟩ :: r) x w Γ μ := ⟨false, h, fun z => absurd z (by decide), fun _ => q⟩
end
end Pd

/-! Pd13: defs that call themselves; slices of tuples, turned tuples. -/
namespace HT
open PySem PySem.Spec PyProof.Rows PySem.Calls
section
variable {prog : Program} {w : World} {A : Around} {E : Value → Shared → Prop} {s : Shared}
theorem adjust_rev (n : Nat) : Builtin.Slice.sliceAdjust none none (-1) (n : Int) = ((n : Int) - 1, -1) := rfl
theorem places_rev (n : Nat) : Builtin.Slice.slicePlaces ((n : Int) - 1) (-1) (-1) = n := by
  unfold Builtin.Slice.slicePlaces
  have h1 : ¬ ((-1 : Int) > 0) := by omega
  simp only [h1, if_false]
  rw [show (-(-1 : Int)) = 1 from rfl, Int.ediv_one]
  split <;> omega
theorem sliceApplied_rev {sl : Addr} {vl vu vs : Value} {n : Nat} {Q : Int × Int × Nat → Shared → Prop} (hs : s.heap.IsSliceOf sl vl vu vs) (pl : IsPart vl none) (pu : IsPart vu none) (ps : IsPart vs (some (-1)))
    (h : Q ((n : Int) - 1, -1, n) s) : wpAny (model prog w) A (Builtin.Slice.sliceApplied (.ref sl) (pure (n : Int))) Q E s := by
  obtain ⟨os, hos, hcs, hds⟩ := id hs
  unfold Builtin.Slice.sliceApplied Builtin.Slice.sliceFields
  refine wpAny_bind (wpAny_bind (wpAny_field hos hds (x := vl) rfl (wpAny_bind (wpAny_field hos hds (x := vu) rfl (wpAny_bind (wpAny_field hos hds (x := vs) rfl (wpAny_pure ?_)))))))
  refine wpAny_bind (slicePart_ ps ?_)
  show wpAny _ _ (if ((-1 : Int) == 0) = true then _ else _) _ _ s
  rw [if_neg (by decide)]
  refine wpAny_bind (slicePart_ pl (wpAny_bind (slicePart_ pu (wpAny_bind (wpAny_pure ?_)))))
  show wpAny _ _ (match Builtin.Slice.sliceAdjust none none (-1) (n : Int) with | (lo, hi) => pure (lo, (-1 : Int), Builtin.Slice.slicePlaces lo hi (-1))) _ _ s
  rw [adjust_rev]
  show wpAny _ _ (pure (((n : Int) - 1), (-1 : Int), Builtin.Slice.slicePlaces ((n : Int) - 1) (-1) (-1))) _ _ s
  rw [places_rev]
  exact wpAny_pure h
theorem pick_rev (xs : Array Value) : ((List.range xs.size).filterMap fun (m : Nat) => xs[(((xs.size : Nat) : Int) - 1 + (m : Int) * (-1)).toNat]?).toArray = xs.toList.reverse.toArray := by
  have e : ((List.range xs.size).filterMap fun (m : Nat) => xs[(((xs.size : Nat) : Int) - 1 + (m : Int) * (-1)).toNat]?) = ((List.range xs.size).map fun k => xs.size - 1 - k).filterMap (xs[·]?) := by
    rw [List.filterMap_map]
    have e2 : (fun (m : Nat) => xs[(((xs.size : Nat) : Int) - 1 + (m : Int) * (-1)).toNat]?) = ((xs[·]?) ∘ fun k => xs.size - 1 - k) := by
      funext m
      show xs[_]? = xs[_]?
      rw [show (((xs.size : Nat) : Int) - 1 + (m : Int) * (-1)).toNat = xs.size - 1 - m by omega]
    rw [e2]
  rw [e, PySem.W.krv_range, List.filterMap_reverse, PySem.W.krv_all]
theorem getItem_tuple_rev {t sl : Addr} {items : Array Value} {vl vu vs : Value} {Q : Value → Shared → Prop} (ht : IsTup s.heap t items) (hs : s.heap.IsSliceOf sl vl vu vs) (pl : IsPart vl none) (pu : IsPart vu none) (ps : IsPart vs (some (-1)))
    (h : Q (.ref s.heap.objs.size) { s with heap := s.heap.push { cls := .type "tuple", data := .seq items.toList.reverse.toArray } })
    (hsz : items.size ≤ sizeLine) : wpAny (model prog w) A (getItem (.ref t) (.ref sl)) Q E s := by
  have htake : sizeOk (.seq items.toList.reverse.toArray) := by
    show items.toList.reverse.toArray.size ≤ sizeLine
    rw [List.size_toArray, List.length_reverse, Array.length_toList]
    exact hsz
  obtain ⟨os, hos, hcs, hds⟩ := id hs
  have hTs : s.TypeIs (.ref sl) "slice" := ⟨os, hos, hcs⟩
  unfold getItem
  try with_reducible refine wpAny_holding ?_
  first | refine wpAny_bind (wpAny_pure ?_) | skip
  refine wpAny_bind (wpAny_sequenceKey ht.typeIs (by decide) ?_)
  refine wpAny_bind (wpAny_callSpecial?_slot (name := Str.ofString "__getitem__") ht.typeIs PyProof.Rows.slot_tuple_getitem
    (wpAny_call_entry PyProof.Rows.slot_tuple_getitem ht.typeIs entry_tuple_getitem ?_ (args_tuple_getitem _ _)))
  show wpAny _ _ (Builtin.Tuple.tupleItemsOf (.ref t) >>= _) _ _ s
  refine wpAny_bind (tupleItemsOf_ ht ?_)
  refine wpAny_bind (wpAny_typeOf hTs ?_)
  rw [if_pos (by decide)]
  refine wpAny_bind (sliceApplied_rev hs pl pu ps ?_)
  have hno : ¬ (((((items.size : Nat) : Int) - 1) == 0 && (-1 : Int) == 1 && items.size == items.size) = true) := by
    intro q
    rw [Bool.and_eq_true, Bool.and_eq_true] at q
    exact absurd q.1.2 (by decide)
  show wpAny _ _ (if ((((items.size : Nat) : Int) - 1) == 0 && (-1 : Int) == 1 && items.size == items.size) = true then _ else _) _ _ s
  rw [if_neg hno, pick_rev]
  first
    | exact wpAny_bind (m := Builtin.Tuple.tupleExact _) (wpAny_newObj_type (wpAny_pure ⟨_, rfl, wpAny_pure h⟩) htake)
    | exact wpAny_bind (m := Builtin.Tuple.tupleExact _) (wpAny_newObj_type (wpAny_bind (wpAny_pure (wpAny_pure ⟨_, rfl, wpAny_pure h⟩))) htake)
    | exact wpAny_bind (wpAny_bind (m := Builtin.Tuple.tupleExact _) (wpAny_newObj_type (wpAny_pure (wpAny_pure ⟨_, rfl, wpAny_pure h⟩)) htake))
    | exact wpAny_bind (wpAny_bind (m := Builtin.Tuple.tupleExact _) (wpAny_newObj_type (wpAny_pure ⟨_, rfl, wpAny_pure h⟩) htake))
end
end HT
namespace L2
open PySem PySem.Spec PyProof.Rows
variable {X : Cx}
def tRevT (K : PySem.W.Frag) (te : TE) : TE := fun σ H Q => te σ H fun x H1 => ∃ a xs, x = .ref a ∧ SqT K H1 a xs ∧ ∀ p, H1 p = none → Q (.ref p) (upd H1 p (.tup xs.reverse))
theorem pe_revT {e : Expr} {te : TE} {k : Nat} {p1 p2 p3 pos : Pos} (he : PE X e te) : PE X (.Subscript e (.Slice none none (some (.UnaryOp .USub (.Constant (.int 1) k p1) p2)) p3) pos) (tRevT X.K te) := by
  refine ⟨fun pins s σ H Q I h => ?_⟩
  refine Subscript_ (thn (he.run pins s σ H _ I h) fun v s1 ⟨x, H1, I1, r1, a, xs, ex, hx, q⟩ => ?_)
  subst ex
  cases r1
  have hst : PO X (some (.UnaryOp .USub (.Constant (.int 1) k p1) p2)) (tPart (tUn (rU fun i => .int (-i)) (tC (.int 1)))) := po_some (pe_un un_neg pe_int)
  refine wpAny_Slice (thn (po_none.run pins s1 σ H1 (fun o H2 => o = none ∧ H2 = H1) I1 ⟨rfl, rfl⟩) fun vl s2 ⟨l, H2, I2, pl, el, e2⟩ => ?_)
  subst el e2
  refine thn (po_none.run pins s2 σ H2 (fun o H3 => o = none ∧ H3 = H2) I2 ⟨rfl, rfl⟩) fun vu s3 ⟨u, H3, I3, pu, eu, e3⟩ => ?_
  subst eu e3
  refine thn (hst.run pins s3 σ H3 (fun o H4 => o = some (-1) ∧ H4 = H3) I3 ⟨1, rfl, -1, rfl, rfl, rfl⟩) fun vs s4 ⟨o, H4, I4, ps, eo, e4⟩ => ?_
  subst eo e4
  have I5 : Inv X pins σ H4 { s4 with heap := s4.heap.push { cls := .type "slice", data := .fields #[vl, vu, vs] } } := I4.kept (t' := s4.toks) fun b ob q => Heap.get?_push_of_some _ q
  obtain ⟨its, r, ht, hz⟩ := I5.tuple hx
  have hlen := r.length
  show wpAny (model X.prog X.w) X.A (subscriptTail e (.Slice none none (some (.UnaryOp .USub (.Constant (.int 1) k p1) p2)) p3) (.ref a) (.ref s4.heap.objs.size)) (EP X pins σ Q) X.xe { s4 with heap := s4.heap.push { cls := .type "slice", data := .fields #[vl, vu, vs] } }
  refine tail_any (ops := [.ref a, .ref s4.heap.objs.size]) ht.typeIs (PyProof.Rows.slot_tuple_getitem.lookup) ?_ (by with_unfolding_all rfl)
  refine HT.getItem_tuple_rev ht (Heap.IsSliceOf.new _ vl vu vs) pl pu ps ?_ (by rw [List.size_toArray]; omega)
  refine ⟨.ref _, _, I5.laid (t' := s4.toks) (o := .tup xs.reverse) (fun b ob q => Heap.get?_push_of_some _ q) (Nat.le_refl _) ?_, rfl, q _ (I5.hok.fresh (Nat.le_refl _))⟩
  exact ⟨by rw [List.length_reverse]; exact hz, its.reverse, r.reverse, IsTup.new _ _⟩
end L2
namespace Pd
open PySem PySem.Spec L2
open Evl (Ex)
open PyProof.Rows
section
variable {K : PySem.W.Frag} {Γ : G} {μ : Mu} {R : W → Mu → Prop} {te : TE}
theorem ax_revT (h : AX K te Γ μ fun x μ1 => ∃ ws, TW x ws ∧ NT ws.reverse μ1 R) : AX K (tRevT K te) Γ μ R := fun A M σ H c Q q =>
  h A M σ H c _ fun M1 H1 v x μ1 mo1 e1 r1 ⟨ws, hx, hn⟩ => by
    obtain ⟨a, vs, rfl, hs, rs⟩ := hx.get r1
    refine ⟨a, vs, rfl, Evl.ex_t vw_le hs, fun p hp => ?_⟩
    obtain ⟨w, m2, e2, r2, hR⟩ := hn.use mo1 rs.reverse hp
    exact q M1 _ _ w μ1 m2 (e1.trans e2) r2 hR
theorem o_slT {x : W} {ws : List W} {lo hi : Option Int} (hx : TW x ws) (hw : ¬ (HT.sIx ws.length 0 lo = 0 ∧ HT.sIx ws.length ws.length hi = ws.length)) (q : NT (cutW ws lo hi) μ R) : ASl K (rSlU K) x lo hi μ R := asl_r (asl_l fun A M H v mo rv Q h => by
  obtain ⟨a, vs, rfl, hs, rs⟩ := hx.get rv
  refine ⟨a, vs, rfl, Evl.ex_t vw_le hs, by rw [rs.length]; exact hw, fun p hp => ?_⟩
  obtain ⟨w, m2, e2, r2, hR⟩ := q.use mo (vrs_cut rs lo hi) hp
  exact h M _ _ w μ m2 e2 r2 hR)
end
/-! isinstance of data -/
def is_list : PyData → Bool
  | .list _ => true
  | _ => false
theorem c_is_list {K : PySem.W.Frag} {μ : Mu} {R : W → Mu → Prop} {d : PyData} (hb : bd d) (q : R (.d (.bool (is_list d))) μ) : AC K (rIsi K) [.d d, .k (.ty "list")] μ R := by
  cases d with
  | none => exact c_isi tyw_n kb_NoneType_list q
  | bool _ => exact c_isi tyw_b kb_bool_list q
  | int _ => exact c_isi tyw_i kb_int_list q
  | str _ => exact c_isi tyw_s kb_str_list q
  | list _ => exact c_isi tyw_l kb_list_list q
  | tuple _ => exact c_isi tyw_t kb_tuple_list q
  | dict _ => exact hb.elim
def is_tuple : PyData → Bool
  | .tuple _ => true
  | _ => false
theorem c_is_tuple {K : PySem.W.Frag} {μ : Mu} {R : W → Mu → Prop} {d : PyData} (hb : bd d) (q : R (.d (.bool (is_tuple d))) μ) : AC K (rIsi K) [.d d, .k (.ty "tuple")] μ R := by
  cases d with
  | none => exact c_isi tyw_n kb_NoneType_tuple q
  | bool _ => exact c_isi tyw_b kb_bool_tuple q
  | int _ => exact c_isi tyw_i kb_int_tuple q
  | str _ => exact c_isi tyw_s kb_str_tuple q
  | list _ => exact c_isi tyw_l kb_list_tuple q
  | tuple _ => exact c_isi tyw_t kb_tuple_tuple q
  | dict _ => exact hb.elim
def is_bool : PyData → Bool
  | .bool _ => true
  | _ => false
theorem c_is_bool {K : PySem.W.Frag} {μ : Mu} {R : W → Mu → Prop} {d : PyData} (hb : bd d) (q : R (.d (.bool (is_bool d))) μ) : AC K (rIsi K) [.d d, .k (.ty "bool")] μ R := by
  cases d with
  | none => exact c_isi tyw_n kb_NoneType_bool q
  | bool _ => exact c_isi tyw_b kb_bool_bool q
  | int _ => exact c_isi tyw_i kb_int_bool q
  | str _ => exact c_isi tyw_s kb_str_bool q
  | list _ => exact c_isi tyw_l kb_list_bool q
  | tuple _ => exact c_isi tyw_t kb_tuple_bool q
  | dict _ => exact hb.elim
def is_int : PyData → Bool
  | .bool _ => true
  | .int _ => true
  | _ => false
theorem c_is_int {K : PySem.W.Frag} {μ : Mu} {R : W → Mu → Prop} {d : PyData} (hb : bd d) (q : R (.d (.bool (is_int d))) μ) : AC K (rIsi K) [.d d, .k (.ty "int")] μ R := by
  cases d with
  | none => exact c_isi tyw_n kb_NoneType_int q
  | bool _ => exact c_isi tyw_b kb_bool_int q
  | int _ => exact c_isi tyw_i kb_int_int q
  | str _ => exact c_isi tyw_s kb_str_int q
  | list _ => exact c_isi tyw_l kb_list_int q
  | tuple _ => exact c_isi tyw_t kb_tuple_int q
  | dict _ => exact hb.elim
def is_str : PyData → Bool
  | .str _ => true
  | _ => false
theorem c_is_str {K : PySem.W.Frag} {μ : Mu} {R : W → Mu → Prop} {d : PyData} (hb : bd d) (q : R (.d (.bool (is_str d))) μ) : AC K (rIsi K) [.d d, .k (.ty "str")] μ R := by
  cases d with
  | none => exact c_isi tyw_n kb_NoneType_str q
  | bool _ => exact c_isi tyw_b kb_bool_str q
  | int _ => exact c_isi tyw_i kb_int_str q
  | str _ => exact c_isi tyw_s kb_str_str q
  | list _ => exact c_isi tyw_l kb_list_str q
  | tuple _ => exact c_isi tyw_t kb_tuple_str q
  | dict _ => exact hb.elim
theorem cut_d {xs : List PyData} {lo hi : Option Int} : cutW (xs.map W.d) lo hi = ((xs.drop (HT.sIx xs.length 0 lo)).take (HT.sIx xs.length xs.length hi - HT.sIx xs.length 0 lo)).map W.d := by
  unfold cutW
  rw [List.length_map, List.map_take, List.map_drop]
theorem cutD_to {xs : List PyData} {k : Nat} : cutW (xs.map W.d) none (some (k : Int)) = (xs.take k).map W.d := by
  rw [cut_d, HT.sIx_none, HT.sIx_nat, List.drop_zero, Nat.sub_zero]
  exact congrArg _ (List.take_eq_take_iff.mpr (by omega))
theorem cutD_from {xs : List PyData} {k : Nat} : cutW (xs.map W.d) (some (k : Int)) none = (xs.drop k).map W.d := by
  rw [cut_d, HT.sIx_none, HT.sIx_nat]
  refine congrArg _ ?_
  rw [List.take_of_length_le (by rw [List.length_drop]; exact Nat.le_refl _)]
  by_cases h : k ≤ xs.length
  · rw [Nat.min_eq_left h]
  · rw [Nat.min_eq_right (by omega), List.drop_of_length_le (Nat.le_refl _), List.drop_of_length_le (by omega)]
theorem NL.dd {xs : List PyData} {μ : Mu} {R : W → Mu → Prop} (h : R (.d (.list xs)) μ) : NL (xs.map W.d) μ R := NL.d h rfl
theorem NT.dd {xs : List PyData} {μ : Mu} {R : W → Mu → Prop} (h : R (.d (.tuple xs)) μ) : NT (xs.map W.d) μ R := NT.d h rfl
section
variable {K : PySem.W.Frag} {Γ : G} {μ : Mu} {R : W → Mu → Prop} {wi : TI} {g : TG} {te : TE} {vs : List Nat}
theorem ax_lcB {α : Type} (f : α → W) (ns : List α) (pf : α → Bool) (hz : ns.length ≤ sizeLine) (hw : WipeOk g vs) (h : AI K wi Γ μ fun items S μ1 => items = ns.map f ∧ S μ ∧ μ1 = μ)
    (hs : ∀ x, x ∈ ns → AG K g (f x) (wipeG Γ vs) μ fun Γ2 μ2 => AX K te Γ2 μ2 fun w μ4 => w = .d (.bool (pf x)) ∧ μ4 = μ) (q : R (.d (.list ((ns.map pf).map PyData.bool))) μ) : AX K (tLc wi g tYes te vs) Γ μ R :=
  ax_lcP f ns (fun x => .d (.bool (pf x))) hz hw h hs (NL.d q (by simp))
/-- a comprehension of data -/
theorem ax_lcD' {α : Type} (f : α → W) (ns : List α) (df : α → PyData) (hz : ns.length ≤ sizeLine) (hw : WipeOk g vs) (h : AI K wi Γ μ fun items S μ1 => items = ns.map f ∧ S μ ∧ μ1 = μ)
    (hs : ∀ x, x ∈ ns → AG K g (f x) (wipeG Γ vs) μ fun Γ2 μ2 => AX K te Γ2 μ2 fun w μ4 => w = .d (df x) ∧ μ4 = μ) (q : R (.d (.list (ns.map df))) μ) : AX K (tLc wi g tYes te vs) Γ μ R :=
  ax_lcP f ns (fun x => .d (df x)) hz hw h hs (NL.d q (by simp))
theorem c_allB {bs : List Bool} (q : R (.d (.bool (bs.all id))) μ) : AC K (rAll K) [.d (.list (bs.map PyData.bool))] μ R := by
  refine ac_all (bs := bs) ?_ q
  have e : bs.map (fun n => W.d (.bool n)) = (bs.map PyData.bool).map W.d := by simp
  rw [e]
  exact .d _
theorem c_sumI {ns : List Int} (q : R (.d (.int ns.sum)) μ) : AC K (rSum K) [.d (dInts ns)] μ R := ac_sum (lw_ints _ _) q
end
theorem NT.d0 {μ : Mu} {R : W → Mu → Prop} (h : R (.d (.tuple [])) μ) : NT [] μ R := NT.d (xs := []) h rfl
theorem NT.d4 {μ : Mu} {R : W → Mu → Prop} {a b c d : PyData} (h : R (.d (.tuple [a, b, c, d])) μ) : NT [W.d a, W.d b, W.d c, W.d d] μ R := NT.d (xs := [a, b, c, d]) h rfl
theorem NT.d5 {μ : Mu} {R : W → Mu → Prop} {a b c d e : PyData} (h : R (.d (.tuple [a, b, c, d, e])) μ) : NT [W.d a, W.d b, W.d c, W.d d, W.d e] μ R := NT.d (xs := [a, b, c, d, e]) h rfl
theorem NT.d6 {μ : Mu} {R : W → Mu → Prop} {a b c d e f : PyData} (h : R (.d (.tuple [a, b, c, d, e, f])) μ) : NT [W.d a, W.d b, W.d c, W.d d, W.d e, W.d f] μ R := NT.d (xs := [a, b, c, d, e, f]) h rfl
theorem NL.d4 {μ : Mu} {R : W → Mu → Prop} {a b c d : PyData} (h : R (.d (.list [a, b, c, d])) μ) : NL [W.d a, W.d b, W.d c, W.d d] μ R := NL.d (xs := [a, b, c, d]) h rfl
theorem NL.d5 {μ : Mu} {R : W → Mu → Prop} {a b c d e : PyData} (h : R (.d (.list [a, b, c, d, e])) μ) : NL [W.d a, W.d b, W.d c, W.d d, W.d e] μ R := NL.d (xs := [a, b, c, d, e]) h rfl
theorem NL.d6 {μ : Mu} {R : W → Mu → Prop} {a b c d e f : PyData} (h : R (.d (.list [a, b, c, d, e, f])) μ) : NL [W.d a, W.d b, W.d c, W.d d, W.d e, W.d f] μ R := NL.d (xs := [a, b, c, d, e, f]) h rfl
theorem NL.d7 {μ : Mu} {R : W → Mu → Prop} {a b c d e f g : PyData} (h : R (.d (.list [a, b, c, d, e, f, g])) μ) : NL [W.d a, W.d b, W.d c, W.d d, W.d e, W.d f, W.d g] μ R := NL.d (xs := [a, b, c, d, e, f, g]) h rfl
/-- data of such a size -/
def Gd (y : PyData) (a b : Nat) : Prop := bd y ∧ nd y ≤ a ∧ y.depth ≤ b
def Gds (ys : List PyData) (a b : Nat) : Prop := bds ys ∧ nds ys ≤ a ∧ PyData.depthAll ys ≤ b
theorem Gd.le {y : PyData} {a b c d : Nat} (h : Gd y a b) (h1 : a ≤ c) (h2 : b ≤ d) : Gd y c d := ⟨h.1, Nat.le_trans h.2.1 h1, Nat.le_trans h.2.2 h2⟩
theorem Gds.nil : Gds [] 0 0 := ⟨trivial, Nat.le_refl _, Nat.le_refl _⟩
theorem Gds.cons {y : PyData} {ys : List PyData} {a b c d : Nat} (h : Gd y a b) (k : Gds ys c d) : Gds (y :: ys) (a + c) (max b d) := ⟨⟨h.1, k.1⟩, Nat.add_le_add h.2.1 k.2.1, by
  have := h.2.2
  have := k.2.2
  simp only [PyData.depthAll]
  omega⟩
theorem Gd.cons_ {y : PyData} {ys : List PyData} {a b c d : Nat} (h : Gd y a b) (k : Gds ys c d) : Gds (y :: ys) (a + c) (max b d) := Gds.cons h k
theorem Gds.tup {ys : List PyData} {a b : Nat} (h : Gds ys a b) : Gd (.tuple ys) (a + 1) (b + 1) := ⟨h.1, Nat.add_le_add_right h.2.1 1, by
  have := h.2.2
  simp only [PyData.depth]
  omega⟩
theorem Gds.lst {ys : List PyData} {a b : Nat} (h : Gds ys a b) : Gd (.list ys) (a + 1) (b + 1) := ⟨h.1, Nat.add_le_add_right h.2.1 1, by
  have := h.2.2
  simp only [PyData.depth]
  omega⟩
theorem Gd.cons' {a b c d e : PyData} {A B C D E A' B' C' D' E' : Nat} (ha : Gd a A A') (hb : Gd b B B') (hc : Gd c C C') (hd : Gd d D D') (he : Gd e E E') : Gd (.tuple [a, b, c, d, e]) (A + (B + (C + (D + (E + 0)))) + 1) (max A' (max B' (max C' (max D' (max E' 0)))) + 1) := (ha.cons_ (hb.cons_ (hc.cons_ (hd.cons_ (he.cons_ Gds.nil))))).tup
theorem gd_none : Gd .none 1 0 := ⟨trivial, Nat.le_refl _, Nat.le_refl _⟩
theorem gd_bool (b : Bool) : Gd (.bool b) 1 0 := ⟨trivial, Nat.le_refl _, Nat.le_refl _⟩
theorem gd_int {i : Int} (h : i.natAbs ≤ 1000000000000000000000000000000) : Gd (.int i) 1 0 := ⟨by
  have h5 : (1000000000000000000000000000000 : Nat) < 10 ^ 50 := by decide
  show i.natAbs < 10 ^ 50
  omega, Nat.le_refl _, Nat.le_refl _⟩
theorem Gd.shw {y : PyData} {a b : Nat} (h : Gd y a b) (h1 : a ≤ 1000) (h2 : b ≤ 60) : Shw y := shw_of h.1 (Nat.le_trans h.2.1 h1) (Nat.le_trans h.2.2 h2)
theorem mu_endS {μ : Mu} {k : Nat} {p c : Option C} : (μ.set k p ++ [c])[μ.length]? = some c := by
  have := mu_end (μ := μ.set k p) (c := c)
  rwa [List.length_set] at this
theorem mu_setEndS {μ : Mu} {k : Nat} {p c c' : Option C} : (μ.set k p ++ [c]).set μ.length c' = μ.set k p ++ [c'] := by
  have := mu_setEnd (μ := μ.set k p) (c := c) (c' := c')
  rwa [List.length_set] at this
theorem mu_setK {μ ν : Mu} {k : Nat} {p p' c : Option C} (h : μ[k]? = some c) : (μ.set k p ++ ν).set k p' = μ.set k p' ++ ν := by rw [mu_setApp (mu_set h), mu_set2]
theorem fz_pot {μ : Mu} {k n : Nat} {p : Option C} {d : PyData} {R : W → Mu → Prop} (hp : PotOk n p) (q : R (.d d) (μ.set k p)) : Fz μ (.d d) (μ.set k p) R := ⟨_, [], d, by simp, by simp, Keeps.pot hp, .d d, q⟩
theorem fz_potC {μ cs : Mu} {k n : Nat} {p : Option C} {d : PyData} {R : W → Mu → Prop} (hp : PotOk n p) (q : R (.d d) (μ.set k p)) : Fz μ (.d d) (μ.set k p ++ cs) R := ⟨_, cs, d, rfl, by simp, Keeps.pot hp, .d d, q⟩
theorem fz_potI {μ : Mu} {k n : Nat} {p : Option C} {xs : List Int} {R : W → Mu → Prop} (hp : PotOk n p) (q : R (.d (dInts xs)) (μ.set k p)) : Fz μ (.m (μ.set k p).length) (μ.set k p ++ [some (.lst (wInts xs))]) R :=
  ⟨_, [some (.lst (wInts xs))], dInts xs, rfl, by simp, Keeps.pot hp, .m (by simp) mu_end (rns_ints xs), q⟩
theorem enum_d (vs : List PyData) : (vs.map W.d).mapIdx (fun i z => pairW (.d (.int (i : Nat))) z) = vs.zipIdx.map fun p => W.d (.tuple [.int (p.2 : Nat), p.1]) := by
  apply List.ext_getElem?
  intro i
  rw [List.getElem?_mapIdx, List.getElem?_map, List.getElem?_map, List.getElem?_zipIdx]
  cases vs[i]? with
  | none => rfl
  | some x => simp [pairW]
theorem fnG_none {P : Program} {w : World} {K : PySem.W.Frag} {mg : Str → Option Value} {base : Heap} {k : Nat} {f : Addr} {fd : FuncData} {ps : List Str} {F : FS} (h : ∀ ws μ R, ¬ F ws μ R) : FnG P w K mg base CX0 k f fd ps (spD K F) :=
  ⟨fun vs H Q E ⟨_, _, _, _, _, _, _, z, _⟩ => (h _ _ _ z).elim, fun A fr s H args us vs Q E _ _ _ _ _ ⟨_, _, _, _, _, _, _, z, _⟩ => (h _ _ _ z).elim⟩
theorem FnG.lv {P : Program} {w : World} {K : PySem.W.Frag} {mg : Str → Option Value} {base : Heap} {CX : CXT} {k k' : Nat} {f : Addr} {fd : FuncData} {ps : List Str} {sp : Sp} (F : FnG P w K mg base CX k f fd ps sp) (h : k = k') : FnG P w K mg base CX k' f fd ps sp := h ▸ F
end Pd

/-! Pd14: isinstance of a caught error that has a dict; more of texts. -/
namespace PySem.OwnErr
open PySem PySem.W PySem.Spec PySem.Calls PyProof.Rows
variable {prog : Program} {w : World} {A : Around} {E : Value → Shared → Prop} {s : Shared} {K : Frag} {x D : Addr} {ox : Obj} {od : Option Obj}
theorem found_data {C : Addr} {nm : Str} {u v : Value} (h0 : (clsIn K C).isSome = true) (h1 : findIn K (.ref C) nm = some (some u)) (h2 : specialIn K u "__get__" = some (some v)) (h3 : takesIn K u = some true) :
    findObj K C od nm = some (.bind v u) := by
  obtain ⟨c, hc⟩ := Option.isSome_iff_exists.mp h0
  unfold findObj
  rw [hc, Option.bind_some, h1, Option.bind_some]
  simp [h2, h3]
/-- the error's class, asked by its name -/
theorem cls_of_err {Q : Option Value → Shared → Prop} (T : L2.ExcC K D) (X : K.In s.heap) (I : InstAt s.heap x ox D od) (h : Q (some (.ref D)) { s with toks := s.toks + 1 }) : wpAny (model prog w) A (getAttr? (.ref x) "__class__") Q E s := by
  obtain ⟨cD, hcD, _⟩ := any_some T.hd
  have hf : findObj K D od "__class__" = some (.bind (.builtin "getset_descriptor.__get__") (.builtin "object.__class__")) := found_data (by rw [hcD]; rfl) T.ha T.hn T.ht
  obtain ⟨hp, g, dr, t, os⟩ := s
  have K0 := I.type (M := model prog w)
  have K1 := looks_findIn (M := model prog w) X T.hg
  have K2 := looks_findIn (M := model prog w) X T.hk
  have K3 := looks_find (M := model prog w) X I hf
  have isE : Looks (model prog w) hp (isInstance (.ref x) (.type "BaseException")) true := K0.andThen (looks_subIn X T.hs)
  have z0 : (false && onTheHeap (Value.builtin "BaseException.__getattribute__")) = false := rfl
  have z2 : (onTheHeap (Value.ref D) && Value.builtin "BaseException.__getattribute__" == Value.builtin "object.__getattribute__") = false := by
    have e : (Value.builtin "BaseException.__getattribute__" == Value.builtin "object.__getattribute__") = false := by decide +kernel
    rw [e]
    rfl
  unfold getAttr? getAttrBy? getAttrBy
  refine wpAny_bind (wpAny_mkText (wpAny_bind (wpAny_attempt (wpAny_holding (wpAny_bind (K0.at (wpAny_bind (K1.at ?_))))))))
  show wpAny _ _ (if (onTheHeap (Value.ref D) && Value.builtin "BaseException.__getattribute__" == Value.builtin "object.__getattribute__") = true
    then _ else _) _ _ _
  rw [z2, if_neg Bool.false_ne_true]
  unfold getAttrByItsOwn hookBefore
  refine wpAny_bind ?_
  have hz : onTheHeap (Value.ref D) = true := rfl
  rw [if_pos hz]
  refine K2.at (wpAny_bind (wpAny_attempt (wpAny_holding ?_)))
  unfold callGetattribute
  rw [z0, if_neg Bool.false_ne_true]
  unfold boundAndCalled
  rw [PySem.F.excAttr_ValueError.ga.bind (.ref x)]
  refine wpAny_bind (wpAny_pure ?_)
  show wpAny _ _ (call (.builtin "BaseException.__getattribute__")
    [.ref x, .str "__class__" t]) _ _ _
  refine wpAny_call (codeAny_call_builtin PySem.F.excAttr_ValueError.ga.plain PySem.F.entry_bexc_ga (@check_slot (model prog w) _ _ ⟨hp, g, dr, t + 1, os⟩ "BaseException.__getattribute__" "BaseException" "__getattribute__" (.ref x)
    [.str "__class__" t] [] _ (by decide +kernel) (by decide +kernel) isE (PySem.F.args_bexc_ga (.ref x) (.str "__class__" t)) ?_))
  unfold Builtin.«object.__getattribute__»
  refine wpAny_bind (wpAny_of_eq (a := ((Value.ref x : Value), [Value.str "__class__" t])) (by first
    | rfl
    | (simp only [slotArgs]; rfl)) ?_)
  refine wpAny_bind (wpAny_pure (wpAny_bind (K0.at (wpAny_bind (K3.at ?_)))))
  show wpAny _ _ (holding [Value.builtin "object.__class__"]
    (call (.builtin "getset_descriptor.__get__") [.builtin "object.__class__", .ref x, .ref D]) >>= ret) _ _ _
  refine wpAny_bind (wpAny_holding (wpAny_call (class_get (s := ⟨hp, g, dr, t + 1, os⟩) (ox := ox) (od := od) X I T.hm (wpAny_pure ?_))))
  show wpAny _ _ (handedOut (.ref D)) _ _ _
  rw [handedOut_of (v := .ref D) rfl]
  first
    | exact wpAny_pure (wpAny_pure h)
    | exact wpAny_pure h
    | exact wpAny_pure (wpAny_bind (wpAny_pure (wpAny_pure h)))
theorem kitx_err (T : L2.ExcC K D) : KitX K (.ref x) (.ref D) (fun h => InstAt h x ox D od) := by
  obtain ⟨cD, hcD, _⟩ := any_some T.hd
  obtain ⟨oc, oo, sl, ho⟩ : ∃ oc oo sl, K.lookup D = some ⟨oc, oo, .cls cD, sl⟩ := by
    unfold clsIn at hcD
    split at hcD
    · rename_i a b c d e
      cases hcD
      exact ⟨_, _, _, e⟩
    · cases hcD
  refine ⟨fun _ _ _ I => I.type, fun _ _ X _ A' Q' E' s' k q => ?_, fun h tp dd its n sl X htp => Bool.eq_false_iff.mpr fun q => ?_, fun X I k => cls_of_err T X I k⟩
  · unfold isType loadHead
    exact wpAny_bind (wpAny_loadPart (k _ _ (X _ _ ho)) (wpAny_pure q))
  · obtain rfl : D = tp := Value.ref.inj (beq_iff_eq.mp q)
    have z := (X _ _ ho).symm.trans htp
    cases z
end PySem.OwnErr
namespace L2
open PySem PySem.Spec PyProof.Rows PySem.Builtin PySem.Builtin.Str
open Pd (rLeI rGtI rGeI rMulU orR op_leU op_gtU op_geU op_mulU)
variable {X : Cx}
/-! ### texts -/
def rLeS : R2 := fun x y H Q => ∃ i j, x = .str i ∧ y = .str j ∧ Q (.bl (!decide (j.cps.toList < i.cps.toList))) H
def rGtS : R2 := fun x y H Q => ∃ i j, x = .str i ∧ y = .str j ∧ Q (.bl (decide (j.cps.toList < i.cps.toList))) H
def rGeS : R2 := fun x y H Q => ∃ i j, x = .str i ∧ y = .str j ∧ Q (.bl (!decide (i.cps.toList < j.cps.toList))) H
/-- a text some times -/
def repS (x : Str) (n : Nat) : Str := ⟨(List.replicate n x.cps.toList).flatten.toArray⟩
def rMulS : R2 := fun x y H Q => ∃ i n, x = .str i ∧ y = .int n ∧ 0 ≤ n ∧ n ≤ 1000 ∧ i.length ≤ 1000 ∧ Q (.str (repS i n.toNat)) H
theorem foldl_arr : ∀ (n : Nat) (x a : Array Nat), (List.replicate n x).foldl (· ++ ·) a = a ++ (List.replicate n x.toList).flatten.toArray
  | 0, x, a => by simp
  | n + 1, x, a => by
    rw [List.replicate_succ, List.foldl_cons, foldl_arr n x (a ++ x), List.replicate_succ, List.flatten_cons]
    apply Array.ext'
    simp
theorem op_mulS : OpR X (binaryOp .Mult) rMulS := by
  intro pins s σ H x y v u Q I rx ry h
  obtain ⟨i, n, rfl, rfl, n0, n1, hl, q⟩ := h
  obtain ⟨t, rfl⟩ := rx
  obtain ⟨t', rfl⟩ := ry
  have h1 : (decide (n < -(2 ^ 63 : Int)) || decide (n ≥ 2 ^ 63)) = false := by
    rw [decide_eq_false (by omega), decide_eq_false (by omega)]
    rfl
  have h2 : ¬ n < 1 → (n == 1 || i.length == 0) = false → ¬ ((i.length : Int) > (2 ^ 63 - 1) / n) := fun a _ z => by
    have : (1000 : Int) ≤ (2 ^ 63 - 1) / n := (Int.le_ediv_iff_mul_le (by omega)).mpr (by omega)
    omega
  have h3 : i.length * n.toNat ≤ 1000 * 1000 := Nat.mul_le_mul hl (by omega)
  have h4 : ¬ n < 1 → (n == 1 || i.length == 0) = false → tooLong (i.length * n.toNat) = false := fun _ _ => by
    unfold tooLong
    rw [sizeLine_eq]
    exact decide_eq_false (by omega)
  have ans : ∀ z : Str, z = repS i n.toNat → ∀ t k, EP X pins σ Q (.str z t) { s with toks := k } := fun z e t k => ⟨.str z, H, I.tok _, ⟨t, rfl⟩, by rw [e]; exact q⟩
  refine PySem.P.mul_str h1 h2 h4 ?_
  split
  · refine ⟨by decide, ans _ ?_ _ _⟩
    have : n.toNat = 0 := by omega
    rw [this]
    rfl
  · split
    · rename_i a b
      rw [Bool.or_eq_true] at b
      have := ans i ?_ t s.toks
      · exact this
      · rcases b with b | b
        · have : n = 1 := eq_of_beq b
          subst this
          show i = repS i 1
          unfold repS
          rw [List.replicate_succ, List.replicate_zero, List.flatten_cons, List.flatten_nil, List.append_nil]
        · have e : i.cps.toList = [] := List.length_eq_zero_iff.mp (eq_of_beq b)
          have e2 : i = ⟨i.cps.toList.toArray⟩ := rfl
          unfold repS
          rw [e2, e]
          simp
    · have e : (⟨(List.replicate n.toNat i.cps).foldl (· ++ ·) #[]⟩ : Str) = repS i n.toNat := by
        rw [foldl_arr]
        simp [repS]
      rw [e]
      refine ⟨?_, ans _ rfl _ _⟩
      show (repS i n.toNat).length ≤ _
      have l : (repS i n.toNat).length = n.toNat * i.length := by
        unfold repS
        show (List.replicate n.toNat i.cps.toList).flatten.toArray.size = _
        simp
        rfl
      rw [l, sizeLine_eq, Nat.mul_comm]
      omega
/-- a union of what compares numbers and texts -/
def rLeV : R2 := fun x y H Q => rLeI x y H Q ∨ rLeS x y H Q
def rGtV : R2 := fun x y H Q => rGtI x y H Q ∨ rGtS x y H Q
def rGeV : R2 := fun x y H Q => rGeI x y H Q ∨ rGeS x y H Q
def rMulV : R2 := fun x y H Q => rMulU x y H Q ∨ rMulS x y H Q
theorem op_leV : OpR X (compareOp .LtE) rLeV := orR op_leU op_le_str
theorem op_gtV : OpR X (compareOp .Gt) rGtV := orR op_gtU op_gt_str
theorem op_geV : OpR X (compareOp .GtE) rGeV := orR op_geU op_ge_str
theorem op_mulV : OpR X (binaryOp .Mult) rMulV := orR op_mulU op_mulS
def rSindex : V → List V → Hp → VK → Prop := fun x xs H Q => ∃ (a b : Str) (i : Nat) (rest : List Nat), x = .str a ∧ xs = [.str b] ∧ Builtin.Str.occurrences a b 0 a.length 1 = i :: rest ∧ Q (.int (i : Nat)) H
theorem mt_sindexU : MtR X "str.index" rSindex := mt_sindex
/-! ### isinstance(e, y) -/
def tIsE (K : PySem.W.Frag) (a : Addr) (cls : Value) (d : Option Addr) (y : Str) (te : TE) : TE := fun σ H Q => ∀ C0, Pd.clA K y C0 → te σ H fun x H1 => V.ref C0 = V.ref C0 ∧ x = .ref a ∧ ∃ C dd fs b, cls = .ref C ∧ d = some dd ∧ H1 dd = some (.xd fs) ∧ ExcC K C ∧
  PySem.W.kitOne K (.ref C) (.ref C0) = some b ∧ Q (.bl b) H1
theorem pe_isE {y : Str} {a : Addr} {oe : Obj} {cls : Value} {d : Option Addr} {pn : List (Addr × Obj)} {e : Expr} {te : TE} {p py pos : Pos} (hz : Zc cls d oe) (hf : ∃ vs, oe.data = .fields vs) (T : Pd.IsErr X.prog X.K X.mg y) (hm : X.mg "isinstance" = none) (he : PE (X.suite a ((a, oe) :: pn)) e te)
    (hg : Gl X "isinstance" := by rfl) (hgy : Gl X y := by rfl) (hdb : (y == ("__debug__" : Str)) = false := by decide)
    (hst : starEach [e, .Name y py] X.env = (false, eval e X.env) :: starEach [.Name y py] X.env := by rfl) (hst2 : starEach [.Name y py] X.env = (false, eval (.Name y py) X.env) :: starEach [] X.env := by rfl) (hpl : (backTo pos (starEach [.Name y py] X.env)).any (·.1) = false := by rfl) :
    PE (X.suite a ((a, oe) :: pn)) (.Call (.Name "isinstance" p) [e, .Name y py] [] pos) (tIsE X.K a cls d y te) := by
  obtain ⟨C0, hC0, E0⟩ := T
  have hgl : PE (X.suite a ((a, oe) :: pn)) (.Name y py) (tC (.ref C0)) := pe_glob (X := X.suite a ((a, oe) :: pn)) hgy E0.gC rfl hdb
  refine ⟨fun pins s σ H Q I h => ?_⟩
  refine wpAny_Call_Name_kw (ld_blt (X := X.suite a ((a, oe) :: pn)) I hg hm (show bootBuiltins "isinstance" = some (.builtin "isinstance") by decide +kernel) ?_ (by decide) (by decide))
  have ha : PA (X.suite a ((a, oe) :: pn)) [e, .Name y py] (tCons te (tCons (tC (.ref C0)) tNil)) := pa_cons he (pa_cons hgl pa_nil (hs := hst2)) (hs := hst)
  let Q' : List V → Hp → Prop := fun vs H1 => match vs with
    | [x, c] => c = V.ref C0 ∧ x = .ref a ∧ ∃ C dd fs b, cls = .ref C ∧ d = some dd ∧ H1 dd = some (.xd fs) ∧ ExcC X.K C ∧ PySem.W.kitOne X.K (.ref C) (.ref C0) = some b ∧ Q (.bl b) H1
    | _ => False
  exact PyProof.Rows.callWith_builtin1 (thn (ha.run pos pins s σ H Q' I (h C0 hC0)) fun us s1 ⟨vs, H1, I1, r1, q1⟩ => by
    match vs, q1, r1 with
    | [x, c], ⟨ec, ex, C, dd, fs, b, ecl, ed, hdd, TE, hk, q⟩, r1 =>
      subst ec ex ecl ed
      cases r1 with
      | cons rx rr =>
        cases rr with
        | cons ry rr =>
          cases rr
          cases rx
          cases ry
          obtain ⟨hget, _⟩ := I1.pin (a, oe) (List.mem_append.mpr (.inl List.mem_cons_self))
          obtain ⟨vs, hv⟩ := hf
          obtain ⟨mA, hns, hr⟩ : ObjOk X.prog X.w H1 s1.heap dd (.xd fs) := I1.hok dd _ hdd
          obtain ⟨ob, hob, _⟩ := lookIn_ns hns
          have J : PySem.W.InstAt s1.heap a oe C (some ob) := ⟨hget, hz.1, by unfold PySem.W.notCls; rw [hv] <;> rfl, by rw [hz.2]; exact hob⟩
          exact PySem.W.kia_one (PySem.OwnErr.kitx_err TE) I1.kIn J hk (fun z => nomatch z) fun tk => ⟨.bl b, H1, I1.kept (t' := tk) fun _ _ z => z, rfl, q⟩) hst hpl
end L2
namespace Pd
open PySem PySem.Spec L2
open Evl (Ex)
open PyProof.Rows
section
variable {K : PySem.W.Frag} {Γ : G} {μ : Mu} {R : W → Mu → Prop}
/-- isinstance asks the errors that the text calls x rightly -/
def ErrI (K : PySem.W.Frag) (x : Str) : Prop := ∀ C, clA K x C → ExcC K C
/-- an error that the text calls x is one of the class y -/
def IsOf (K : PySem.W.Frag) (x y : Str) (b : Bool) : Prop := ∀ a c, clA K x a → clA K y c → PySem.W.kitOne K (.ref a) (.ref c) = some b
theorem ax_isE {a C d : Addr} {x y : Str} {k i : Nat} {w : W} {b : Bool} (hx : ErrI K x) (hy : IsOf K x y b) (hC : clA K x C) (hi : Γ[i]? = some (some (.k (.ref a)))) (hk : μ[k]? = some (some (.xd d w))) (q : R (.d (.bool b)) μ) :
    AX K (tIsE K a (.ref C) (some d) y (tVar i)) Γ μ R := fun A M σ H c Q q0 C0 hC0 =>
  ax_var (R := fun u μ1 => u = .k (.ref a) ∧ μ1 = μ) hi ⟨rfl, rfl⟩ A M σ H c _ fun M1 H1 v u μ1 mo1 e1 r1 ⟨eu, em⟩ => by
    subst eu em
    cases r1
    have hl : k < M1.length := by
      rw [mo1.len]
      exact (List.getElem?_eq_some_iff.mp hk).1
    obtain ⟨o, ho, ep, v, rfl, rv⟩ := mo1.ct k _ (.xd d w) (List.getElem?_eq_getElem hl) hk
    rw [ep] at ho
    exact ⟨rfl, rfl, C, d, _, b, rfl, rfl, ho, hx C hC, hy C C0 hC hC0, q0 M1 H1 _ _ μ1 mo1 e1 (.d (.bl b)) q⟩
theorem ao_leS {x y : Str} (k : R (.d (.bool (!decide (y.cps.toList < x.cps.toList)))) μ) : AO K rLeS (.d (.str x)) (.d (.str y)) μ R := fun A M H v u mo rv ru Q h => by
  rw [vr_str rv, vr_str ru]
  exact ⟨x, y, rfl, rfl, h M H _ _ μ mo Eff.refl (.d (.bl _)) k⟩
theorem ao_gtS {x y : Str} (k : R (.d (.bool (decide (y.cps.toList < x.cps.toList)))) μ) : AO K rGtS (.d (.str x)) (.d (.str y)) μ R := fun A M H v u mo rv ru Q h => by
  rw [vr_str rv, vr_str ru]
  exact ⟨x, y, rfl, rfl, h M H _ _ μ mo Eff.refl (.d (.bl _)) k⟩
theorem ao_geS {x y : Str} (k : R (.d (.bool (!decide (x.cps.toList < y.cps.toList)))) μ) : AO K rGeS (.d (.str x)) (.d (.str y)) μ R := fun A M H v u mo rv ru Q h => by
  rw [vr_str rv, vr_str ru]
  exact ⟨x, y, rfl, rfl, h M H _ _ μ mo Eff.refl (.d (.bl _)) k⟩
theorem ao_ltS {x y : Str} (k : R (.d (.bool (decide (x.cps.toList < y.cps.toList)))) μ) : AO K rLtS (.d (.str x)) (.d (.str y)) μ R := fun A M H v u mo rv ru Q h => by
  rw [vr_str rv, vr_str ru]
  exact ⟨x, y, rfl, rfl, h M H _ _ μ mo Eff.refl (.d (.bl _)) k⟩
theorem o_ltS {x y : Str} (k : R (.d (.bool (decide (x.cps.toList < y.cps.toList)))) μ) : AO K rLtU (.d (.str x)) (.d (.str y)) μ R := ao_r (ao_ltS k)
theorem o_leS {x y : Str} (k : R (.d (.bool (!decide (y.cps.toList < x.cps.toList)))) μ) : AO K rLeV (.d (.str x)) (.d (.str y)) μ R := ao_r (ao_leS k)
theorem o_gtS {x y : Str} (k : R (.d (.bool (decide (y.cps.toList < x.cps.toList)))) μ) : AO K rGtV (.d (.str x)) (.d (.str y)) μ R := ao_r (ao_gtS k)
theorem o_geS {x y : Str} (k : R (.d (.bool (!decide (x.cps.toList < y.cps.toList)))) μ) : AO K rGeV (.d (.str x)) (.d (.str y)) μ R := ao_r (ao_geS k)
theorem o_leV {i j : Int} (k : R (.d (.bool (decide (i ≤ j)))) μ) : AO K rLeV (.d (.int i)) (.d (.int j)) μ R := ao_l (o_leI k)
theorem o_gtV {i j : Int} (k : R (.d (.bool (decide (j < i)))) μ) : AO K rGtV (.d (.int i)) (.d (.int j)) μ R := ao_l (o_gtI k)
theorem o_geV {i j : Int} (k : R (.d (.bool (decide (j ≤ i)))) μ) : AO K rGeV (.d (.int i)) (.d (.int j)) μ R := ao_l (o_geI k)
theorem ao_mulS {x : Str} {n : Int} (h0 : 0 ≤ n) (h1 : n ≤ 1000) (hl : x.length ≤ 1000) (k : R (.d (.str (repS x n.toNat))) μ) : AO K rMulS (.d (.str x)) (.d (.int n)) μ R := fun A M H v u mo rv ru Q h => by
  rw [vr_str rv, vr_int ru]
  exact ⟨x, n, rfl, rfl, h0, h1, hl, h M H _ _ μ mo Eff.refl (.d (.str _)) k⟩
theorem o_mulS {x : Str} {n : Int} (h0 : 0 ≤ n) (h1 : n ≤ 1000) (hl : x.length ≤ 1000) (k : R (.d (.str (repS x n.toNat))) μ) : AO K rMulV (.d (.str x)) (.d (.int n)) μ R := ao_r (ao_mulS h0 h1 hl k)
theorem o_mulV {i j : Int} (hc : CMul i j) (k : R (.d (.int (i * j))) μ) : AO K rMulV (.d (.int i)) (.d (.int j)) μ R := ao_l (o_mulI hc k)
theorem ao_inS {x y : Str} {neg : Bool} (k : R (.d (.bool (if neg then !(!(Builtin.Str.occurrences y x 0 y.length 1).isEmpty) else !(Builtin.Str.occurrences y x 0 y.length 1).isEmpty))) μ) : AO K (rInS neg) (.d (.str x)) (.d (.str y)) μ R := fun A M H v u mo rv ru Q h => by
  rw [vr_str rv, vr_str ru]
  exact ⟨x, y, rfl, rfl, h M H _ _ μ mo Eff.refl (.d (.bl _)) k⟩
theorem o_inS {x y : Str} {neg : Bool} (k : R (.d (.bool (if neg then !(!(Builtin.Str.occurrences y x 0 y.length 1).isEmpty) else !(Builtin.Str.occurrences y x 0 y.length 1).isEmpty))) μ) : AO K (rInU K neg) (.d (.str x)) (.d (.str y)) μ R := ao_r (ao_inS k)
theorem am_sindex {x y : Str} {i : Nat} {rest : List Nat} (h : Builtin.Str.occurrences x y 0 x.length 1 = i :: rest) (k : R (.d (.int i)) μ) : AM K rSindex (.d (.str x)) [.d (.str y)] μ R := fun A M H v vs mo rv rs Q q => by
  rw [vr_str rv]
  cases rs with
  | cons ry rn =>
    cases rn
    rw [vr_str ry]
    exact ⟨x, y, i, rest, rfl, rfl, h, q M H _ _ μ mo Eff.refl (.d (.int _)) k⟩
end
theorem kit_ref {K : PySem.W.Frag} {C D : Addr} {b : Bool} (h2 : PySem.W.hasDictIn K D = true) (h3 : PySem.W.typeIn K (.ref D) = some (.type "type")) (h4 : PySem.W.subIn K (.ref C) (.ref D) = some b) (hb : C = D → b = true) : PySem.W.kitOne K (.ref C) (.ref D) = some b := by
  obtain ⟨cd, hc, _⟩ := PySem.W.any_some h2
  unfold PySem.W.kitOne
  by_cases e : C = D
  · rw [if_pos (by rw [e]; exact beq_self_eq_true _), hb e]
  · rw [if_neg (by simpa using e)]
    have z : ((PySem.W.clsIn K D).isSome && PySem.W.typeIn K (.ref D) == some (.type "type")) = true := by rw [hc, h3] <;> rfl
    show (if ((PySem.W.clsIn K D).isSome && PySem.W.typeIn K (.ref D) == some (.type "type")) = true
      then PySem.W.subIn K (.ref C) (.ref D) else none) = some b
    rw [if_pos z]
    exact h4
end Pd

/-! Pd15: errors that outlive their clause. -/
namespace L2
open PySem PySem.Spec PyProof.Rows
theorem Inv.track {X : Cx} {pins : List (Addr × Obj)} {σ : St} {H : Hp} {s : Shared} {a C d : Addr} (I : Inv X pins σ H s) (ho : ∃ oe vs, s.heap.get? a = some oe ∧ oe.cls = .ref C ∧ oe.dict = some d ∧ oe.data = .fields vs) (na : H a = none) (nL : a ≠ X.env.locals) (nF : a ∉ X.fs)
    (noS : ∀ o, X.s_0.heap.get? a = some o → X.H_0 a = none → a ∉ X.ex → False) (noP : ∀ p ∈ X.pn ++ pins, p.1 ≠ a) : Inv X pins σ (upd H a (Pd.exk a C d)) s := by
  obtain ⟨ok, os, bare, base, loc, cell, free, freeC, pin, hok, len⟩ := I
  have old : ∀ {b : Addr} {u : HO}, H b = some u → upd H a (Pd.exk a C d) b = some u := fun {b u} q => by rw [upd_ne (ne_of_none q na)]; exact q
  have nC : ∀ x c, X.env.cells.lookup x = some c → c ≠ a := fun x c h e => by
    obtain ⟨v, hv⟩ := cell x c h
    obtain ⟨oe, vs, h1, _, _, h4⟩ := ho
    subst e
    obtain ⟨oc, hc1, hc2⟩ := hv
    rw [h1] at hc1
    cases hc1
    rw [h4] at hc2
    cases hc2
  refine ⟨ok, os, bare, ⟨base.keep, base.slot, fun b o h1 h2 h3 => ?_, base.there, fun b xs h => old (base.tups b xs h), fun b o u h => old (base.frzs b o u h), fun b ps h => ?_⟩, loc, cell, ?_, fun x c h => ?_, fun p hp => ?_, fun b u e => ?_, len⟩
  · by_cases e : b = a
    · subst e
      exact (noS o h1 h2 h3).elim
    · rw [upd_ne e]
      exact base.free b o h1 h2 h3
  · obtain ⟨more, e⟩ := base.tbls b ps h
    exact ⟨more, old e⟩
  · rw [upd_ne (Ne.symm nL)]
    exact free
  · rw [upd_ne (nC x c h)]
    exact freeC x c h
  · obtain ⟨q1, q2, q3⟩ := pin p hp
    exact ⟨q1, by rw [upd_ne (noP p hp)]; exact q2, q3⟩
  · by_cases hb : b = a
    · subst hb
      rw [upd_same] at e
      cases e
      refine ⟨ho, ?_, fun h1 h2 ⟨oe, vs, a1, a2, a3, a4⟩ k => ⟨oe, vs, k _ a1, a2, a3, a4⟩⟩
      obtain ⟨oe, _, h1, _⟩ := ho
      exact ⟨oe, h1⟩
    · rw [upd_ne hb] at e
      exact (hok b u e).stay (fun c v _ q => q) (fun c q => old q) fun c xs q => old q
def Cl.endsK (h : Cl) (a : Addr) (cls : Value) (d : Option Addr) (D : Ends) : Ends := match h.i with
  | none => D
  | some i => { nx := fun σ H => ∃ C dd, cls = .ref C ∧ d = some dd ∧ (H a = none → D.nx (σ.set i none) (upd H a (Pd.exk a C dd))), rt := D.rt, bk := fun σ H => D.bk (σ.set i none) H, ct := fun σ H => D.ct (σ.set i none) H }
/-- what the clauses wish of an error of the body; it is kept -/
def wClsK (K : PySem.W.Frag) (out : WX) (D : Ends) : List Cl → WX
  | [] => out
  | h :: r => fun cls d σ H => ∃ b, PySem.W.exmOne K cls h.c = some b ∧ (b = true → ∀ a, H a = none → h.ts a cls d (h.endsK a cls d D) (h.st a σ) H) ∧ (b = false → wClsK K out D r cls d σ H)
section
variable {X : Cx} {body : List Stmt} {h₀ : ExceptHandler} {hds : List ExceptHandler} {l : List Cl} {pos : Pos} {tb : WX → TS} {out : WX}
theorem ps_tryK (hs : X.stack = X.env :: X.outer) (hf : X.env.frame = some X.env.locals) (tk : Takes X out)
    (hb : ∀ (W : WX) (pn : List (Addr × Obj)) (xe : Value → Shared → Prop), Takes (X.tr pn xe) W → PassesOwn (model X.prog X.w) X.A X.env xe → PSs (X.tr pn xe) body (tb W))
    (hh : ClsOk X (h₀ :: hds) l) : PS X (.Try body (h₀ :: hds) [] [] pos) (fun D σ H => tb (wClsK X.K out D l) D σ H) := by
  refine ⟨fun pins s σ H D I h => ?_⟩
  have ok := I.ok
  have afr : X.A.frames = some (X.env :: X.outer) := ok.frames.trans (by rw [hs])
  refine wpAny_Try_except (wpAny_mono ((hb (wClsK X.K out D l) (X.pn ++ pins) (fun e s₁ => wpAny (model X.prog X.w) X.A (noteFrame e X.env)
    (fun _ s₂ => wpAny (model X.prog X.w) X.A (setFlight e none) (fun _ s₃ => wpAny (model X.prog X.w) X.A (handleBy e X.env (h₀ :: hds)) (SP X pins D) X.xe s₃) X.xe s₂) X.xe s₁) (fun u s' xx => ?_) PassesOwn.looking).run [] s σ H D (I.toTry _) h)
    (fun f s1 hsp => ?_) (fun e s1 he => he))
  · obtain ⟨a, B, sI, pins', σ', H', cls, d, rfl, J', nb, up, sky, na, os, ag, w⟩ := xx
    have J : Inv X pins σ' H' sI := J'.ofTry ok
    rw [show (X.tr (X.pn ++ pins) _).stack = X.env :: X.outer from hs] at sky
    refine (Sky.land Zc.steady afr hf sky fun h3 fl3 up3 => ?_ : wpAny (model X.prog X.w) X.A (noteFrame (.ref a) X.env) _ _ _)
    have J3 : Inv X pins σ' H' { s' with heap := h3 } := J.landed nb fl3.1 (up.trans up3) os ag
    obtain ⟨oe3, vs3, he3, hz3, hd3⟩ := fl3.there
    have nfr : a ∉ frs (X.env :: X.outer) := fun hm => by
      obtain ⟨_, o', e', hnf⟩ := fl3.2.2.1.mem hm
      rw [he3] at e'
      cases e'
      exact hnf _ hd3
    have nL : a ≠ X.env.locals := fun z => nfr (List.mem_filterMap.mpr ⟨X.env, .head _, by rw [hf, z]⟩)
    have nF : a ∉ X.fs := fun hm => by
      obtain ⟨e, he, q⟩ := List.mem_filterMap.mp hm
      exact nfr (List.mem_filterMap.mpr ⟨e, .tail _ he, q⟩)
    have S3 := J3.suite he3 hd3 na nL nF
    have hBa : B.get? a = none := fl3.2.1
    have hIa : sI.heap.get? a = none := by
      cases z : sI.heap.get? a with
      | none => rfl
      | some o =>
        have nfr' : a ∉ frs X.stack := by rw [hs]; exact nfr
        have z2 := nb a o z nfr'
        rw [hBa] at z2
        cases z2
    have noP : ∀ p ∈ X.pn ++ pins, p.1 ≠ a := fun p hp e => by
      have z := (J.pin p hp).1
      rw [e, hIa] at z
      cases z
    have noS : ∀ o, X.s_0.heap.get? a = some o → X.H_0 a = none → a ∉ X.ex → False := fun o h1 h2 h3 => by
      have z := J.base.keep a o h1 h2 nF h3
      rw [hIa] at z
      cases z
    have tyE : PySem.W.Looks (model X.prog X.w) h3 (typeOf (.ref a)) cls := fun A Q E s k q => wpAny_typeOf_ref (k _ _ he3) (by rw [hz3.1]; exact q)
    have asked : ∀ {x : Str} {np : Pos} {c : Value} {Q : Value → Shared → Prop} {E : Value → Shared → Prop}, Names X x c → Q c { s' with heap := h3 } → wpAny (model X.prog X.w) (X.A.mark (some (.ref a))) (eval (.Name x np) X.env) Q E { s' with heap := h3 } := by
      intro x np c Q E hc q
      obtain ⟨hg, hdbg, hm | ⟨hm, hv, hnn⟩⟩ := hc
      · exact ld_glob (X := X.suite a ((a, oe3) :: (X.pn ++ pins))) S3 hg hm q hdbg
      · exact ld_blt (X := X.suite a ((a, oe3) :: (X.pn ++ pins))) S3 hg hm hv q hnn hdbg
    have land4 : ∀ h4, HandSPX.FlyingZ B (X.env :: X.outer) a (Zc cls d) h4 → Heap.UpToSlots h3 h4 → ∃ oe4, (∃ vs, oe4.data = .fields vs) ∧ Zc cls d oe4 ∧ Inv (X.suite a ((a, oe4) :: (X.pn ++ pins))) [] σ' H' { s' with heap := h4 } := fun h4 fl4 up4 => by
      obtain ⟨oe4, vs4, he4, hz4, hd4⟩ := fl4.there
      exact ⟨oe4, ⟨_, hd4⟩, hz4, (J.landed nb fl4.1 ((up.trans up3).trans up4) os ag : Inv X pins σ' H' { s' with heap := h4 }).suite he4 hd4 na nL nF⟩
    have go : ∀ {hds' : List ExceptHandler} {l' : List Cl}, ClsOk X hds' l' → wClsK X.K out D l' cls d σ' H' → wpAny (model X.prog X.w) X.A (handleBy (.ref a) X.env hds') (SP X pins D) X.xe { s' with heap := h3 } := by
      intro hds' l' hk
      induction hk with
      | nil =>
        intro w
        refine wpAny_handleBy_nil ?_
        obtain ⟨_, _, _, oe, vs, T, _, _, he, _, hd, h1, _⟩ := id fl3
        have thrown : wpAny (model X.prog X.w) X.A (setFlight (.ref a) X.env.frame) (fun _ s4 => wpAny (model X.prog X.w) X.A (throw (.ref a) : Sem Flow) (SP X pins D) X.xe s4) X.xe { s' with heap := h3 } := by
          rw [hf]
          exact HandSPX.setFlight_upZ fl3 fun h4 hh4 up4 => wpAny_throw (tk _ _ ⟨a, B, sI, pins, σ', H', cls, d, rfl, J, nb, (up.trans up3).trans up4, .inr (.inr (by rw [hs]; exact hh4)), na, os, ag, w⟩)
        unfold PySem.passOn
        refine wpAny_bind (wpAny_field he hd h1 ?_)
        rw [if_neg (show ¬ ((Value.ref T == Value.none) = true) by simp)]
        first
          | exact wpAny_bind (wpAny_pure (wpAny_bind thrown))
          | exact wpAny_bind thrown
      | @anon x c ts b₀ suite np pos' hds2 l2 hc hsu r ih =>
        intro ⟨b, hb1, hyes, hno⟩
        refine wpAny_handleBy_cons (codeAny_handlers_test (asked hc ((PySem.W.exm_one (M := model X.prog X.w) J3.kIn tyE hb1).here ?_))) (by intro q; cases q)
        cases b with
        | false => exact (ih (hno rfl) : wpAny _ X.A (handleBy (.ref a) X.env hds2) _ _ _)
        | true =>
          refine codeAny_handlers_suite (HandSPX.lands_againZ fl3 fun h4 fl4 up4 => ?_)
          obtain ⟨oe4, hd4, hz4, S4⟩ := land4 h4 fl4 up4
          refine wpAny_mono ((hsu a oe4 cls d (X.pn ++ pins) hz4 hd4).run [] _ _ H' _ S4 (hyes rfl a na)) (fun f s6 hsp => ?_) (fun _ _ z => z.elim)
          match f, hsp with
          | .next, ⟨_, _, S6, q6⟩ => exact ⟨_, _, S6.unsuite ok, q6⟩
          | .brk, ⟨_, _, S6, q6⟩ => exact ⟨_, _, S6.unsuite ok, q6⟩
          | .cont, ⟨_, _, S6, q6⟩ => exact ⟨_, _, S6.unsuite ok, q6⟩
          | .ret u, ⟨_, _, _, S6, r6, q6⟩ => exact ⟨_, _, _, S6.unsuite ok, r6, q6⟩
      | @named x n i c ts b₀ suite np pos' hds2 l2 hc hN hi hln hsu r ih =>
        intro ⟨b, hb1, hyes, hno⟩
        refine wpAny_handleBy_cons (codeAny_handlers_test (asked hc ((PySem.W.exm_one (M := model X.prog X.w) J3.kIn tyE hb1).here ?_))) (by intro q; cases q)
        cases b with
        | false => exact (ih (hno rfl) : wpAny _ X.A (handleBy (.ref a) X.env hds2) _ _ _)
        | true =>
          refine codeAny_handlers_suite_as (HandSPX.lands_againZ fl3 fun h4 fl4 up4 => ?_)
          obtain ⟨oe4, hd4, hz4, S4⟩ := land4 h4 fl4 up4
          refine store_ok (X := X.suite a ((a, oe4) :: (X.pn ++ pins))) (v := .ref a) S4 hN hi (.inl hln) rfl (fun s5 S5 => ?_) (.inr hln)
          refine wpAny_mono ((hsu a oe4 cls d (X.pn ++ pins) hz4 hd4).run [] s5 _ H' _ S5 (hyes rfl a na)) (fun f s6 hsp => ?_) (fun _ _ z => z.elim)
          have goes : ∀ {σ6 : St} {H6 : Hp} {Q : Shared → Prop}, Inv (X.suite a ((a, oe4) :: (X.pn ++ pins))) [] σ6 H6 s6 → (∀ s7, Inv X pins (σ6.set i none) H6 s7 → Q s7) →
              wpAny (model X.prog X.w) X.A (do bindName X.env n .none; unbindBehindTheSuite X.env n pos') (fun _ s7 => Q s7) X.xe s6 := fun {σ6 H6 Q} S6 hq => gone_ok (S6.unsuite ok) hN hi hln hq
          have goesK : ∀ {σ6 : St} {H6 : Hp} {Q : Shared → Prop}, Inv (X.suite a ((a, oe4) :: (X.pn ++ pins))) [] σ6 H6 s6 → (H6 a = none → ∀ C dd, cls = .ref C → d = some dd → ∀ s7, Inv X pins (σ6.set i none) (upd H6 a (Pd.exk a C dd)) s7 → Q s7) → (∀ C dd, cls = .ref C → d = some dd → True) → (∃ C dd, cls = .ref C ∧ d = some dd) →
              wpAny (model X.prog X.w) X.A (do bindName X.env n .none; unbindBehindTheSuite X.env n pos') (fun _ s7 => Q s7) X.xe s6 := fun {σ6 H6 Q} S6 hq _ ⟨C, dd, ec, ed⟩ =>
            gone_ok (X := X.suite a ((a, oe4) :: (X.pn ++ pins))) (pins := []) S6 hN hi hln fun s7 S7 => by
              obtain ⟨g1, g2, g3, g4, g5⟩ := S7.pin (a, oe4) (List.mem_append_left _ (.head _))
              obtain ⟨ve, hve⟩ := hd4
              exact hq g2 C dd ec ed s7 ((S7.unsuite ok).track ⟨oe4, ve, g1, hz4.1.trans ec, hz4.2.trans ed, hve⟩ g2 g3 g4 noS noP)
          match f, hsp with
          | .next, ⟨σ6, H6, S6, C, dd, ec, ed, q6⟩ => exact goesK S6 (fun hn C' dd' ec' ed' s7 J7 => ⟨_, _, J7, by have z1 := ec.symm.trans ec'; have z2 := ed.symm.trans ed'; cases z1; cases z2; exact q6 hn⟩) (fun _ _ _ _ => trivial) ⟨C, dd, ec, ed⟩
          | .brk, ⟨_, _, S6, q6⟩ => exact goes S6 fun s7 J7 => ⟨_, _, J7, q6⟩
          | .cont, ⟨_, _, S6, q6⟩ => exact goes S6 fun s7 J7 => ⟨_, _, J7, q6⟩
          | .ret u, ⟨_, _, _, S6, r6, q6⟩ => exact goes S6 fun s7 J7 => ⟨_, _, _, J7, r6, q6⟩
    exact go hh w
  · match f, hsp with
    | .next, ⟨σ', H', J', q⟩ => exact wpAny_execs_nil ⟨σ', H', J'.ofTry ok, q⟩
    | .brk, ⟨σ', H', J', q⟩ => exact ⟨σ', H', J'.ofTry ok, q⟩
    | .cont, ⟨σ', H', J', q⟩ => exact ⟨σ', H', J'.ofTry ok, q⟩
    | .ret u, ⟨v, σ', H', J', r, q⟩ => exact ⟨v, σ', H', J'.ofTry ok, r, q⟩
end
end L2
namespace L2
open PySem PySem.Spec PyProof.Rows
variable {X : Cx}
theorem exk_at {P : Program} {w : World} {H : Hp} {h : Heap} {a C d : Addr} (hok : HOk P w H h) (e : H a = some (Pd.exk a C d)) : ∃ oe vs, h.get? a = some oe ∧ oe.cls = .ref C ∧ oe.dict = some d ∧ oe.data = .fields vs := by
  obtain ⟨q, _⟩ : ObjOk P w H h a (Pd.exk a C d) := hok a _ e
  exact q
/-- x.value, x an error that was kept -/
def tXvK (K : PySem.W.Frag) (te : TE) : TE := fun σ H Q => te σ H fun x H1 => ∃ a C dd v, x = .ref a ∧ H1 a = some (Pd.exk a C dd) ∧ XfC K C ∧ PySem.W.findIn K (.ref C) "value" = some none ∧ H1 dd = some (.xd [(("value" : PySem.Str), v)]) ∧ Q v H1
theorem pe_xvK {e : Expr} {te : TE} {pos : Pos} (he : PE X e te) (hb : attributeBase e "value" X.env (eval e X.env) = eval e X.env := by rfl) : PE X (.Attribute e "value" pos) (tXvK X.K te) := by
  refine ⟨fun pins s σ H Q I h => attr_of hb (thn (he.run pins s σ H _ I h) fun u s1 ⟨x, H1, I1, rx, a, C, dd, v, ex, ea0, T, hno, ea, q⟩ => ?_)⟩
  subst ex
  obtain rfl : u = Value.ref a := rx
  obtain ⟨oe, vs, h1, h2, h3, h4⟩ := exk_at I1.hok ea0
  obtain ⟨mA, hns, hr⟩ : ObjOk X.prog X.w H1 s1.heap dd (.xd [(("value" : PySem.Str), v)]) := I1.hok dd _ ea
  obtain ⟨od, ho, hl⟩ := lookIn_ns hns
  obtain ⟨u, hu, ru⟩ := RelO.some_of (v := v) (o := mA "value") (by have z := hr "value"; simpa [List.lookup] using z)
  have J : PySem.W.InstAt s1.heap a oe C (some od) := ⟨h1, h2, by unfold PySem.W.notCls; rw [h4] <;> rfl, by rw [h3]; exact ho⟩
  exact HandSPX.exc_get I1.kIn J T.ga T.gg T.exC (PySem.W.findObj_own T.hdC hno rfl (by rw [hl, hu])) (handed_of ru) ⟨v, H1, I1.tok _, ru, q⟩
/-- isinstance(x, y), x an error that was kept -/
def tIsK (K : PySem.W.Frag) (y : Str) (te : TE) : TE := fun σ H Q => ∀ C0, Pd.clA K y C0 → te σ H fun x H1 => V.ref C0 = V.ref C0 ∧ ∃ a C dd fs b, x = .ref a ∧ H1 a = some (Pd.exk a C dd) ∧ H1 dd = some (.xd fs) ∧ ExcC K C ∧ PySem.W.kitOne K (.ref C) (.ref C0) = some b ∧ Q (.bl b) H1
theorem pe_isK {y : Str} {e : Expr} {te : TE} {p py pos : Pos} (T : Pd.IsErr X.prog X.K X.mg y) (hm : X.mg "isinstance" = none) (he : PE X e te)
    (hg : Gl X "isinstance" := by rfl) (hgy : Gl X y := by rfl) (hdb : (y == ("__debug__" : Str)) = false := by decide)
    (hst : starEach [e, .Name y py] X.env = (false, eval e X.env) :: starEach [.Name y py] X.env := by rfl) (hst2 : starEach [.Name y py] X.env = (false, eval (.Name y py) X.env) :: starEach [] X.env := by rfl) (hpl : (backTo pos (starEach [.Name y py] X.env)).any (·.1) = false := by rfl) :
    PE X (.Call (.Name "isinstance" p) [e, .Name y py] [] pos) (tIsK X.K y te) := by
  obtain ⟨C0, hC0, E0⟩ := T
  have hgl : PE X (.Name y py) (tC (.ref C0)) := pe_glob hgy E0.gC rfl hdb
  refine ⟨fun pins s σ H Q I h => ?_⟩
  refine wpAny_Call_Name_kw (ld_blt I hg hm (show bootBuiltins "isinstance" = some (.builtin "isinstance") by decide +kernel) ?_ (by decide) (by decide))
  have ha : PA X [e, .Name y py] (tCons te (tCons (tC (.ref C0)) tNil)) := pa_cons he (pa_cons hgl pa_nil (hs := hst2)) (hs := hst)
  let Q' : List V → Hp → Prop := fun vs H1 => match vs with
    | [x, c] => c = V.ref C0 ∧ ∃ a C dd fs b, x = .ref a ∧ H1 a = some (Pd.exk a C dd) ∧ H1 dd = some (.xd fs) ∧ ExcC X.K C ∧ PySem.W.kitOne X.K (.ref C) (.ref C0) = some b ∧ Q (.bl b) H1
    | _ => False
  exact PyProof.Rows.callWith_builtin1 (thn (ha.run pos pins s σ H Q' I (h C0 hC0)) fun us s1 ⟨vs, H1, I1, r1, q1⟩ => by
    match vs, q1, r1 with
    | [x, c], ⟨ec, a, C, dd, fs, b, ex, ea0, hdd, TE, hk, q⟩, r1 =>
      subst ec ex
      cases r1 with
      | cons rx rr =>
        cases rr with
        | cons ry rr =>
          cases rr
          cases rx
          cases ry
          obtain ⟨oe, vs, h1, h2, h3, h4⟩ := exk_at I1.hok ea0
          obtain ⟨mA, hns, hr⟩ : ObjOk X.prog X.w H1 s1.heap dd (.xd fs) := I1.hok dd _ hdd
          obtain ⟨ob, hob, _⟩ := lookIn_ns hns
          have J : PySem.W.InstAt s1.heap a oe C (some ob) := ⟨h1, h2, by unfold PySem.W.notCls; rw [h4] <;> rfl, by rw [h3]; exact hob⟩
          exact PySem.W.kia_one (PySem.OwnErr.kitx_err TE) I1.kIn J hk (fun z => nomatch z) fun tk => ⟨.bl b, H1, I1.kept (t' := tk) fun _ _ z => z, rfl, q⟩) hst hpl
end L2
namespace L2
open PySem PySem.Spec PyProof.Rows
def rRstrip : V → List V → Hp → VK → Prop := fun x xs H Q => ∃ a b, x = .str a ∧ xs = [.str b] ∧ a.length ≤ sizeLine ∧ Q (.str (Txt.rstripChars a b)) H
theorem mt_rstripU {X : Cx} : MtR X "str.rstrip" rRstrip := mt_rstripChars
end L2
namespace Pd
open PySem PySem.Spec L2
open Evl (Ex)
open PyProof.Rows
theorem am_rstrip {K : PySem.W.Frag} {μ : Mu} {R : W → Mu → Prop} {x y : Str} (h : x.length ≤ sizeLine) (k : R (.d (.str (Txt.rstripChars x y))) μ) : AM K rRstrip (.d (.str x)) [.d (.str y)] μ R := fun A M H v vs mo rv rs Q q => by
  rw [vr_str rv]
  cases rs with
  | cons ry rn =>
    cases rn
    rw [vr_str ry]
    exact ⟨x, y, rfl, rfl, h, q M H _ _ μ mo Eff.refl (.d (.str _)) k⟩
def tTryK (K : PySem.W.Frag) (hs : List Hn) (tb : L2.WX → TS) (out : L2.WX) : TS := fun D σ H => ∀ l, CsOk K hs l → tb (wClsK K out D l) D σ H
theorem ps_tryNK {X : Cx} {body : List Stmt} {h₀ : ExceptHandler} {hds : List ExceptHandler} {hs : List Hn} {pos : Pos} {tb : WX → TS} {out : WX} (tk : Takes X out)
    (hb : ∀ (xw : WX) (pn : List (Addr × Obj)) (xe : Value → Shared → Prop), Takes (X.tr pn xe) xw → PassesOwn (model X.prog X.w) X.A X.env xe → PSs (X.tr pn xe) body (tb xw))
    (hh : HsOk X (h₀ :: hds) hs) (hst : X.stack = X.env :: X.outer := by rfl) (hf : X.env.frame = some X.env.locals := by rfl) : PS X (.Try body (h₀ :: hds) [] [] pos) (tTryK X.K hs tb out) := by
  obtain ⟨l, h1, h2⟩ := hh
  exact ⟨fun pins s σ H D I h => (ps_tryK hst hf tk hb h1).run pins s σ H D I (h l h2)⟩
section
variable {K : PySem.W.Frag}
/-- the end of a suite whose error is kept in the slot j -/
def keepE (i j : Nat) (a d : Addr) (x : Str) (D : AEn) : AEn := { D with nx := fun g m => g[j]? = some (some (.k (.ref a))) ∧ i ≠ j ∧ D.nx ((g.set i none).set j (some (.m m.length))) (m ++ [some (.er x d)]), bk := fun _ _ => False, ct := fun _ _ => False }
/-- clauses, each with a name, whose error goes to the slot j -/
def hXk (K : PySem.W.Frag) (j : Nat) (D : AEn) : List Hn → Str → W → G → Mu → Prop
  | [] => D.xc
  | h :: r => fun x w Γ μ => ∃ b, SubIs K x h.x b ∧ (b = true → ∃ i, h.i = some i ∧ ∀ a C d, clA K x C → AS K (h.ts a (.ref C) (some d)) (keepE i j a d x D) (h.sl a Γ) (μ ++ [some (.xd d w)])) ∧ (b = false → hXk K j D r x w Γ μ)
theorem gr_reset {H : Hp} {M : List Addr} {σ : L2.St} {Γ : G} {j : Nat} {a : Addr} {k : Nat} (h : GR K H M σ Γ) (hj : Γ[j]? = some (some (.k (.ref a)))) (hk : M[k]? = some a) : GR K H M σ (Γ.set j (some (.m k))) := by
  refine ⟨by rw [List.length_set]; exact h.1, fun i w hw => ?_⟩
  rw [List.getElem?_set] at hw
  by_cases e : j = i
  · subst e
    rw [if_pos rfl] at hw
    split at hw
    · have ew : W.m k = w := by simpa using hw
      subst ew
      obtain ⟨v, h1, h2⟩ := h.2 j _ hj
      cases h2
      exact ⟨_, h1, .m hk⟩
    · cases hw
  · rw [if_neg e] at hw
    exact h.2 i w hw
theorem as_tryK {Γ : G} {μ : Mu} {D : AEn} {hs : List Hn} {tb : L2.WX → TS} (j : Nat) (h : ∀ xw : L2.WX, AS K (tb xw) { D with xw := xw, xc := hXk K j D hs } Γ μ) : AS K (tTryK K hs tb D.xw) D Γ μ := fun A M σ H cn E hE l hl => by
  refine h (wClsK K D.xw E l) A M σ H cn E ⟨hE.nx, hE.rt, hE.bk, hE.ct, fun M' σ' H' Γ' x a d w μ' hc c' e' hx => ?_⟩
  show wClsK K D.xw E l (.ref a) (some d) σ' H'
  have hx' : hXk K j D hs x w Γ' μ' := hx
  clear hx h
  induction hs generalizing l with
  | nil =>
    cases l with
    | nil => exact hE.xx M' σ' H' Γ' x a d w μ' hc c' e' hx'
    | cons _ _ => exact hl.elim
  | cons h r ih =>
    cases l with
    | nil => exact hl.elim
    | cons c s =>
      obtain ⟨⟨h1, h2, h3⟩, hr⟩ := hl
      obtain ⟨b, hb, hy, hn⟩ := hx'
      refine ⟨b, hb a c.c hc h1, fun e a0 _ => ?_, fun e => ih s hr (hn e)⟩
      obtain ⟨i0, hi0, q⟩ := hy e
      have q := q a0 a d hc
      obtain ⟨cc, ci, cts⟩ := c
      obtain ⟨hx0, hi, hts⟩ := h
      dsimp only at h2 h3 hi0
      subst h2 h3
      subst hi0
      have hd' : Hd K A (M' ++ [d]) (μ' ++ [some (.xd d w)]) H' D E := hE.after e'
      refine q A _ _ H' ⟨c'.mo, c'.gr.set (.k _)⟩ _ ⟨fun M4 σ4 H4 Γ4 μ4 c4 e4 ⟨hj, hij, h4⟩ => ?_, hd'.rt, fun M4 σ4 H4 Γ4 μ4 c4 e4 h4 => h4.elim, fun M4 σ4 H4 Γ4 μ4 c4 e4 h4 => h4.elim, hd'.xx⟩
      refine ⟨a, d, rfl, rfl, fun hn0 => ?_⟩
      have mo2 : MOk K A (M4 ++ [a0]) (upd H4 a0 (exk a0 a d)) (μ4 ++ [some (.er x d)]) := c4.mo.new (c := .er x d) hn0 ⟨a, hc, rfl⟩
      have e5 : Eff A M4 μ4 H4 (M4 ++ [a0]) (μ4 ++ [some (.er x d)]) (upd H4 a0 (exk a0 a d)) := Eff.new c4.mo hn0
      have g5 : GR K (vw A (M4 ++ [a0]) (μ4 ++ [some (.er x d)]) (upd H4 a0 (exk a0 a d))) (M4 ++ [a0]) (σ4.set i0 none) (Γ4.set i0 none) := (c4.gr.drop).mono e5.ex e5.pre
      refine hd'.nx (M4 ++ [a0]) _ _ _ (μ4 ++ [some (.er x d)]) ⟨mo2, gr_reset (a := a0) g5 ?_ ?_⟩ (e4.trans e5) h4
      · rw [List.getElem?_set, if_neg hij]
        exact hj
      · rw [← c4.mo.len, List.getElem?_append_right (Nat.le_refl _)]
        simp
variable {Γ : G} {μ : Mu} {R : W → Mu → Prop}
theorem hXk_yes {D : AEn} {x y : Str} {w : W} {i j : Nat} {ts : Addr → Value → Option Addr → TS} {r : List Hn} (h : SubIs K x y true) (q : ∀ a C d, clA K x C → AS K (ts a (.ref C) (some d)) (keepE i j a d x D) (Γ.set i (some (.k (.ref a)))) (μ ++ [some (.xd d w)])) : hXk K j D (⟨y, some i, ts⟩ :: r) x w Γ μ :=
  ⟨true, h, fun _ => ⟨i, rfl, fun a C d hc => q a C d hc⟩, fun z => by cases z⟩
theorem hXk_no {D : AEn} {x y : Str} {w : W} {j : Nat} {i : Option Nat} {ts : Addr → Value → Option Addr → TS} {r : List Hn} (h : SubIs K x y false) (q : hXk K j D r x w Γ μ) : hXk K j D (⟨y, i, ts⟩ :: r) x w Γ μ := ⟨false, h, fun z => absurd z (by decide), fun _ => q⟩
theorem er_get {A : Addr → Prop} {M : List Addr} {H : Hp} {v : V} {k k2 : Nat} {x : Str} {d : Addr} {w : W} (mo : MOk K A M H μ) (rv : VR K (vw A M μ H) M v (.m k)) (hk : μ[k]? = some (some (.er x d))) (hk2 : μ[k2]? = some (some (.xd d w))) :
    ∃ a C u, v = .ref a ∧ clA K x C ∧ H a = some (exk a C d) ∧ H d = some (.xd [(("value" : Str), u)]) ∧ VR K (vw A M μ H) M u w := by
  cases rv with
  | m hm =>
    obtain ⟨o, e, C, hC, rfl⟩ := mo.ct _ _ _ hm hk
    have hl : k2 < M.length := by
      rw [mo.len]
      exact (List.getElem?_eq_some_iff.mp hk2).1
    obtain ⟨o2, ho, ep, u, rfl, ru⟩ := mo.ct k2 _ (.xd d w) (List.getElem?_eq_getElem hl) hk2
    rw [ep] at ho
    exact ⟨_, C, u, rfl, hC, e, ho, ru⟩
theorem ax_xvK {i k k2 : Nat} {x : Str} {d : Addr} {w : W} (hx : ErrV K x) (hi : Γ[i]? = some (some (.m k))) (hk : μ[k]? = some (some (.er x d))) (hk2 : μ[k2]? = some (some (.xd d w))) (q : R w μ) : AX K (tXvK K (tVar i)) Γ μ R := fun A M σ H c Q q0 =>
  ax_var (R := fun u μ1 => u = .m k ∧ μ1 = μ) hi ⟨rfl, rfl⟩ A M σ H c _ fun M1 H1 v u μ1 mo1 e1 r1 ⟨eu, em⟩ => by
    subst eu em
    obtain ⟨a, C, u, rfl, hC, h1, h2, ru⟩ := er_get mo1 r1 hk hk2
    exact ⟨a, C, d, u, rfl, h1, (hx C hC).1, (hx C hC).2, h2, q0 M1 H1 _ w μ1 mo1 e1 ru q⟩
theorem ax_isK {i k k2 : Nat} {x y : Str} {d : Addr} {w : W} {b : Bool} (hx : ErrI K x) (hy : IsOf K x y b) (hi : Γ[i]? = some (some (.m k))) (hk : μ[k]? = some (some (.er x d))) (hk2 : μ[k2]? = some (some (.xd d w))) (q : R (.d (.bool b)) μ) : AX K (tIsK K y (tVar i)) Γ μ R := fun A M σ H c Q q0 C0 hC0 =>
  ax_var (R := fun u μ1 => u = .m k ∧ μ1 = μ) hi ⟨rfl, rfl⟩ A M σ H c _ fun M1 H1 v u μ1 mo1 e1 r1 ⟨eu, em⟩ => by
    subst eu em
    obtain ⟨a, C, u, rfl, hC, h1, h2, ru⟩ := er_get mo1 r1 hk hk2
    exact ⟨rfl, a, C, d, _, b, rfl, h1, h2, hx C hC, hy C C0 hC hC0, q0 M1 H1 _ _ μ1 mo1 e1 (.d (.bl b)) q⟩
end
end Pd

namespace M77
open PySem
/-- the sign number n of a word, or 0 behind it -/
def dg (l : List Nat) (n : Nat) : Nat := (l[n]?).getD 0
/-- the worth of the first n signs -/
def val : Nat → List Nat → Nat
  | 0, _ => 0
  | n + 1, l => val n l * 26 + dg l n
def digs : Nat → Nat → List Nat
  | 0, _ => []
  | n + 1, v => (v / 26 ^ n) % 26 :: digs n v
def Ds (l : List Nat) : Prop := ∀ d ∈ l, d < 26
theorem dg_lt {l : List Nat} (h : Ds l) (n : Nat) : dg l n < 26 := by
  unfold dg
  cases e : l[n]? with
  | none => decide
  | some d => exact h d (List.mem_of_getElem? e)
theorem dg_cons (d : Nat) (l : List Nat) (n : Nat) : dg (d :: l) (n + 1) = dg l n := by simp [dg]
theorem dg_nil (n : Nat) : dg [] n = 0 := by simp [dg]
theorem val_nil : ∀ n, val n [] = 0
  | 0 => rfl
  | n + 1 => by
    unfold val
    rw [val_nil n, dg_nil]
theorem val_cons (d : Nat) (l : List Nat) : ∀ n, val (n + 1) (d :: l) = d * 26 ^ n + val n l
  | 0 => by simp [val, dg]
  | n + 1 => by
    have e : val (n + 1 + 1) (d :: l) = val (n + 1) (d :: l) * 26 + dg (d :: l) (n + 1) := rfl
    rw [e, val_cons d l n, dg_cons]
    have e2 : val (n + 1) l = val n l * 26 + dg l n := rfl
    rw [e2, Nat.pow_succ, Nat.add_mul, Nat.mul_assoc]
    omega
theorem val_lt {l : List Nat} (h : Ds l) : ∀ n, val n l < 26 ^ n
  | 0 => by
    show (0 : Nat) < 26 ^ 0
    decide
  | n + 1 => by
    have a := val_lt h n
    have b := dg_lt h n
    unfold val
    rw [Nat.pow_succ]
    omega
theorem val_add_le (l : List Nat) (h : Ds l) (n : Nat) : ∀ j, val n l * 26 ^ j ≤ val (n + j) l ∧ val (n + j) l < (val n l + 1) * 26 ^ j
  | 0 => by simp
  | j + 1 => by
    obtain ⟨a, b⟩ := val_add_le l h n j
    have c := dg_lt h (n + j)
    have e : val (n + (j + 1)) l = val (n + j) l * 26 + dg l (n + j) := rfl
    rw [e, Nat.pow_succ, ← Nat.mul_assoc, ← Nat.mul_assoc]
    generalize val n l * 26 ^ j = x at *
    generalize (val n l + 1) * 26 ^ j = y at *
    omega
theorem val_len {l : List Nat} {n : Nat} (hl : l.length ≤ n) : ∀ j, val (n + j) l = val n l * 26 ^ j
  | 0 => by simp
  | j + 1 => by
    have e : val (n + (j + 1)) l = val (n + j) l * 26 + dg l (n + j) := rfl
    have z : dg l (n + j) = 0 := by
      unfold dg
      rw [List.getElem?_eq_none (by omega)]
      rfl
    rw [e, val_len hl j, z, Nat.pow_succ, Nat.mul_assoc]
    omega
theorem digs_len : ∀ n v, (digs n v).length = n
  | 0, _ => rfl
  | n + 1, v => by
    show (digs n v).length + 1 = n + 1
    rw [digs_len n v]
theorem digs_ds : ∀ n v, Ds (digs n v)
  | 0, _ => fun d h => by cases h
  | n + 1, v => fun d h => by
    rcases List.mem_cons.mp h with rfl | h
    · exact Nat.mod_lt _ (by decide)
    · exact digs_ds n v d h
theorem val_digs (n : Nat) : ∀ v, v < 26 ^ n → val n (digs n v) = v := by
  have gen : ∀ n v, val n (digs n v) = v % 26 ^ n := by
    intro n
    induction n with
    | zero => intro v; rw [Nat.pow_zero, Nat.mod_one]; rfl
    | succ n ih =>
      intro v
      show val (n + 1) ((v / 26 ^ n) % 26 :: digs n v) = _
      rw [val_cons, ih, Nat.pow_succ, Nat.mod_mul]
      rw [Nat.mul_comm]
      omega
  intro v h
  rw [gen n v, Nat.mod_eq_of_lt h]
theorem dg_last : ∀ n v, dg (digs (n + 1) v) n = v % 26
  | 0, v => by
    simp [digs, dg]
  | n + 1, v => by
    show dg ((v / 26 ^ (n + 1)) % 26 :: digs (n + 1) v) (n + 1) = _
    rw [dg_cons, dg_last n v]
theorem val_digs_add {n v : Nat} (h : v < 26 ^ n) (j : Nat) : val (n + j) (digs n v) = v * 26 ^ j := by
  rw [val_len (by rw [digs_len]; exact Nat.le_refl _), val_digs n v h]
/-! ### the words' order -/
def lex : List Nat → List Nat → Bool
  | [], [] => false
  | [], _ :: _ => true
  | _ :: _, [] => false
  | a :: r, b :: t => decide (a < b) || (a == b && lex r t)
theorem lex_map : ∀ l m : List Nat, decide (l.map (· + 97) < m.map (· + 97)) = lex l m
  | [], [] => StrLaws.lt_nil_nil
  | [], b :: t => StrLaws.lt_nil_cons _ _
  | a :: r, [] => StrLaws.lt_cons_nil _ _
  | a :: r, b :: t => by
    show decide ((a + 97) :: r.map (· + 97) < (b + 97) :: t.map (· + 97)) = _
    rw [StrLaws.lt_cons_cons, lex_map r t]
    show _ = (decide (a < b) || (a == b && lex r t))
    have e1 : decide (a + 97 < b + 97) = decide (a < b) := by simp
    have e2 : (a + 97 == b + 97) = (a == b) := by
      by_cases h : a = b
      · subst h; simp
      · rw [beq_eq_false_iff_ne.mpr h, beq_eq_false_iff_ne.mpr (by omega)]
    rw [e1, e2]
theorem lex_tri : ∀ l m : List Nat, lex l m = true ∨ l = m ∨ lex m l = true
  | [], [] => .inr (.inl rfl)
  | [], _ :: _ => .inl rfl
  | _ :: _, [] => .inr (.inr rfl)
  | a :: r, b :: t => by
    rcases Nat.lt_trichotomy a b with h | h | h
    · exact .inl (by simp [lex, h])
    · subst h
      rcases lex_tri r t with h | h | h
      · exact .inl (by simp [lex, h])
      · exact .inr (.inl (by rw [h]))
      · exact .inr (.inr (by simp [lex, h]))
    · exact .inr (.inr (by simp [lex, h]))
theorem lex_irr : ∀ l : List Nat, lex l l = false
  | [] => rfl
  | a :: r => by simp [lex, lex_irr r]
theorem lex_val : ∀ (N : Nat) (l m : List Nat), Ds l → Ds m → lex l m = true → val N l ≤ val N m
  | 0, _, _, _, _, _ => Nat.le_refl _
  | n + 1, [], _, _, _, _ => by rw [val_nil]; exact Nat.zero_le _
  | n + 1, _ :: _, [], _, _, h => by cases h
  | n + 1, a :: r, b :: t, hl, hm, h => by
    rw [val_cons, val_cons]
    have hr : Ds r := fun d x => hl d (.tail _ x)
    have ht : Ds t := fun d x => hm d (.tail _ x)
    have v1 := val_lt hr n
    simp only [lex, Bool.or_eq_true, decide_eq_true_eq, Bool.and_eq_true, beq_iff_eq] at h
    rcases h with h | ⟨h, k⟩
    · have : (a + 1) * 26 ^ n ≤ b * 26 ^ n := Nat.mul_le_mul_right _ h
      rw [Nat.add_mul, Nat.one_mul] at this
      omega
    · subst h
      have := lex_val n r t hr ht k
      omega
/-- a word: some signs, the last one not a -/
def Pw (l : List Nat) : Prop := Ds l ∧ 0 < l.length ∧ dg l (l.length - 1) ≠ 0
theorem val_inj : ∀ (N : Nat) (l m : List Nat), Ds l → Ds m → l.length ≤ N → m.length ≤ N → (0 < l.length → dg l (l.length - 1) ≠ 0) → (0 < m.length → dg m (m.length - 1) ≠ 0) → val N l = val N m → l = m := by
  have nz : ∀ (N : Nat) (l : List Nat), Ds l → l.length ≤ N → 0 < l.length → dg l (l.length - 1) ≠ 0 → 0 < val N l := by
    intro N l hl hN h0 hz
    obtain ⟨j, rfl⟩ : ∃ j, N = l.length + j := ⟨N - l.length, by omega⟩
    rw [val_len (Nat.le_refl _)]
    obtain ⟨k, hk⟩ : ∃ k, l.length = k + 1 := ⟨l.length - 1, by omega⟩
    have e : val l.length l = val k l * 26 + dg l k := by rw [hk]; rfl
    rw [hk] at hz
    rw [Nat.add_sub_cancel] at hz
    have : 0 < val l.length l := by omega
    exact Nat.mul_pos this (Nat.pow_pos (by decide))
  intro N
  induction N with
  | zero =>
    intro l m _ _ h1 h2 _ _ _
    rw [List.length_eq_zero_iff.mp (by omega : l.length = 0), List.length_eq_zero_iff.mp (by omega : m.length = 0)]
  | succ N ih =>
    intro l m hl hm h1 h2 z1 z2 e
    match l, m with
    | [], [] => rfl
    | [], b :: t =>
      rw [val_nil] at e
      have := nz (N + 1) (b :: t) hm h2 (by simp) (z2 (by simp))
      omega
    | a :: r, [] =>
      rw [val_nil] at e
      have := nz (N + 1) (a :: r) hl h1 (by simp) (z1 (by simp))
      omega
    | a :: r, b :: t =>
      rw [val_cons, val_cons] at e
      have hr : Ds r := fun d x => hl d (.tail _ x)
      have ht : Ds t := fun d x => hm d (.tail _ x)
      have v1 := val_lt hr N
      have v2 := val_lt ht N
      have hp : 0 < 26 ^ N := Nat.pow_pos (by decide)
      have hab : a = b := by
        rcases Nat.lt_trichotomy a b with h | h | h
        · have : (a + 1) * 26 ^ N ≤ b * 26 ^ N := Nat.mul_le_mul_right _ h
          rw [Nat.add_mul, Nat.one_mul] at this
          omega
        · exact h
        · have : (b + 1) * 26 ^ N ≤ a * 26 ^ N := Nat.mul_le_mul_right _ h
          rw [Nat.add_mul, Nat.one_mul] at this
          omega
      subst hab
      have lst : ∀ (d : Nat) (q : List Nat), (0 < (d :: q).length → dg (d :: q) ((d :: q).length - 1) ≠ 0) → (0 < q.length → dg q (q.length - 1) ≠ 0) := fun d q h h0 => by
        have := h (by simp)
        rw [List.length_cons, Nat.add_sub_cancel] at this
        obtain ⟨k, hk⟩ : ∃ k, q.length = k + 1 := ⟨q.length - 1, by omega⟩
        rw [hk, dg_cons] at this
        rw [hk, Nat.add_sub_cancel]
        exact this
      simp only [List.length_cons] at h1 h2
      rw [ih r t hr ht (by omega) (by omega) (lst _ _ z1) (lst _ _ z2) (by omega)]
theorem lex_iff {N : Nat} {l m : List Nat} (hl : Pw l) (hm : Pw m) (h1 : l.length ≤ N) (h2 : m.length ≤ N) : lex l m = decide (val N l < val N m) := by
  by_cases h : lex l m = true
  · have a := lex_val N l m hl.1 hm.1 h
    have b : val N l ≠ val N m := fun e => by
      have := val_inj N l m hl.1 hm.1 h1 h2 (fun _ => hl.2.2) (fun _ => hm.2.2) e
      subst this
      rw [lex_irr] at h
      cases h
    rw [h, decide_eq_true (by omega)]
  · have a : val N m ≤ val N l := by
      rcases lex_tri l m with k | k | k
      · exact absurd k h
      · rw [k]; exact Nat.le_refl _
      · exact lex_val N m l hm.1 hl.1 k
    rw [decide_eq_false (by omega)]
    exact Bool.eq_false_iff.mpr h
/-! ### the first word between -/
def cC (low : List Nat) (top L : Nat) : Prop := val L low + 1 < 26 ^ L ∧ (val L low + 1) * 26 ^ (12 - L) < top
/-- the program's candidate -/
def cand (low : List Nat) (L : Nat) : Nat := val L low + (if val L low % 26 = 25 then 2 else 1)
def cP (low : List Nat) (top L : Nat) : Prop := cand low L < 26 ^ L ∧ cand low L * 26 ^ (12 - L) < top
def First (low : List Nat) (top L : Nat) : Prop := 1 ≤ L ∧ L ≤ 12 ∧ cC low top L ∧ ∀ j, 1 ≤ j → j < L → ¬ cC low top j
theorem cP_cC {low : List Nat} {top L : Nat} (h : cP low top L) : cC low top L := by
  obtain ⟨a, b⟩ := h
  have h1 : val L low + 1 ≤ cand low L := by
    unfold cand
    split <;> omega
  exact ⟨Nat.lt_of_le_of_lt h1 a, Nat.lt_of_le_of_lt (Nat.mul_le_mul_right _ h1) b⟩
theorem First.ne {low : List Nat} {top L : Nat} (hl : Ds low) (h : First low top L) : val L low % 26 ≠ 25 := by
  obtain ⟨h1, h2, ⟨h3, h4⟩, h5⟩ := h
  intro e
  obtain ⟨k, rfl⟩ : ∃ k, L = k + 1 := ⟨L - 1, by omega⟩
  have d := dg_lt hl k
  have e1 : val (k + 1) low = val k low * 26 + dg low k := rfl
  have e2 : dg low k = 25 := by omega
  have e3 : val (k + 1) low + 1 = (val k low + 1) * 26 := by omega
  rw [e3] at h3 h4
  by_cases hk : k = 0
  · subst hk
    simp [val] at h3
  · refine h5 k (by omega) (by omega) ⟨?_, ?_⟩
    · rw [Nat.pow_succ] at h3
      omega
    · have e4 : 26 ^ (12 - k) = 26 * 26 ^ (12 - (k + 1)) := by
        rw [show 12 - k = (12 - (k + 1)) + 1 by omega, Nat.pow_succ, Nat.mul_comm]
      rw [e4, ← Nat.mul_assoc]
      exact h4
theorem First.cand {low : List Nat} {top L : Nat} (hl : Ds low) (h : First low top L) : M77.cand low L = val L low + 1 := by
  unfold M77.cand
  rw [if_neg (h.ne hl)]
theorem First.cP {low : List Nat} {top L : Nat} (hl : Ds low) (h : First low top L) : M77.cP low top L := by
  unfold M77.cP
  rw [h.cand hl]
  exact h.2.2.1
theorem first_ex {low : List Nat} {top m : Nat} (h1 : 1 ≤ m) (h2 : m ≤ 12) (h : cC low top m) : ∃ L, L ≤ m ∧ First low top L := by
  have key : ∀ n, ∀ L, 1 ≤ L → L + n = m → (∀ j, 1 ≤ j → j < L → ¬ cC low top j) → ∃ L, L ≤ m ∧ First low top L := by
    intro n
    induction n with
    | zero =>
      intro L a b c
      have : L = m := by omega
      subst this
      exact ⟨L, Nat.le_refl _, a, h2, h, c⟩
    | succ n ih =>
      intro L a b c
      by_cases q : cC low top L
      · exact ⟨L, by omega, a, by omega, q, c⟩
      · refine ih (L + 1) (by omega) (by omega) fun j j1 j2 => ?_
        by_cases e : j = L
        · rw [e]; exact q
        · exact c j j1 (by omega)
  exact key (m - 1) 1 (by omega) (by omega) fun j a b => by omega
/-- at the length behind both words -/
theorem cC_top {low high : List Nat} {m : Nat} (hl : Ds low) (hh : Ds high) (h1 : low.length < m) (h2 : high.length < m) (h3 : m ≤ 12) (h : val 12 low < val 12 high) : cC low (val 12 high) m := by
  obtain ⟨k, rfl⟩ : ∃ k, m = k + 1 := ⟨m - 1, by omega⟩
  have a := val_len (n := k) (l := low) (by omega) 1
  have b := val_len (n := k) (l := high) (by omega) 1
  have c := val_len (n := k + 1) (l := low) (by omega) (12 - (k + 1))
  have d := val_len (n := k + 1) (l := high) (by omega) (12 - (k + 1))
  rw [show k + 1 + (12 - (k + 1)) = 12 by omega] at c d
  rw [c, d] at h
  rw [d]
  have hp : 0 < 26 ^ (12 - (k + 1)) := Nat.pow_pos (by decide)
  have e : val (k + 1) low < val (k + 1) high := Nat.lt_of_mul_lt_mul_right h
  have f := val_lt hl k
  rw [Nat.pow_one] at a b
  refine ⟨?_, Nat.mul_lt_mul_of_pos_right (by omega) hp⟩
  rw [Nat.pow_succ]
  omega
theorem cC_none {low : List Nat} {m : Nat} (hl : Ds low) (h1 : low.length < m) (h3 : m ≤ 12) : cC low (26 ^ 12) m := by
  obtain ⟨k, rfl⟩ : ∃ k, m = k + 1 := ⟨m - 1, by omega⟩
  have a := val_len (n := k) (l := low) (by omega) 1
  have f := val_lt hl k
  rw [Nat.pow_one] at a
  have g : val (k + 1) low + 1 < 26 ^ (k + 1) := by
    rw [Nat.pow_succ]
    omega
  refine ⟨g, ?_⟩
  have hp : 0 < 26 ^ (12 - (k + 1)) := Nat.pow_pos (by decide)
  have := Nat.mul_lt_mul_of_pos_right g hp
  rw [← Nat.pow_add, show k + 1 + (12 - (k + 1)) = 12 by omega] at this
  exact this
end M77

namespace M78
open M77
/-- a word without its last a's -/
def stp (l : List Nat) : List Nat := (l.reverse.dropWhile (· == 0)).reverse
theorem dg_snoc0 (l : List Nat) (i : Nat) : dg (l ++ [0]) i = dg l i := by
  unfold dg
  by_cases h : i < l.length
  · rw [List.getElem?_append_left h]
  · rw [List.getElem?_append_right (by omega), (List.getElem?_eq_none (by omega : l.length ≤ i) : l[i]? = none)]
    by_cases e : i - l.length = 0
    · rw [e]; rfl
    · rw [List.getElem?_eq_none (by simp; omega)]
theorem dg_snoc (l : List Nat) (d : Nat) : dg (l ++ [d]) ((l ++ [d]).length - 1) = d := by
  unfold dg
  rw [List.length_append, List.length_singleton, Nat.add_sub_cancel, List.getElem?_append_right (Nat.le_refl _)]
  simp
theorem stp_all : ∀ r : List Nat, (∀ i, dg (stp r.reverse) i = dg r.reverse i) ∧ (0 < (stp r.reverse).length → dg (stp r.reverse) ((stp r.reverse).length - 1) ≠ 0) ∧ (stp r.reverse).length ≤ r.length ∧ (∀ x ∈ stp r.reverse, x ∈ r)
  | [] => ⟨fun _ => rfl, fun h => by simp [stp] at h, by simp [stp], fun x h => by simp [stp] at h⟩
  | d :: r => by
    obtain ⟨a, b, c, e⟩ := stp_all r
    by_cases h : d = 0
    · subst h
      have z : stp (0 :: r).reverse = stp r.reverse := by
        unfold stp
        rw [List.reverse_reverse, List.reverse_reverse]
        rfl
      rw [z]
      refine ⟨fun i => ?_, b, Nat.le_succ_of_le c, fun x hx => .tail _ (e x hx)⟩
      rw [a i, List.reverse_cons, dg_snoc0]
    · have z : stp (d :: r).reverse = (d :: r).reverse := by
        unfold stp
        rw [List.reverse_reverse, List.dropWhile_cons, if_neg (by simpa using h)]
      rw [z]
      refine ⟨fun _ => rfl, fun _ => ?_, by simp, fun x hx => List.mem_reverse.mp hx⟩
      rw [List.reverse_cons, dg_snoc]
      exact h
theorem val_congr {l m : List Nat} (h : ∀ i, dg l i = dg m i) : ∀ n, val n l = val n m
  | 0 => rfl
  | n + 1 => by
    show val n l * 26 + dg l n = val n m * 26 + dg m n
    rw [val_congr h n, h n]
theorem stp_facts (l : List Nat) (h : Ds l) : Ds (stp l) ∧ (∀ N, val N (stp l) = val N l) ∧ (0 < (stp l).length → dg (stp l) ((stp l).length - 1) ≠ 0) ∧ (stp l).length ≤ l.length := by
  have q := stp_all l.reverse
  rw [List.reverse_reverse, List.length_reverse] at q
  obtain ⟨a, b, c, d⟩ := q
  exact ⟨fun x hx => h x (List.mem_reverse.mp (d x hx)), val_congr a, b, c⟩
/-- number k of n words that are spread over the strings of the length L -/
def num (n L k : Nat) : Nat := (k + 1) * 26 ^ L / (n + 1)
def wrd (n L k : Nat) : List Nat := stp (digs L (num n L k))
def isL (n L : Nat) : Prop := n < 26 ^ L ∧ ∀ j, j < L → 26 ^ j ≤ n
theorem isL_uniq {n L L' : Nat} (h : isL n L) (h' : isL n L') : L = L' := by
  rcases Nat.lt_trichotomy L L' with z | z | z
  · have := h'.2 L z
    have := h.1
    omega
  · exact z
  · have := h.2 L' z
    have := h'.1
    omega
theorem num_lt {n L k : Nat} (hk : k < n) : num n L k < 26 ^ L := by
  unfold num
  rw [Nat.div_lt_iff_lt_mul (by omega), Nat.mul_comm (26 ^ L)]
  exact Nat.mul_lt_mul_of_pos_right (by omega) (Nat.pow_pos (by decide))
theorem num_pos {n L k : Nat} (h : n < 26 ^ L) : 0 < num n L k := by
  unfold num
  refine Nat.div_pos ?_ (by omega)
  have : 1 * 26 ^ L ≤ (k + 1) * 26 ^ L := Nat.mul_le_mul_right _ (by omega)
  omega
theorem num_mono {n L k : Nat} (h : n < 26 ^ L) : num n L k < num n L (k + 1) := by
  unfold num
  have e : (k + 1 + 1) * 26 ^ L = (k + 1) * 26 ^ L + 26 ^ L := by rw [Nat.add_mul (k + 1) 1, Nat.one_mul]
  rw [e]
  have h2 : ((k + 1) * 26 ^ L + (n + 1)) / (n + 1) = (k + 1) * 26 ^ L / (n + 1) + 1 := Nat.add_div_right _ (by omega)
  have h3 : ((k + 1) * 26 ^ L + (n + 1)) / (n + 1) ≤ ((k + 1) * 26 ^ L + 26 ^ L) / (n + 1) := Nat.div_le_div_right (by omega)
  omega
theorem wrd_val {n L k : Nat} (hk : k < n) (hL : L ≤ 12) : val 12 (wrd n L k) = num n L k * 26 ^ (12 - L) := by
  unfold wrd
  rw [(stp_facts _ (digs_ds _ _)).2.1 12]
  have := val_digs_add (num_lt (L := L) hk) (12 - L)
  rw [show L + (12 - L) = 12 by omega] at this
  exact this
theorem wrd_pw {n L k : Nat} (hk : k < n) (h : n < 26 ^ L) (hL : L ≤ 12) : Pw (wrd n L k) ∧ (wrd n L k).length ≤ L := by
  obtain ⟨a, b, c, d⟩ := stp_facts (digs L (num n L k)) (digs_ds _ _)
  rw [digs_len] at d
  have h0 : 0 < (wrd n L k).length := by
    rcases Nat.eq_zero_or_pos (wrd n L k).length with z | z
    · have e := wrd_val hk hL
      rw [List.length_eq_zero_iff.mp z, val_nil] at e
      have p := Nat.mul_pos (num_pos (k := k) h) (Nat.pow_pos (n := 12 - L) (show 0 < 26 by decide))
      omega
    · exact z
  exact ⟨⟨a, h0, c h0⟩, d⟩
theorem wrd_uniq {n L k : Nat} {l : List Nat} (hL : L ≤ 12) (hd : Ds l) (hv : ∀ N, val N l = val N (digs L (num n L k))) (hz : 0 < l.length → dg l (l.length - 1) ≠ 0) (hl : l.length ≤ L) : l = wrd n L k := by
  obtain ⟨a, b, c, d⟩ := stp_facts (digs L (num n L k)) (digs_ds _ _)
  rw [digs_len] at d
  show l = stp (digs L (num n L k))
  exact val_inj 12 _ _ hd a (by omega) (by omega) hz c (by rw [hv 12, b 12])
theorem wrd_lex {n L k : Nat} (hk : k + 1 < n) (h : n < 26 ^ L) (hL : L ≤ 12) : lex (wrd n L k) (wrd n L (k + 1)) = true := by
  have a := wrd_pw (k := k) (by omega : k < n) h hL
  have b := wrd_pw (k := k + 1) hk h hL
  rw [lex_iff (N := 12) a.1 b.1 (by omega) (by omega), wrd_val (by omega) hL, wrd_val hk hL]
  exact decide_eq_true (Nat.mul_lt_mul_of_pos_right (num_mono h) (Nat.pow_pos (by decide)))
end M78

namespace Lw
open PySem PySem.Spec PyProof.Rows L2 Pd
/-! printed by gen.py: the text's defs -/
def topS (i : Nat) : Stmt := PySem.Challenge.pw_listworks_k78_words_that_are_spread.main.body.getD i (.Pass ⟨0, 0, 0, 0⟩)
abbrev s_is_word : Stmt := topS 3
abbrev n_is_word : List Str := ["text", "sign"]
abbrev p_is_word : List Str := ["text"]
theorem sc_is_word : FnScope n_is_word p_is_word (defScope s_is_word) := ⟨rfl, rfl, rfl, by decide +kernel, rfl, by decide +kernel, by decide +kernel⟩
abbrev s_all_strings : Stmt := topS 4
abbrev n_all_strings : List Str := ["length", "found", "turn"]
abbrev p_all_strings : List Str := ["length"]
theorem sc_all_strings : FnScope n_all_strings p_all_strings (defScope s_all_strings) := ⟨rfl, rfl, rfl, by decide +kernel, rfl, by decide +kernel, by decide +kernel⟩
abbrev s_value_of : Stmt := topS 5
abbrev n_value_of : List Str := ["text", "length", "found", "sign"]
abbrev p_value_of : List Str := ["text", "length"]
theorem sc_value_of : FnScope n_value_of p_value_of (defScope s_value_of) := ⟨rfl, rfl, rfl, by decide +kernel, rfl, by decide +kernel, by decide +kernel⟩
abbrev s_string_of : Stmt := topS 6
abbrev n_string_of : List Str := ["value", "length", "found", "turn"]
abbrev p_string_of : List Str := ["value", "length"]
theorem sc_string_of : FnScope n_string_of p_string_of (defScope s_string_of) := ⟨rfl, rfl, rfl, by decide +kernel, rfl, by decide +kernel, by decide +kernel⟩
abbrev s_first_above : Stmt := topS 7
abbrev n_first_above : List Str := ["word", "length", "value"]
abbrev p_first_above : List Str := ["word", "length"]
theorem sc_first_above : FnScope n_first_above p_first_above (defScope s_first_above) := ⟨rfl, rfl, rfl, by decide +kernel, rfl, by decide +kernel, by decide +kernel⟩
abbrev s_first_between : Stmt := topS 8
abbrev n_first_between : List Str := ["one", "other", "length", "found"]
abbrev p_first_between : List Str := ["one", "other"]
theorem sc_first_between : FnScope n_first_between p_first_between (defScope s_first_between) := ⟨rfl, rfl, rfl, by decide +kernel, rfl, by decide +kernel, by decide +kernel⟩
abbrev s_spread_words : Stmt := topS 9
abbrev n_spread_words : List Str := ["number", "length", "strings", "found", "turn"]
abbrev p_spread_words : List Str := ["number"]
theorem sc_spread_words : FnScope n_spread_words p_spread_words (defScope s_spread_words) := ⟨rfl, rfl, rfl, by decide +kernel, rfl, by decide +kernel, by decide +kernel⟩
abbrev s_need_word : Stmt := topS 15
abbrev n_need_word : List Str := ["word"]
abbrev p_need_word : List Str := ["word"]
theorem sc_need_word : FnScope n_need_word p_need_word (defScope s_need_word) := ⟨rfl, rfl, rfl, by decide +kernel, rfl, by decide +kernel, by decide +kernel⟩
abbrev s_word_between : Stmt := topS 16
abbrev n_word_between : List Str := ["one", "other"]
abbrev p_word_between : List Str := ["one", "other"]
theorem sc_word_between : FnScope n_word_between p_word_between (defScope s_word_between) := ⟨rfl, rfl, rfl, by decide +kernel, rfl, by decide +kernel, by decide +kernel⟩
abbrev s_spread : Stmt := topS 17
abbrev n_spread : List Str := ["number"]
abbrev p_spread : List Str := ["number"]
theorem sc_spread : FnScope n_spread p_spread (defScope s_spread) := ⟨rfl, rfl, rfl, by decide +kernel, rfl, by decide +kernel, by decide +kernel⟩
abbrev s__law_pool : Stmt := topS 19
abbrev n__law_pool : List Str := ["script"]
abbrev p__law_pool : List Str := ["script"]
theorem sc__law_pool : FnScope n__law_pool p__law_pool (defScope s__law_pool) := ⟨rfl, rfl, rfl, by decide +kernel, rfl, by decide +kernel, by decide +kernel⟩
abbrev s__law_take : Stmt := topS 20
abbrev n__law_take : List Str := ["pool", "many", "digit", "cell", "rest", "mixed"]
abbrev p__law_take : List Str := ["pool", "many"]
theorem sc__law_take : FnScope n__law_take p__law_take (defScope s__law_take) := ⟨rfl, rfl, rfl, by decide +kernel, rfl, by decide +kernel, by decide +kernel⟩
abbrev s__law_same : Stmt := topS 21
abbrev n__law_same : List Str := ["one", "other"]
abbrev p__law_same : List Str := ["one", "other"]
theorem sc__law_same : FnScope n__law_same p__law_same (defScope s__law_same) := ⟨rfl, rfl, rfl, by decide +kernel, rfl, by decide +kernel, by decide +kernel⟩
abbrev s__law_word_of : Stmt := topS 22
abbrev n__law_word_of : List Str := ["number", "length", "found", "k"]
abbrev p__law_word_of : List Str := ["number", "length"]
theorem sc__law_word_of : FnScope n__law_word_of p__law_word_of (defScope s__law_word_of) := ⟨rfl, rfl, rfl, by decide +kernel, rfl, by decide +kernel, by decide +kernel⟩
abbrev s__law_power : Stmt := topS 23
abbrev n__law_power : List Str := ["one", "many", "found", "turn"]
abbrev p__law_power : List Str := ["one", "many"]
theorem sc__law_power : FnScope n__law_power p__law_power (defScope s__law_power) := ⟨rfl, rfl, rfl, by decide +kernel, rfl, by decide +kernel, by decide +kernel⟩
abbrev s__law_error : Stmt := topS 24
abbrev n__law_error : List Str := ["number", "caught", "e"]
abbrev p__law_error : List Str := ["number"]
theorem sc__law_error : FnScope n__law_error p__law_error (defScope s__law_error) := ⟨rfl, rfl, rfl, by decide +kernel, rfl, by decide +kernel, by decide +kernel⟩
abbrev s_law : Stmt := topS 25
abbrev n_law : List Str := ["script", "pool", "turn", "number", "length", "top", "due", "found", "at", "middle", "wrong", "caught", "k", "word"]
abbrev p_law : List Str := ["script"]
theorem sc_law : FnScope n_law p_law (defScope s_law) := ⟨rfl, rfl, rfl, by decide +kernel, rfl, by decide +kernel, by decide +kernel⟩
/-- the text's errors: which clause takes which -/
structure ErrF (K : PySem.W.Frag) : Prop where
  s_InvalidNumber_InvalidNumber : SubIs K "InvalidNumber" "InvalidNumber" true
  s_InvalidNumber_InvalidWord : SubIs K "InvalidNumber" "InvalidWord" false
  s_InvalidNumber_WindowError : SubIs K "InvalidNumber" "WindowError" true
  i_InvalidNumber_InvalidNumber : IsOf K "InvalidNumber" "InvalidNumber" true
  i_InvalidNumber_InvalidWord : IsOf K "InvalidNumber" "InvalidWord" false
  i_InvalidNumber_WindowError : IsOf K "InvalidNumber" "WindowError" true
  v_InvalidNumber : ErrV K "InvalidNumber"
  x_InvalidNumber : ErrI K "InvalidNumber"
  s_InvalidWord_InvalidNumber : SubIs K "InvalidWord" "InvalidNumber" false
  s_InvalidWord_InvalidWord : SubIs K "InvalidWord" "InvalidWord" true
  s_InvalidWord_WindowError : SubIs K "InvalidWord" "WindowError" true
  i_InvalidWord_InvalidNumber : IsOf K "InvalidWord" "InvalidNumber" false
  i_InvalidWord_InvalidWord : IsOf K "InvalidWord" "InvalidWord" true
  i_InvalidWord_WindowError : IsOf K "InvalidWord" "WindowError" true
  v_InvalidWord : ErrV K "InvalidWord"
  x_InvalidWord : ErrI K "InvalidWord"
/-! what each def is worth -/
open M77 (val dg digs Ds Pw lex First cand)
open M78 (stp num wrd isL)
/-- the text of a word -/
def S (l : List Nat) : Str := ⟨(l.map (· + 97)).toArray⟩
def wd : Option (List Nat) → PyData
  | none => .none
  | some l => .str (S l)
def low : Option (List Nat) → List Nat
  | none => []
  | some l => l
def top : Option (List Nat) → Nat
  | none => 26 ^ 12
  | some l => val 12 l
def okw (o : Option (List Nat)) : Prop := ∀ l, o = some l → Pw l ∧ l.length ≤ 11
def isW (x : Str) : Bool := decide (x.cps.toList ≠ []) && (x.cps.toList.all (fun c => decide (97 ≤ c ∧ c ≤ 122)) && decide (x.cps.toList.getLast? ≠ some 97))
def txt (x : Str) : Prop := (∀ c ∈ x.cps.toList, c < 128) ∧ x.length ≤ 100
def F_is_word : FS := fun ws μ R => ∃ x, ws = [.d (.str x)] ∧ txt x ∧ R (.d (.bool (isW x))) μ
def F_all_strings : FS := fun ws μ R => ∃ n : Nat, ws = [.d (.int (n : Int))] ∧ n ≤ 30 ∧ R (.d (.int ((26 ^ n : Nat) : Int))) μ
def F_value_of : FS := fun ws μ R => ∃ (l : List Nat) (n : Nat), ws = [.d (.str (S l)), .d (.int (n : Int))] ∧ Ds l ∧ l.length ≤ 30 ∧ n ≤ 30 ∧ R (.d (.int ((val n l : Nat) : Int))) μ
def F_string_of : FS := fun ws μ R => ∃ v n : Nat, ws = [.d (.int (v : Int)), .d (.int (n : Int))] ∧ n ≤ 30 ∧ R (.d (.str (S (digs n v)))) μ
def F_first_above : FS := fun ws μ R => ∃ o, ∃ n : Nat, ws = [.d (wd o), .d (.int (n : Int))] ∧ okw o ∧ n ≤ 30 ∧ R (.d (if cand (low o) n < 26 ^ n then .str (S (digs n (cand (low o) n))) else .none)) μ
def F_first_between : FS := fun ws μ R => ∃ o p, ∃ L : Nat, ws = [.d (wd o), .d (wd p)] ∧ okw o ∧ okw p ∧ First (low o) (top p) L ∧ R (.d (.str (S (digs L (val L (low o) + 1))))) μ
def F_need_word : FX := fun ws μ R E => (ws = [.d .none] ∧ R (.d .none) μ) ∨ (∃ x, ws = [.d (.str x)] ∧ txt x ∧ (isW x = true → R (.d .none) μ) ∧ (isW x = false → E "InvalidWord" (.d (.str x)) μ))
/-- two words, wrong in one of three ways: what the error tells -/
def Wrong (ws : List W) (v : Str) : Prop := (∃ y, ws = [.d (.str v), .d y] ∧ txt v ∧ isW v = false) ∨ (∃ o, ws = [.d (wd o), .d (.str v)] ∧ okw o ∧ txt v ∧ isW v = false) ∨
  (∃ l m, ws = [.d (.str (S l)), .d (.str v)] ∧ v = S m ∧ okw (some l) ∧ okw (some m) ∧ lex l m = false)
def F_word_between : FX := fun ws μ R E => (∃ v, Wrong ws v ∧ E "InvalidWord" (.d (.str v)) μ) ∨
  (∃ o p, ∃ L : Nat, ws = [.d (wd o), .d (wd p)] ∧ okw o ∧ okw p ∧ (∀ l m, o = some l → p = some m → lex l m = true) ∧ First (low o) (top p) L ∧ R (.d (.str (S (digs L (val L (low o) + 1))))) μ)
/-- the list that is drawn from, at k; its numbers at j -/
def Pl (j k n : Nat) (μ : Mu) : Prop := ∃ (ns : List Int) (a b c : Int), μ[j]? = some (some (.lst (wInts ns))) ∧ μ[k]? = some (some (.lst [.m j, .d (.int a), .d (.int b), .d (.int c)])) ∧ j ≠ k ∧ ns.length ≤ 63 ∧ 0 ≤ a ∧ 0 ≤ b ∧ b < 2147483647 ∧ 0 ≤ c ∧ c ≤ n
def Nx (j k : Nat) (μ μ' : Mu) : Prop := μ'.length = μ.length ∧ ∀ i, i ≠ j → i ≠ k → μ'[i]? = μ[i]?
def F__law_pool : FS := fun ws μ R => ∃ ns, ws = [.f (wInts ns)] ∧ ns.length ≤ 63 ∧ ∀ μ', Pl μ.length (μ.length + 1) 0 μ' → (∃ c d, μ' = μ ++ [c, d]) → R (.m (μ.length + 1)) μ'
def F__law_take : FS := fun ws μ R => ∃ j k n, ∃ many : Int, ws = [.m k, .d (.int many)] ∧ Pl j k n μ ∧ n ≤ 1000000 ∧ 0 < many ∧ many < 1000000 ∧ ∀ r μ', 0 ≤ r → r < many → Pl j k (n + 1) μ' → Nx j k μ μ' → R (.d (.int r)) μ'
def F__law_word_of : FS := fun ws μ R => ∃ v n : Nat, ws = [.d (.int (v : Int)), .d (.int (n : Int))] ∧ n ≤ 12 ∧ ∀ l, Ds l → (∀ N, val N l = val N (digs n v)) → (0 < l.length → dg l (l.length - 1) ≠ 0) → l.length ≤ n → (v % 26 ≠ 0 → 0 < n → l = digs n v) → R (.d (.str (S l))) μ
def F__law_power : FS := fun ws μ R => ∃ n : Nat, ws = [.d (.int 26), .d (.int (n : Int))] ∧ n ≤ 30 ∧ R (.d (.int ((26 ^ n : Nat) : Int))) μ
def most (o p : Option (List Nat)) : Nat := max ((low o).length + 1) ((low p).length + 1)
/-- the words that are spread -/
def wls (n L : Nat) : List PyData := (List.range n).map fun i => .str (S (wrd n L i))
def F_spread_words : FS := fun ws μ R => ∃ n : Nat, ws = [.d (.int (n : Int))] ∧ n ≤ 900 ∧ ∀ L, isL n L → R (.m μ.length) (μ ++ [some (.lst ((wls n L).map W.d))])
def F_spread : FX := fun ws μ R E => ∃ n : Int, ws = [.d (.int n)] ∧ n ≤ 900 ∧ (n < 0 → E "InvalidNumber" (.d (.int n)) μ) ∧ (∀ v : Nat, n = (v : Int) → ∀ L, isL v L → R (.m μ.length) (μ ++ [some (.lst ((wls v L).map W.d))]))
def F__law_same : FS := fun ws μ R => ∃ x y, ws = [x, y] ∧ ∃ d, Rs μ x d ∧ Rs μ y d ∧ SeqAt.shaped d = true ∧ Shw d ∧ R (.d (.bool true)) μ
def F__law_error : FS := fun ws μ R => ∃ n : Int, ws = [.d (.int n)] ∧ n < 0 ∧ ∀ d, R (.m (μ.length + 1)) (μ ++ [some (.xd d (.d (.int n))), some (.er "InvalidNumber" d)])
def F_law : FS := fun ws μ R => ∃ ns, ws = [.f (wInts ns)] ∧ ns.length ≤ 63 ∧ R (.d (.bool true)) μ
def t_is_word (K : PySem.W.Frag) : TS := (tRet (tAndT K (tOp (rNeU K) (tVar 0) (tC (.str ""))) (tAndT K (tCB (rAll K) (tCons (tLc (iSeq K (tVar 0)) (gName 1) tYes (tOp (rInU K false) (tVar 1) (tC (.str "abcdefghijklmnopqrstuvwxyz"))) [1]) tNil)) (tOp (rNeU K) (tOp (rIx K) (tVar 0) (tUn (rU fun i => .int (-i)) (tC (.int 1)))) (tC (.str "a"))))))
theorem dv_is_word {P : Program} {w : World} {K : PySem.W.Frag} {mg : Str → Option Value} {base : Heap} {f : Addr} {cdv : Value} {A : Around} {outer : List Env} {s : Shared} {H : Hp} {E : XK}
    (hr : Room 0 (A.deeper (envOfC "is_word" (defScope s_is_word) s.heap.objs.size f cdv)))
    (hgd : (A.deeper (envOfC "is_word" (defScope s_is_word) s.heap.objs.size f cdv)).guards = some [])
    (n_all : mg "all" = none)
    (m_LETTERS : Cst mg "LETTERS" (.str "abcdefghijklmnopqrstuvwxyz")) :
    PSs (cxOf CX0 P w K mg base n_is_word "is_word" (defScope s_is_word) f cdv A outer s H E).nox (defBody s_is_word) (t_is_word K) := by
  have S := sc_is_word
  have hu : (A.deeper (envOfC "is_word" (defScope s_is_word) s.heap.objs.size f cdv)).units + 64 < cLine := by have := hr.un; omega
  exact (pss_one (ps_ret (pe_andT (pe_cmpR (op_neU hu) (pv 0) pe_str (nomark _)) (pe_andT (pe_callB (cr_all rfl) (by rfl) n_all (by decide +kernel) (pa_cons (pe_lc (own := [("sign", 1)]) (g := (gName 1)) (tt := tYes) rfl S.nd (pi_seq (pv 0)) (blkOk_by (N := n_is_word) (sc := defScope s_is_word) (by decide +kernel)) (fun _ _ _ _ _ => (pg_name (i := 1) S.nd rfl (.inl rfl))) (fun _ _ _ _ _ => pts_nil) (fun _ _ _ _ _ => (pe_cmpR op_inU (pv 1) (pe_con0 m_LETTERS (by rfl)) (by rfl)))) pa_nil)) (pe_one (pe_cmpR (op_neU hu) (pe_ix ix_seq (pv 0) (pe_un un_neg pe_int) (fun _ _ => rfl)) pe_str (nomark _)))))))
def t_all_strings (K : PySem.W.Frag) : TS := (tSeq (tAsg (tC (.int 1)) (gName 1))
    (tSeq (tFor (iRng1 (tCons (tVar 0) tNil)) (gName 2) (tAug 1 (tC (.int 26)) rMulI))
    (tRet (tVar 1))))
theorem dv_all_strings {P : Program} {w : World} {K : PySem.W.Frag} {mg : Str → Option Value} {base : Heap} {f : Addr} {cdv : Value} {A : Around} {outer : List Env} {s : Shared} {H : Hp} {E : XK}
    (hr : Room 0 (A.deeper (envOfC "all_strings" (defScope s_all_strings) s.heap.objs.size f cdv)))
    (hgd : (A.deeper (envOfC "all_strings" (defScope s_all_strings) s.heap.objs.size f cdv)).guards = some [])
    (n_range : mg "range" = none)
    (m_BASE : Cst mg "BASE" (.int 26)) :
    PSs (cxOf CX0 P w K mg base n_all_strings "all_strings" (defScope s_all_strings) f cdv A outer s H E).nox (defBody s_all_strings) (t_all_strings K) := by
  have S := sc_all_strings
  have hu : (A.deeper (envOfC "all_strings" (defScope s_all_strings) s.heap.objs.size f cdv)).units + 64 < cLine := by have := hr.un; omega
  exact (pss_cons (ps_asg pe_int (pg_name (i := 1) S.nd rfl (.inl rfl)))
      (pss_cons (ps_for PassesOwn.never rfl (pi_range1 (by rfl) n_range (pa_cons (pv 0) pa_nil)) (pg_name (i := 2) S.nd rfl (.inl rfl)) (pss_one (ps_aug (i := 1) S.nd rfl (.inl rfl) (pe_con0 m_BASE (by rfl)) iop_mulU)))
      (pss_one (ps_ret (pv 1)))))
def t_value_of (K : PySem.W.Frag) : TS := (tSeq (tAsg (tC (.int 0)) (gName 2))
    (tSeq (tFor (iSeq K (tSl (rSlU K) (tOp (rAddU K) (tVar 0) (tOp rMulV (tC (.str "a")) (tVar 1))) tNoPart (tPart (tVar 1)))) (gName 3) (tAsg (tOp (rAddU K) (tOp rMulV (tVar 2) (tC (.int 26))) (tBM K "str" (rSindex) (tC (.str "abcdefghijklmnopqrstuvwxyz")) (tCons (tVar 3) tNil))) (gName 2)))
    (tRet (tVar 2))))
theorem dv_value_of {P : Program} {w : World} {K : PySem.W.Frag} {mg : Str → Option Value} {base : Heap} {f : Addr} {cdv : Value} {A : Around} {outer : List Env} {s : Shared} {H : Hp} {E : XK}
    (hr : Room 0 (A.deeper (envOfC "value_of" (defScope s_value_of) s.heap.objs.size f cdv)))
    (hgd : (A.deeper (envOfC "value_of" (defScope s_value_of) s.heap.objs.size f cdv)).guards = some [])
    (m_BASE : Cst mg "BASE" (.int 26))
    (m_LETTERS : Cst mg "LETTERS" (.str "abcdefghijklmnopqrstuvwxyz")) :
    PSs (cxOf CX0 P w K mg base n_value_of "value_of" (defScope s_value_of) f cdv A outer s H E).nox (defBody s_value_of) (t_value_of K) := by
  have S := sc_value_of
  have hu : (A.deeper (envOfC "value_of" (defScope s_value_of) s.heap.objs.size f cdv)).units + 64 < cLine := by have := hr.un; omega
  exact (pss_cons (ps_asg pe_int (pg_name (i := 2) S.nd rfl (.inl rfl)))
      (pss_cons (ps_for PassesOwn.never rfl (pi_seq (pe_slice sl_U (pe_op op_addU (pv 0) (pe_op op_mulV pe_str (pv 1))) po_none (po_some (pv 1)))) (pg_name (i := 3) S.nd rfl (.inl rfl)) (pss_one (ps_asg (pe_op op_addU (pe_op op_mulV (pv 2) (pe_con0 m_BASE (by rfl))) (pe_bm PySem.F.plainAttrs_str PySem.F.slot_str_index PySem.F.type_str_index mt_sindexU (pe_con0 m_LETTERS (by rfl)) (pa_cons (pv 3) pa_nil))) (pg_name (i := 2) S.nd rfl (.inl rfl)))))
      (pss_one (ps_ret (pv 2)))))
def t_string_of (K : PySem.W.Frag) : TS := (tSeq (tAsg (tC (.str "")) (gName 2))
    (tSeq (tFor (iRng1 (tCons (tVar 1) tNil)) (gName 3) (tSeq (tAsg (tOp (rAddU K) (tOp (rIx K) (tC (.str "abcdefghijklmnopqrstuvwxyz")) (tOp rModI (tVar 0) (tC (.int 26)))) (tVar 2)) (gName 2))
    (tAug 0 (tC (.int 26)) (rI CDiv fun i j => .int (i / j)))))
    (tRet (tVar 2))))
theorem dv_string_of {P : Program} {w : World} {K : PySem.W.Frag} {mg : Str → Option Value} {base : Heap} {f : Addr} {cdv : Value} {A : Around} {outer : List Env} {s : Shared} {H : Hp} {E : XK}
    (hr : Room 0 (A.deeper (envOfC "string_of" (defScope s_string_of) s.heap.objs.size f cdv)))
    (hgd : (A.deeper (envOfC "string_of" (defScope s_string_of) s.heap.objs.size f cdv)).guards = some [])
    (n_range : mg "range" = none)
    (m_BASE : Cst mg "BASE" (.int 26))
    (m_LETTERS : Cst mg "LETTERS" (.str "abcdefghijklmnopqrstuvwxyz")) :
    PSs (cxOf CX0 P w K mg base n_string_of "string_of" (defScope s_string_of) f cdv A outer s H E).nox (defBody s_string_of) (t_string_of K) := by
  have S := sc_string_of
  have hu : (A.deeper (envOfC "string_of" (defScope s_string_of) s.heap.objs.size f cdv)).units + 64 < cLine := by have := hr.un; omega
  exact (pss_cons (ps_asg pe_str (pg_name (i := 2) S.nd rfl (.inl rfl)))
      (pss_cons (ps_for PassesOwn.never rfl (pi_range1 (by rfl) n_range (pa_cons (pv 1) pa_nil)) (pg_name (i := 3) S.nd rfl (.inl rfl)) (pss_cons (ps_asg (pe_op op_addU (pe_ix ix_seq (pe_con0 m_LETTERS (by rfl)) (pe_op op_modU (pv 0) (pe_con0 m_BASE (by rfl))) (fun _ _ => rfl)) (pv 2)) (pg_name (i := 2) S.nd rfl (.inl rfl)))
      (pss_one (ps_aug (i := 0) S.nd rfl (.inl rfl) (pe_con0 m_BASE (by rfl)) iop_divU))))
      (pss_one (ps_ret (pv 2)))))
def t_first_above (K : PySem.W.Frag) : TS := (tSeq (tAsg (tIf (tTest (tOp (rIsU false) (tVar 0) (tC .non))) (tC (.int 0)) (tCallS (spD K F_value_of) Ez (tCons (tVar 0) (tCons (tVar 1) tNil)))) (gName 2))
    (tSeq (tAug 2 (tIf (tTest (tOp (rEqU K) (tOp rModI (tVar 2) (tC (.int 26))) (tOp rSubI (tC (.int 26)) (tC (.int 1))))) (tC (.int 2)) (tC (.int 1))) (fun x y H Q => rAddI x y H Q ∨ rAddS x y H Q))
    (tRet (tIf (tTest (tOp rLtU (tVar 2) (tCallS (spD K F_all_strings) Ez (tCons (tVar 1) tNil)))) (tCallS (spD K F_string_of) Ez (tCons (tVar 2) (tCons (tVar 1) tNil))) (tC .non)))))
theorem dv_first_above {P : Program} {w : World} {K : PySem.W.Frag} {mg : Str → Option Value} {base : Heap} {f : Addr} {cdv : Value} {A : Around} {outer : List Env} {s : Shared} {H : Hp} {E : XK}
    (hr : Room 1 (A.deeper (envOfC "first_above" (defScope s_first_above) s.heap.objs.size f cdv)))
    (hgd : (A.deeper (envOfC "first_above" (defScope s_first_above) s.heap.objs.size f cdv)).guards = some [])
    (h_all_strings : HasG P w K mg base CX0 "all_strings" p_all_strings 1 (spD K F_all_strings))
    (h_string_of : HasG P w K mg base CX0 "string_of" p_string_of 1 (spD K F_string_of))
    (h_value_of : HasG P w K mg base CX0 "value_of" p_value_of 1 (spD K F_value_of))
    (m_BASE : Cst mg "BASE" (.int 26)) :
    PSs (cxOf CX0 P w K mg base n_first_above "first_above" (defScope s_first_above) f cdv A outer s H E).nox (defBody s_first_above) (t_first_above K) := by
  have S := sc_first_above
  have hu : (A.deeper (envOfC "first_above" (defScope s_first_above) s.heap.objs.size f cdv)).units + 64 < cLine := by have := hr.un; omega
  exact (pss_cons (ps_asg (pe_ifExp (pt_cmpR op_isU (pv 0) pe_non (nomark _)) pe_int (pe_hG h_value_of (hr.mono (by decide)) hgd pz0 (pa_cons (pv 0) (pa_cons (pv 1) pa_nil)))) (pg_name (i := 2) S.nd rfl (.inl rfl)))
      (pss_cons (ps_aug (i := 2) S.nd rfl (.inl rfl) (pe_ifExp (pt_cmpR (op_eqU hu) (pe_op op_modU (pv 2) (pe_con0 m_BASE (by rfl))) (pe_op op_subU (pe_con0 m_BASE (by rfl)) pe_int) (nomark _)) pe_int pe_int) iop_addU)
      (pss_one (ps_ret (pe_ifExp (pt_cmpR op_ltU (pv 2) (pe_hG h_all_strings (hr.mono (by decide)) hgd pz0 (pa_cons (pv 1) pa_nil)) (nomark _)) (pe_hG h_string_of (hr.mono (by decide)) hgd pz0 (pa_cons (pv 2) (pa_cons (pv 1) pa_nil))) pe_non)))))
def t_first_between (K : PySem.W.Frag) : TS := (tSeq (tAsg (tC (.int 1)) (gName 2))
    (tSeq (tAsg (tCallS (spD K F_first_above) Ez (tCons (tVar 0) (tCons (tVar 2) tNil))) (gName 3))
    (tSeq (tWhile (tOr (tTest (tOp (rIsU false) (tVar 3) (tC .non))) (tAnd (tTest (tOp (rIsU true) (tVar 1) (tC .non))) (tTest (tOp rGeV (tVar 3) (tVar 1))))) (tSeq (tAug 2 (tC (.int 1)) (fun x y H Q => rAddI x y H Q ∨ rAddS x y H Q))
    (tAsg (tCallS (spD K F_first_above) Ez (tCons (tVar 0) (tCons (tVar 2) tNil))) (gName 3))))
    (tRet (tVar 3)))))
theorem dv_first_between {P : Program} {w : World} {K : PySem.W.Frag} {mg : Str → Option Value} {base : Heap} {f : Addr} {cdv : Value} {A : Around} {outer : List Env} {s : Shared} {H : Hp} {E : XK}
    (hr : Room 2 (A.deeper (envOfC "first_between" (defScope s_first_between) s.heap.objs.size f cdv)))
    (hgd : (A.deeper (envOfC "first_between" (defScope s_first_between) s.heap.objs.size f cdv)).guards = some [])
    (h_first_above : HasG P w K mg base CX0 "first_above" p_first_above 2 (spD K F_first_above)) :
    PSs (cxOf CX0 P w K mg base n_first_between "first_between" (defScope s_first_between) f cdv A outer s H E).nox (defBody s_first_between) (t_first_between K) := by
  have S := sc_first_between
  have hu : (A.deeper (envOfC "first_between" (defScope s_first_between) s.heap.objs.size f cdv)).units + 64 < cLine := by have := hr.un; omega
  exact (pss_cons (ps_asg pe_int (pg_name (i := 2) S.nd rfl (.inl rfl)))
      (pss_cons (ps_asg (pe_hG h_first_above (hr.mono (by decide)) hgd pz0 (pa_cons (pv 0) (pa_cons (pv 2) pa_nil))) (pg_name (i := 3) S.nd rfl (.inl rfl)))
      (pss_cons (ps_while PassesOwn.never (PW.pt (pw_or (pt_cmpR op_isU (pv 3) pe_non (nomark _)) (pw_or1 (PW.pt (pw_and (pt_cmpR op_isnU (pv 1) pe_non (nomark _)) (pw_and1 (pt_cmpR op_geV (pv 3) (pv 1) (nomark _)))))))) (pss_cons (ps_aug (i := 2) S.nd rfl (.inl rfl) pe_int iop_addU)
      (pss_one (ps_asg (pe_hG h_first_above (hr.mono (by decide)) hgd pz0 (pa_cons (pv 0) (pa_cons (pv 2) pa_nil))) (pg_name (i := 3) S.nd rfl (.inl rfl))))))
      (pss_one (ps_ret (pv 3))))))
def t_spread_words (K : PySem.W.Frag) : TS := (tSeq (tAsg (tC (.int 0)) (gName 1))
    (tSeq (tWhile (tTest (tOp rLeV (tCallS (spD K F_all_strings) Ez (tCons (tVar 1) tNil)) (tVar 0))) (tAug 1 (tC (.int 1)) (fun x y H Q => rAddI x y H Q ∨ rAddS x y H Q)))
    (tSeq (tPar 2 3 (tCons (tCallS (spD K F_all_strings) Ez (tCons (tVar 1) tNil)) (tCons (tLst tNil) tNil)))
    (tSeq (tFor (iRng2 (tCons (tC (.int 1)) (tCons (tOp (rAddU K) (tVar 0) (tC (.int 1))) tNil))) (gName 4) (tDrop (tBM K "list" (rAppend) (tVar 3) (tCons (tBM K "str" (rRstrip) (tCallS (spD K F_string_of) Ez (tCons (tOp rDivI (tOp rMulV (tVar 4) (tVar 2)) (tOp (rAddU K) (tVar 0) (tC (.int 1)))) (tCons (tVar 1) tNil))) (tCons (tC (.str "a")) tNil)) tNil))))
    (tRet (tVar 3))))))
theorem dv_spread_words {P : Program} {w : World} {K : PySem.W.Frag} {mg : Str → Option Value} {base : Heap} {f : Addr} {cdv : Value} {A : Around} {outer : List Env} {s : Shared} {H : Hp} {E : XK}
    (hr : Room 1 (A.deeper (envOfC "spread_words" (defScope s_spread_words) s.heap.objs.size f cdv)))
    (hgd : (A.deeper (envOfC "spread_words" (defScope s_spread_words) s.heap.objs.size f cdv)).guards = some [])
    (h_all_strings : HasG P w K mg base CX0 "all_strings" p_all_strings 1 (spD K F_all_strings))
    (h_string_of : HasG P w K mg base CX0 "string_of" p_string_of 1 (spD K F_string_of))
    (n_range : mg "range" = none) :
    PSs (cxOf CX0 P w K mg base n_spread_words "spread_words" (defScope s_spread_words) f cdv A outer s H E).nox (defBody s_spread_words) (t_spread_words K) := by
  have S := sc_spread_words
  have hu : (A.deeper (envOfC "spread_words" (defScope s_spread_words) s.heap.objs.size f cdv)).units + 64 < cLine := by have := hr.un; omega
  exact (pss_cons (ps_asg pe_int (pg_name (i := 1) S.nd rfl (.inl rfl)))
      (pss_cons (ps_while PassesOwn.never (pt_cmpR op_leV (pe_hG h_all_strings (hr.mono (by decide)) hgd pz0 (pa_cons (pv 1) pa_nil)) (pv 0) (nomark _)) (pss_one (ps_aug (i := 1) S.nd rfl (.inl rfl) pe_int iop_addU)))
      (pss_cons (ps_par (i := 2) (j := 3) (by rfl) S.nd rfl rfl (by decide) rfl rfl (pa_cons (pe_hG h_all_strings (hr.mono (by decide)) hgd pz0 (pa_cons (pv 1) pa_nil)) (pa_cons (pe_lst pa_nil) pa_nil)) (by rfl))
      (pss_cons (ps_for PassesOwn.never rfl (pi_range2 (by rfl) n_range (pa_cons pe_int (pa_cons (pe_op op_addU (pv 0) pe_int) pa_nil))) (pg_name (i := 4) S.nd rfl (.inl rfl)) (pss_one (ps_expr (pe_bm PySem.F.plainAttrs_list PySem.F.slot_list_append PySem.F.type_list_append mt_append (pv 3) (pa_cons (pe_bm PySem.F.plainAttrs_str PySem.F.slot_str_rstrip PySem.F.type_str_rstrip mt_rstripU (pe_hG h_string_of (hr.mono (by decide)) hgd pz0 (pa_cons (pe_op op_divU (pe_op op_mulV (pv 4) (pv 2)) (pe_op op_addU (pv 0) pe_int)) (pa_cons (pv 1) pa_nil))) (pa_cons pe_str pa_nil)) pa_nil)))))
      (pss_one (ps_ret (pv 3)))))))
def t_need_word (K : PySem.W.Frag) (xw : L2.WX) : TS := (tIfS (tAnd (tTest (tOp (rIsU true) (tVar 0) (tC .non))) (tNot (tTru K (tCallS (spD K F_is_word) Ez (tCons (tVar 0) tNil))))) (tRaiseE K "InvalidWord" xw (tCons (tVar 0) tNil)) tNext)
theorem dv_need_word {P : Program} {w : World} {K : PySem.W.Frag} {mg : Str → Option Value} {base : Heap} {f : Addr} {cdv : Value} {A : Around} {outer : List Env} {s : Shared} {H : Hp} {E : XK}
    (hr : Room 1 (A.deeper (envOfC "need_word" (defScope s_need_word) s.heap.objs.size f cdv)))
    (hgd : (A.deeper (envOfC "need_word" (defScope s_need_word) s.heap.objs.size f cdv)).guards = some [])
    (h_is_word : HasG P w K mg base CX0 "is_word" p_is_word 1 (spD K F_is_word))
    (e_InvalidWord : IsErr P K mg "InvalidWord") :
    PSs (cxOf (L2.CX P w) P w K mg base n_need_word "need_word" (defScope s_need_word) f cdv A outer s H E) (defBody s_need_word) (t_need_word K fun c d _ H => E c d H) := by
  have S := sc_need_word
  have hu : (A.deeper (envOfC "need_word" (defScope s_need_word) s.heap.objs.size f cdv)).units + 64 < cLine := by have := hr.un; omega
  let xw : L2.WX := fun c d _ H => E c d H
  exact (pss_one (ps_if (PW.pt (pw_and (pt_cmpR op_isnU (pv 0) pe_non (nomark _)) (pw_and1 (pt_not (pt_tru (pe_hG h_is_word (hr.mono (by decide)) hgd pz0 (pa_cons (pv 0) pa_nil))))))) (pss_one (ps_raiseE rfl e_InvalidWord hr (takes_of rfl rfl rfl rfl) (pa_cons (pv 0) pa_nil))) pss_nil))
def t_word_between (K : PySem.W.Frag) (xw : L2.WX) : TS := (tSeq (tDrop (tCallS (spX K F_need_word) (WE xw) (tCons (tVar 0) tNil)))
    (tSeq (tDrop (tCallS (spX K F_need_word) (WE xw) (tCons (tVar 1) tNil)))
    (tSeq (tIfS (tAnd (tTest (tOp (rIsU true) (tVar 0) (tC .non))) (tAnd (tTest (tOp (rIsU true) (tVar 1) (tC .non))) (tTest (tOp rLeV (tVar 1) (tVar 0))))) (tRaiseE K "InvalidWord" xw (tCons (tVar 1) tNil)) tNext)
    (tRet (tCallS (spD K F_first_between) Ez (tCons (tVar 0) (tCons (tVar 1) tNil)))))))
theorem dv_word_between {P : Program} {w : World} {K : PySem.W.Frag} {mg : Str → Option Value} {base : Heap} {f : Addr} {cdv : Value} {A : Around} {outer : List Env} {s : Shared} {H : Hp} {E : XK}
    (hr : Room 3 (A.deeper (envOfC "word_between" (defScope s_word_between) s.heap.objs.size f cdv)))
    (hgd : (A.deeper (envOfC "word_between" (defScope s_word_between) s.heap.objs.size f cdv)).guards = some [])
    (h_first_between : HasG P w K mg base CX0 "first_between" p_first_between 3 (spD K F_first_between))
    (h_need_word : HasG P w K mg base (L2.CX P w) "need_word" p_need_word 2 (spX K F_need_word))
    (e_InvalidWord : IsErr P K mg "InvalidWord") :
    PSs (cxOf (L2.CX P w) P w K mg base n_word_between "word_between" (defScope s_word_between) f cdv A outer s H E) (defBody s_word_between) (t_word_between K fun c d _ H => E c d H) := by
  have S := sc_word_between
  have hu : (A.deeper (envOfC "word_between" (defScope s_word_between) s.heap.objs.size f cdv)).units + 64 < cLine := by have := hr.un; omega
  let xw : L2.WX := fun c d _ H => E c d H
  exact (pss_cons (ps_expr (pe_hG h_need_word (hr.mono (by decide)) hgd (fun σ => passAt (takes_of rfl rfl rfl rfl) σ) (pa_cons (pv 0) pa_nil)))
      (pss_cons (ps_expr (pe_hG h_need_word (hr.mono (by decide)) hgd (fun σ => passAt (takes_of rfl rfl rfl rfl) σ) (pa_cons (pv 1) pa_nil)))
      (pss_cons (ps_if (PW.pt (pw_and (pt_cmpR op_isnU (pv 0) pe_non (nomark _)) (pw_and (pt_cmpR op_isnU (pv 1) pe_non (nomark _)) (pw_and1 (pt_cmpR op_leV (pv 1) (pv 0) (nomark _)))))) (pss_one (ps_raiseE rfl e_InvalidWord hr (takes_of rfl rfl rfl rfl) (pa_cons (pv 1) pa_nil))) pss_nil)
      (pss_one (ps_ret (pe_hG h_first_between (hr.mono (by decide)) hgd pz0 (pa_cons (pv 0) (pa_cons (pv 1) pa_nil))))))))
def t_spread (K : PySem.W.Frag) (xw : L2.WX) : TS := (tSeq (tIfS (tTest (tOp rLtU (tVar 0) (tC (.int 0)))) (tRaiseE K "InvalidNumber" xw (tCons (tVar 0) tNil)) tNext)
    (tRet (tCallS (spD K F_spread_words) Ez (tCons (tVar 0) tNil))))
theorem dv_spread {P : Program} {w : World} {K : PySem.W.Frag} {mg : Str → Option Value} {base : Heap} {f : Addr} {cdv : Value} {A : Around} {outer : List Env} {s : Shared} {H : Hp} {E : XK}
    (hr : Room 2 (A.deeper (envOfC "spread" (defScope s_spread) s.heap.objs.size f cdv)))
    (hgd : (A.deeper (envOfC "spread" (defScope s_spread) s.heap.objs.size f cdv)).guards = some [])
    (h_spread_words : HasG P w K mg base CX0 "spread_words" p_spread_words 2 (spD K F_spread_words))
    (e_InvalidNumber : IsErr P K mg "InvalidNumber") :
    PSs (cxOf (L2.CX P w) P w K mg base n_spread "spread" (defScope s_spread) f cdv A outer s H E) (defBody s_spread) (t_spread K fun c d _ H => E c d H) := by
  have S := sc_spread
  have hu : (A.deeper (envOfC "spread" (defScope s_spread) s.heap.objs.size f cdv)).units + 64 < cLine := by have := hr.un; omega
  let xw : L2.WX := fun c d _ H => E c d H
  exact (pss_cons (ps_if (pt_cmpR op_ltU (pv 0) pe_int (nomark _)) (pss_one (ps_raiseE rfl e_InvalidNumber hr (takes_of rfl rfl rfl rfl) (pa_cons (pv 0) pa_nil))) pss_nil)
      (pss_one (ps_ret (pe_hG h_spread_words (hr.mono (by decide)) hgd pz0 (pa_cons (pv 0) pa_nil)))))
def t__law_pool (K : PySem.W.Frag) : TS := (tRet (tLst (tCons (tCB (rListU K) (tCons (tVar 0) tNil)) (tCons (tC (.int 0)) (tCons (tC (.int 70001)) (tCons (tC (.int 0)) tNil))))))
theorem dv__law_pool {P : Program} {w : World} {K : PySem.W.Frag} {mg : Str → Option Value} {base : Heap} {f : Addr} {cdv : Value} {A : Around} {outer : List Env} {s : Shared} {H : Hp} {E : XK}
    (hr : Room 0 (A.deeper (envOfC "_law_pool" (defScope s__law_pool) s.heap.objs.size f cdv)))
    (hgd : (A.deeper (envOfC "_law_pool" (defScope s__law_pool) s.heap.objs.size f cdv)).guards = some [])
    (n_list : mg "list" = none) :
    PSs (cxOf CX0 P w K mg base n__law_pool "_law_pool" (defScope s__law_pool) f cdv A outer s H E).nox (defBody s__law_pool) (t__law_pool K) := by
  have S := sc__law_pool
  have hu : (A.deeper (envOfC "_law_pool" (defScope s__law_pool) s.heap.objs.size f cdv)).units + 64 < cLine := by have := hr.un; omega
  exact (pss_one (ps_ret (pe_lst (pa_cons (pe_callTy call_listU (by rfl) n_list (by decide +kernel) (pa_cons (pv 0) pa_nil)) (pa_cons pe_int (pa_cons pe_int (pa_cons pe_int pa_nil)))))))
def t__law_take (K : PySem.W.Frag) : TS := (tSeq (tIfS (tTest (tOp rGtV (tOp (rIx K) (tVar 0) (tC (.int 1))) (tC (.int 0)))) (tSeq (tAsg (tOp rModI (tCB (rIntU) (tCons (tOp (rIx K) (tVar 0) (tC (.int 1))) tNil)) (tVar 1)) (gName 2))
    (tSeq (tAsg (tOp rDivI (tOp (rIx K) (tVar 0) (tC (.int 1))) (tVar 1)) (gSub (tVar 0) (tC (.int 1)) rSetL))
    (tRet (tVar 2)))) tNext)
    (tSeq (tAsg (tOp (rAddU K) (tOp (rIx K) (tVar 0) (tC (.int 3))) (tC (.int 1))) (gSub (tVar 0) (tC (.int 3)) rSetL))
    (tSeq (tAsg (tC (.int 0)) (gName 3))
    (tSeq (tIfS (tTest (tOp (rNeU K) (tOp (rIx K) (tVar 0) (tC (.int 0))) (tLst tNil))) (tSeq (tAsg (tBM K "list" (rPopU) (tOp (rIx K) (tVar 0) (tC (.int 0))) (tCons (tC (.int 0)) tNil)) (gName 3))
    (tIfS (tTest (tOp rGeV (tVar 3) (tOp rPowI (tC (.int 10)) (tC (.int 18))))) (tSeq (tAsg (tOp rSubI (tVar 3) (tOp rPowI (tC (.int 10)) (tC (.int 18)))) (gName 4))
    (tSeq (tAsg (tOp rDivI (tVar 4) (tVar 1)) (gSub (tVar 0) (tC (.int 1)) rSetL))
    (tRet (tOp rModI (tCB (rIntU) (tCons (tVar 4) tNil)) (tVar 1))))) tNext)) tNext)
    (tSeq (tAsg (tOp rModI (tCB (rIntU) (tCons (tOp (rAddU K) (tOp (rAddU K) (tOp (rAddU K) (tOp rMulV (tOp (rIx K) (tVar 0) (tC (.int 2))) (tC (.int 48271))) (tOp rModI (tCB (rIntU) (tCons (tVar 3) tNil)) (tC (.int 2147483579)))) (tOp rMulV (tOp rMulV (tC (.int 13)) (tOp (rIx K) (tVar 0) (tC (.int 3)))) (tOp (rIx K) (tVar 0) (tC (.int 3))))) (tC (.int 1))) tNil)) (tC (.int 2147483543))) (gName 5))
    (tSeq (tAsg (tOp rModI (tCB (rIntU) (tCons (tOp (rAddU K) (tOp (rAddU K) (tOp rMulV (tVar 5) (tVar 5)) (tOp rMulV (tC (.int 16807)) (tVar 5))) (tC (.int 29))) tNil)) (tC (.int 2147483497))) (gSub (tVar 0) (tC (.int 2)) rSetL))
    (tRet (tOp rModI (tOp rDivI (tOp (rIx K) (tVar 0) (tC (.int 2))) (tC (.int 53))) (tVar 1)))))))))
theorem dv__law_take {P : Program} {w : World} {K : PySem.W.Frag} {mg : Str → Option Value} {base : Heap} {f : Addr} {cdv : Value} {A : Around} {outer : List Env} {s : Shared} {H : Hp} {E : XK}
    (hr : Room 0 (A.deeper (envOfC "_law_take" (defScope s__law_take) s.heap.objs.size f cdv)))
    (hgd : (A.deeper (envOfC "_law_take" (defScope s__law_take) s.heap.objs.size f cdv)).guards = some [])
    (n_int : mg "int" = none) :
    PSs (cxOf CX0 P w K mg base n__law_take "_law_take" (defScope s__law_take) f cdv A outer s H E).nox (defBody s__law_take) (t__law_take K) := by
  have S := sc__law_take
  have hu : (A.deeper (envOfC "_law_take" (defScope s__law_take) s.heap.objs.size f cdv)).units + 64 < cLine := by have := hr.un; omega
  exact (pss_cons (ps_if (pt_cmpR op_gtV (pe_ix ix_seq (pv 0) pe_int (fun _ _ => rfl)) pe_int (nomark _)) (pss_cons (ps_asg (pe_op op_modU (pe_callTy call_intU (by rfl) n_int (by decide +kernel) (pa_cons (pe_ix ix_seq (pv 0) pe_int (fun _ _ => rfl)) pa_nil)) (pv 1)) (pg_name (i := 2) S.nd rfl (.inl rfl)))
      (pss_cons (ps_asg (pe_op op_divU (pe_ix ix_seq (pv 0) pe_int (fun _ _ => rfl)) (pv 1)) (pg_sub (pv 0) pe_int set_list))
      (pss_one (ps_ret (pv 2))))) pss_nil)
      (pss_cons (ps_asg (pe_op op_addU (pe_ix ix_seq (pv 0) pe_int (fun _ _ => rfl)) pe_int) (pg_sub (pv 0) pe_int set_list))
      (pss_cons (ps_asg pe_int (pg_name (i := 3) S.nd rfl (.inl rfl)))
      (pss_cons (ps_if (pt_cmpR (op_neU hu) (pe_ix ix_seq (pv 0) pe_int (fun _ _ => rfl)) (pe_lst pa_nil) (nomark _)) (pss_cons (ps_asg (pe_bm PySem.F.plainAttrs_list PySem.F.slot_list_pop PySem.F.type_list_pop mt_popU (pe_ix ix_seq (pv 0) pe_int (fun _ _ => rfl)) (pa_cons pe_int pa_nil)) (pg_name (i := 3) S.nd rfl (.inl rfl)))
      (pss_one (ps_if (pt_cmpR op_geV (pv 3) (pe_op op_powU pe_int pe_int) (nomark _)) (pss_cons (ps_asg (pe_op op_subU (pv 3) (pe_op op_powU pe_int pe_int)) (pg_name (i := 4) S.nd rfl (.inl rfl)))
      (pss_cons (ps_asg (pe_op op_divU (pv 4) (pv 1)) (pg_sub (pv 0) pe_int set_list))
      (pss_one (ps_ret (pe_op op_modU (pe_callTy call_intU (by rfl) n_int (by decide +kernel) (pa_cons (pv 4) pa_nil)) (pv 1)))))) pss_nil))) pss_nil)
      (pss_cons (ps_asg (pe_op op_modU (pe_callTy call_intU (by rfl) n_int (by decide +kernel) (pa_cons (pe_op op_addU (pe_op op_addU (pe_op op_addU (pe_op op_mulV (pe_ix ix_seq (pv 0) pe_int (fun _ _ => rfl)) pe_int) (pe_op op_modU (pe_callTy call_intU (by rfl) n_int (by decide +kernel) (pa_cons (pv 3) pa_nil)) pe_int)) (pe_op op_mulV (pe_op op_mulV pe_int (pe_ix ix_seq (pv 0) pe_int (fun _ _ => rfl))) (pe_ix ix_seq (pv 0) pe_int (fun _ _ => rfl)))) pe_int) pa_nil)) pe_int) (pg_name (i := 5) S.nd rfl (.inl rfl)))
      (pss_cons (ps_asg (pe_op op_modU (pe_callTy call_intU (by rfl) n_int (by decide +kernel) (pa_cons (pe_op op_addU (pe_op op_addU (pe_op op_mulV (pv 5) (pv 5)) (pe_op op_mulV pe_int (pv 5))) pe_int) pa_nil)) pe_int) (pg_sub (pv 0) pe_int set_list))
      (pss_one (ps_ret (pe_op op_modU (pe_op op_divU (pe_ix ix_seq (pv 0) pe_int (fun _ _ => rfl)) pe_int) (pv 1))))))))))
def t__law_same (K : PySem.W.Frag) : TS := (tRet (tAndT K (tOp (rEqU K) (tVar 0) (tVar 1)) (tOp (rEqU K) (tCB (rRep K) (tCons (tVar 0) tNil)) (tCB (rRep K) (tCons (tVar 1) tNil)))))
theorem dv__law_same {P : Program} {w : World} {K : PySem.W.Frag} {mg : Str → Option Value} {base : Heap} {f : Addr} {cdv : Value} {A : Around} {outer : List Env} {s : Shared} {H : Hp} {E : XK}
    (hr : Room 0 (A.deeper (envOfC "_law_same" (defScope s__law_same) s.heap.objs.size f cdv)))
    (hgd : (A.deeper (envOfC "_law_same" (defScope s__law_same) s.heap.objs.size f cdv)).guards = some [])
    (n_repr : mg "repr" = none) :
    PSs (cxOf CX0 P w K mg base n__law_same "_law_same" (defScope s__law_same) f cdv A outer s H E).nox (defBody s__law_same) (t__law_same K) := by
  have S := sc__law_same
  have hu : (A.deeper (envOfC "_law_same" (defScope s__law_same) s.heap.objs.size f cdv)).units + 64 < cLine := by have := hr.un; omega
  exact (pss_one (ps_ret (pe_andT (pe_cmpR (op_eqU hu) (pv 0) (pv 1) (nomark _)) (pe_one (pe_cmpR (op_eqU hu) (pe_callB (call_rep hgd hu) (by rfl) n_repr (by decide +kernel) (pa_cons (pv 0) pa_nil)) (pe_callB (call_rep hgd hu) (by rfl) n_repr (by decide +kernel) (pa_cons (pv 1) pa_nil)) (nomark _))))))
def t__law_word_of (K : PySem.W.Frag) : TS := (tSeq (tAsg (tC (.str "")) (gName 2))
    (tSeq (tFor (iRng1 (tCons (tVar 1) tNil)) (gName 3) (tSeq (tAsg (tOp (rAddU K) (tOp (rIx K) (tC (.str "abcdefghijklmnopqrstuvwxyz")) (tOp rModI (tCB (rIntU) (tCons (tVar 0) tNil)) (tC (.int 26)))) (tVar 2)) (gName 2))
    (tAsg (tOp rDivI (tVar 0) (tC (.int 26))) (gName 0))))
    (tSeq (tWhile (tAnd (tTest (tOp (rNeU K) (tVar 2) (tC (.str "")))) (tTest (tOp (rEqU K) (tOp (rIx K) (tVar 2) (tUn (rU fun i => .int (-i)) (tC (.int 1)))) (tC (.str "a"))))) (tAsg (tSl (rSlU K) (tVar 2) tNoPart (tPart (tUn (rU fun i => .int (-i)) (tC (.int 1))))) (gName 2)))
    (tRet (tVar 2)))))
theorem dv__law_word_of {P : Program} {w : World} {K : PySem.W.Frag} {mg : Str → Option Value} {base : Heap} {f : Addr} {cdv : Value} {A : Around} {outer : List Env} {s : Shared} {H : Hp} {E : XK}
    (hr : Room 0 (A.deeper (envOfC "_law_word_of" (defScope s__law_word_of) s.heap.objs.size f cdv)))
    (hgd : (A.deeper (envOfC "_law_word_of" (defScope s__law_word_of) s.heap.objs.size f cdv)).guards = some [])
    (n_int : mg "int" = none)
    (n_range : mg "range" = none) :
    PSs (cxOf CX0 P w K mg base n__law_word_of "_law_word_of" (defScope s__law_word_of) f cdv A outer s H E).nox (defBody s__law_word_of) (t__law_word_of K) := by
  have S := sc__law_word_of
  have hu : (A.deeper (envOfC "_law_word_of" (defScope s__law_word_of) s.heap.objs.size f cdv)).units + 64 < cLine := by have := hr.un; omega
  exact (pss_cons (ps_asg pe_str (pg_name (i := 2) S.nd rfl (.inl rfl)))
      (pss_cons (ps_for PassesOwn.never rfl (pi_range1 (by rfl) n_range (pa_cons (pv 1) pa_nil)) (pg_name (i := 3) S.nd rfl (.inl rfl)) (pss_cons (ps_asg (pe_op op_addU (pe_ix ix_seq pe_str (pe_op op_modU (pe_callTy call_intU (by rfl) n_int (by decide +kernel) (pa_cons (pv 0) pa_nil)) pe_int) (fun _ _ => rfl)) (pv 2)) (pg_name (i := 2) S.nd rfl (.inl rfl)))
      (pss_one (ps_asg (pe_op op_divU (pv 0) pe_int) (pg_name (i := 0) S.nd rfl (.inl rfl))))))
      (pss_cons (ps_while PassesOwn.never (PW.pt (pw_and (pt_cmpR (op_neU hu) (pv 2) pe_str (nomark _)) (pw_and1 (pt_cmpR (op_eqU hu) (pe_ix ix_seq (pv 2) (pe_un un_neg pe_int) (fun _ _ => rfl)) pe_str (nomark _))))) (pss_one (ps_asg (pe_slice sl_U (pv 2) po_none (po_some (pe_un un_neg pe_int))) (pg_name (i := 2) S.nd rfl (.inl rfl)))))
      (pss_one (ps_ret (pv 2))))))
def t__law_power (K : PySem.W.Frag) : TS := (tSeq (tAsg (tC (.int 1)) (gName 2))
    (tSeq (tFor (iRng1 (tCons (tVar 1) tNil)) (gName 3) (tAsg (tOp rMulV (tVar 2) (tVar 0)) (gName 2)))
    (tRet (tVar 2))))
theorem dv__law_power {P : Program} {w : World} {K : PySem.W.Frag} {mg : Str → Option Value} {base : Heap} {f : Addr} {cdv : Value} {A : Around} {outer : List Env} {s : Shared} {H : Hp} {E : XK}
    (hr : Room 0 (A.deeper (envOfC "_law_power" (defScope s__law_power) s.heap.objs.size f cdv)))
    (hgd : (A.deeper (envOfC "_law_power" (defScope s__law_power) s.heap.objs.size f cdv)).guards = some [])
    (n_range : mg "range" = none) :
    PSs (cxOf CX0 P w K mg base n__law_power "_law_power" (defScope s__law_power) f cdv A outer s H E).nox (defBody s__law_power) (t__law_power K) := by
  have S := sc__law_power
  have hu : (A.deeper (envOfC "_law_power" (defScope s__law_power) s.heap.objs.size f cdv)).units + 64 < cLine := by have := hr.un; omega
  exact (pss_cons (ps_asg pe_int (pg_name (i := 2) S.nd rfl (.inl rfl)))
      (pss_cons (ps_for PassesOwn.never rfl (pi_range1 (by rfl) n_range (pa_cons (pv 1) pa_nil)) (pg_name (i := 3) S.nd rfl (.inl rfl)) (pss_one (ps_asg (pe_op op_mulV (pv 2) (pv 0)) (pg_name (i := 2) S.nd rfl (.inl rfl)))))
      (pss_one (ps_ret (pv 2)))))
def t__law_error (K : PySem.W.Frag) : TS := (tSeq (tAsg (tC .non) (gName 1))
    (tSeq (tTryK K [⟨"WindowError", (some 2), fun a0 cls0 d0 => (tAsg (tVar 2) (gName 1))⟩] (fun xw0 => (tDrop (tCallS (spX K F_spread) (WE xw0) (tCons (tVar 0) tNil)))) (fun _ _ _ _ => False))
    (tRet (tVar 1))))
theorem dv__law_error {P : Program} {w : World} {K : PySem.W.Frag} {mg : Str → Option Value} {base : Heap} {f : Addr} {cdv : Value} {A : Around} {outer : List Env} {s : Shared} {H : Hp} {E : XK}
    (hr : Room 3 (A.deeper (envOfC "_law_error" (defScope s__law_error) s.heap.objs.size f cdv)))
    (hgd : (A.deeper (envOfC "_law_error" (defScope s__law_error) s.heap.objs.size f cdv)).guards = some [])
    (h_spread : HasG P w K mg base (L2.CX P w) "spread" p_spread 3 (spX K F_spread))
    (e_WindowError : IsErr P K mg "WindowError") :
    PSs (cxOf CX0 P w K mg base n__law_error "_law_error" (defScope s__law_error) f cdv A outer s H E).nox (defBody s__law_error) (t__law_error K) := by
  have S := sc__law_error
  have hu : (A.deeper (envOfC "_law_error" (defScope s__law_error) s.heap.objs.size f cdv)).units + 64 < cLine := by have := hr.un; omega
  exact (pss_cons (ps_asg pe_non (pg_name (i := 1) S.nd rfl (.inl rfl)))
      (pss_cons (ps_tryNK (tb := fun xw0 => (tDrop (tCallS (spX K F_spread) (WE xw0) (tCons (tVar 0) tNil)))) takes0 (fun xw0 pn0 xe0 tk0 po0 => (pss_one (ps_expr (pe_hG h_spread (hr.mono (by decide)) hgd (fun σ => passAt tk0 σ) (pa_cons (pv 0) pa_nil))))) (hs_named (i := 2) (ts := (fun a0 cls0 d0 => (tAsg (tVar 2) (gName 1)))) e_WindowError S.nd (fun a0 oe0 cls0 d0 pn0 hz0 hf0 => (pss_one (ps_asg (pv 2) (pg_name (i := 1) S.nd rfl (.inl rfl))))) hs_nil))
      (pss_one (ps_ret (pv 1)))))
def t_law (K : PySem.W.Frag) : TS := (tSeq (tAsg (tCallS (spD K F__law_pool) Ez (tCons (tVar 0) tNil)) (gName 1))
    (tSeq (tFor (iRng1 (tCons (tC (.int 3)) tNil)) (gName 2) (tSeq (tAsg (tOp (rIx K) (tLst (tCons (tC (.int 0)) (tCons (tC (.int 1)) (tCons (tC (.int 25)) (tCons (tC (.int 26)) (tCons (tC (.int 27)) (tCons (tC (.int 675)) (tCons (tC (.int 676)) (tCons (tC (.int 677)) (tCons (tCallS (spD K F__law_take) Ez (tCons (tVar 1) (tCons (tC (.int 60)) tNil))) (tCons (tCallS (spD K F__law_take) Ez (tCons (tVar 1) (tCons (tC (.int 900)) tNil))) tNil))))))))))) (tCallS (spD K F__law_take) Ez (tCons (tVar 1) (tCons (tC (.int 10)) tNil)))) (gName 3))
    (tSeq (tAsg (tOp (rIx K) (tLst (tCons (tC (.int 0)) (tCons (tC (.int 1)) (tCons (tC (.int 2)) (tCons (tC (.int 3)) tNil))))) (tOp (rAddU K) (tOp (rAddU K) (tCB (rIntU) (tCons (tOp rGeV (tVar 3) (tC (.int 1))) tNil)) (tCB (rIntU) (tCons (tOp rGeV (tVar 3) (tC (.int 26))) tNil))) (tCB (rIntU) (tCons (tOp rGeV (tVar 3) (tC (.int 676))) tNil)))) (gName 4))
    (tSeq (tAsg (tCallS (spD K F__law_power) Ez (tCons (tC (.int 26)) (tCons (tVar 4) tNil))) (gName 5))
    (tSeq (tAsg (tLc (iRng1 (tCons (tVar 3) tNil)) (gName 12) tYes (tCallS (spD K F__law_word_of) Ez (tCons (tOp rDivI (tOp rMulV (tOp (rAddU K) (tVar 12) (tC (.int 1))) (tVar 5)) (tOp (rAddU K) (tVar 3) (tC (.int 1)))) (tCons (tVar 4) tNil))) [12]) (gName 6))
    (tSeq (tAsg (tCallS (spX K F_spread) Ez (tCons (tVar 3) tNil)) (gName 7))
    (tSeq (tIfS (tOr (tNot (tTru K (tCallS (spD K F__law_same) Ez (tCons (tVar 7) (tCons (tVar 6) tNil))))) (tNot (tTru K (tCallS (spD K F__law_same) Ez (tCons (tCallNS 0 1 (spX K F_spread) (fun vs zs => perm [0] (vs ++ zs)) Ez tNil (tCons (tVar 3) tNil)) (tCons (tVar 6) tNil)))))) (tRet (tC (.bl false))) tNext)
    (tSeq (tIfS (tTest (tOp (rNeU K) (tLc (iRng2 (tCons (tC (.int 1)) (tCons (tVar 3) tNil))) (gName 12) (tNot (tTest (tOp rLtU (tOp (rIx K) (tVar 6) (tOp rSubI (tVar 12) (tC (.int 1)))) (tOp (rIx K) (tVar 6) (tVar 12))))) (tVar 12) [12]) (tLst tNil))) (tRet (tC (.bl false))) tNext)
    (tSeq (tIfS (tTest (tOp (rNeU K) (tLc (iSeq K (tVar 6)) (gName 13) (tOr (tTest (tOp (rEqU K) (tVar 13) (tC (.str "")))) (tOr (tTest (tOp (rEqU K) (tOp (rIx K) (tVar 13) (tUn (rU fun i => .int (-i)) (tC (.int 1)))) (tC (.str "a")))) (tTest (tOp rGtV (tCB (rLenU K) (tCons (tVar 13) tNil)) (tVar 4))))) (tVar 13) [13]) (tLst tNil))) (tRet (tC (.bl false))) tNext)
    (tSeq (tIfS (tTest (tOp rGtV (tVar 3) (tC (.int 1)))) (tSeq (tAsg (tCallS (spD K F__law_take) Ez (tCons (tVar 1) (tCons (tOp rSubI (tVar 3) (tC (.int 1))) tNil))) (gName 8))
    (tSeq (tAsg (tCallS (spX K F_word_between) Ez (tCons (tOp (rIx K) (tVar 6) (tVar 8)) (tCons (tOp (rIx K) (tVar 6) (tOp (rAddU K) (tVar 8) (tC (.int 1)))) tNil))) (gName 9))
    (tIfS (tOr (tNot (tTest (tOp rLtU (tOp (rIx K) (tVar 6) (tVar 8)) (tVar 9)))) (tNot (tTest (tOp rLtU (tVar 9) (tOp (rIx K) (tVar 6) (tOp (rAddU K) (tVar 8) (tC (.int 1)))))))) (tRet (tC (.bl false))) tNext))) tNext)
    (tSeq (tDrop (tBM K "list" (rAppend) (tVar 7) (tCons (tC (.str "a")) tNil)))
    (tIfS (tNot (tTru K (tCallS (spD K F__law_same) Ez (tCons (tCallS (spX K F_spread) Ez (tCons (tVar 3) tNil)) (tCons (tVar 6) tNil))))) (tRet (tC (.bl false))) tNext))))))))))))
    (tSeq (tAsg (tOp rSubI (tUn (rU fun i => .int (-i)) (tC (.int 1))) (tCallS (spD K F__law_take) Ez (tCons (tVar 1) (tCons (tC (.int 9)) tNil)))) (gName 10))
    (tSeq (tAsg (tCallS (spD K F__law_error) Ez (tCons (tVar 10) tNil)) (gName 11))
    (tRet (tAndT K (tIsK K "InvalidNumber" (tVar 11)) (tCallS (spD K F__law_same) Ez (tCons (tXvK K (tVar 11)) (tCons (tVar 10) tNil)))))))))
theorem dv_law {P : Program} {w : World} {K : PySem.W.Frag} {mg : Str → Option Value} {base : Heap} {f : Addr} {cdv : Value} {A : Around} {outer : List Env} {s : Shared} {H : Hp} {E : XK}
    (hr : Room 4 (A.deeper (envOfC "law" (defScope s_law) s.heap.objs.size f cdv)))
    (hgd : (A.deeper (envOfC "law" (defScope s_law) s.heap.objs.size f cdv)).guards = some [])
    (h__law_error : HasG P w K mg base CX0 "_law_error" p__law_error 4 (spD K F__law_error))
    (h__law_pool : HasG P w K mg base CX0 "_law_pool" p__law_pool 1 (spD K F__law_pool))
    (h__law_power : HasG P w K mg base CX0 "_law_power" p__law_power 1 (spD K F__law_power))
    (h__law_same : HasG P w K mg base CX0 "_law_same" p__law_same 1 (spD K F__law_same))
    (h__law_take : HasG P w K mg base CX0 "_law_take" p__law_take 1 (spD K F__law_take))
    (h__law_word_of : HasG P w K mg base CX0 "_law_word_of" p__law_word_of 1 (spD K F__law_word_of))
    (h_spread : HasG P w K mg base (L2.CX P w) "spread" p_spread 3 (spX K F_spread))
    (hk_spread_0 : HasGK P w K mg base (L2.CX P w) "spread" p_spread 3 (spX K F_spread) 0 ["number"] [0])
    (h_word_between : HasG P w K mg base (L2.CX P w) "word_between" p_word_between 4 (spX K F_word_between))
    (n_int : mg "int" = none)
    (n_isinstance : mg "isinstance" = none)
    (n_len : mg "len" = none)
    (n_range : mg "range" = none)
    (e_InvalidNumber : IsErr P K mg "InvalidNumber") :
    PSs (cxOf CX0 P w K mg base n_law "law" (defScope s_law) f cdv A outer s H E).nox (defBody s_law) (t_law K) := by
  have S := sc_law
  have hu : (A.deeper (envOfC "law" (defScope s_law) s.heap.objs.size f cdv)).units + 64 < cLine := by have := hr.un; omega
  exact (pss_cons (ps_asg (pe_hG h__law_pool (hr.mono (by decide)) hgd pz0 (pa_cons (pv 0) pa_nil)) (pg_name (i := 1) S.nd rfl (.inl rfl)))
      (pss_cons (ps_for PassesOwn.never rfl (pi_range1 (by rfl) n_range (pa_cons pe_int pa_nil)) (pg_name (i := 2) S.nd rfl (.inl rfl)) (pss_cons (ps_asg (pe_ix ix_seq (pe_lst (pa_cons pe_int (pa_cons pe_int (pa_cons pe_int (pa_cons pe_int (pa_cons pe_int (pa_cons pe_int (pa_cons pe_int (pa_cons pe_int (pa_cons (pe_hG h__law_take (hr.mono (by decide)) hgd pz0 (pa_cons (pv 1) (pa_cons pe_int pa_nil))) (pa_cons (pe_hG h__law_take (hr.mono (by decide)) hgd pz0 (pa_cons (pv 1) (pa_cons pe_int pa_nil))) pa_nil))))))))))) (pe_hG h__law_take (hr.mono (by decide)) hgd pz0 (pa_cons (pv 1) (pa_cons pe_int pa_nil))) (fun _ _ => rfl)) (pg_name (i := 3) S.nd rfl (.inr rfl)))
      (pss_cons (ps_asg (pe_ix ix_seq (pe_lst (pa_cons pe_int (pa_cons pe_int (pa_cons pe_int (pa_cons pe_int pa_nil))))) (pe_op op_addU (pe_op op_addU (pe_callTy call_intU (by rfl) n_int (by decide +kernel) (pa_cons (pe_cmpR op_geV (pv 3) pe_int (nomark _)) pa_nil)) (pe_callTy call_intU (by rfl) n_int (by decide +kernel) (pa_cons (pe_cmpR op_geV (pv 3) pe_int (nomark _)) pa_nil))) (pe_callTy call_intU (by rfl) n_int (by decide +kernel) (pa_cons (pe_cmpR op_geV (pv 3) pe_int (nomark _)) pa_nil))) (fun _ _ => rfl)) (pg_name (i := 4) S.nd rfl (.inr rfl)))
      (pss_cons (ps_asg (pe_hG h__law_power (hr.mono (by decide)) hgd pz0 (pa_cons pe_int (pa_cons (pv 4) pa_nil))) (pg_name (i := 5) S.nd rfl (.inr rfl)))
      (pss_cons (ps_asg (pe_lc (own := [("k", 12)]) (g := (gName 12)) (tt := tYes) rfl S.nd (pi_range1 (by rfl) n_range (pa_cons (pv 3) pa_nil)) (blkOk_by (N := n_law) (sc := defScope s_law) (by decide +kernel)) (fun _ _ _ _ _ => (pg_name (i := 12) S.nd rfl (.inl rfl))) (fun _ _ _ _ _ => pts_nil) (fun _ _ _ _ _ => (pe_hG h__law_word_of (hr.mono (by decide)) hgd pz0 (pa_cons (pe_op op_divU (pe_op op_mulV (pe_op op_addU (pv 12) pe_int) (pv 5)) (pe_op op_addU (pv 3) pe_int)) (pa_cons (pv 4) pa_nil))))) (pg_name (i := 6) S.nd rfl (.inr rfl)))
      (pss_cons (ps_asg (pe_hG h_spread (hr.mono (by decide)) hgd pzL (pa_cons (pv 3) pa_nil)) (pg_name (i := 7) S.nd rfl (.inl rfl)))
      (pss_cons (ps_if (PW.pt (pw_or (pt_not (pt_tru (pe_hG h__law_same (hr.mono (by decide)) hgd pz0 (pa_cons (pv 7) (pa_cons (pv 6) pa_nil))))) (pw_or1 (pt_not (pt_tru (pe_hG h__law_same (hr.mono (by decide)) hgd pz0 (pa_cons (pe_hGN0 hk_spread_0 (hr.mono (by decide)) hgd pzL (pk_cons (pv 3) pk_nil)) (pa_cons (pv 6) pa_nil)))))))) (pss_one (ps_ret pe_bl)) pss_nil)
      (pss_cons (ps_if (pt_cmpR (op_neU hu) (pe_lc (own := [("k", 12)]) (g := (gName 12)) (tt := (tNot (tTest (tOp rLtU (tOp (rIx K) (tVar 6) (tOp rSubI (tVar 12) (tC (.int 1)))) (tOp (rIx K) (tVar 6) (tVar 12)))))) rfl S.nd (pi_range2 (by rfl) n_range (pa_cons pe_int (pa_cons (pv 3) pa_nil))) (blkOk_by (N := n_law) (sc := defScope s_law) (by decide +kernel)) (fun _ _ _ _ _ => (pg_name (i := 12) S.nd rfl (.inl rfl))) (fun _ _ _ _ _ => (pts_one (pt_not (pt_cmpR op_ltU (pe_ix ix_seq (pv 6) (pe_op op_subU (pv 12) pe_int) (fun _ _ => rfl)) (pe_ix ix_seq (pv 6) (pv 12) (fun _ _ => rfl)) (nomark _))))) (fun _ _ _ _ _ => (pv 12))) (pe_lst pa_nil) (nomark _)) (pss_one (ps_ret pe_bl)) pss_nil)
      (pss_cons (ps_if (pt_cmpR (op_neU hu) (pe_lc (own := [("word", 13)]) (g := (gName 13)) (tt := (tOr (tTest (tOp (rEqU K) (tVar 13) (tC (.str "")))) (tOr (tTest (tOp (rEqU K) (tOp (rIx K) (tVar 13) (tUn (rU fun i => .int (-i)) (tC (.int 1)))) (tC (.str "a")))) (tTest (tOp rGtV (tCB (rLenU K) (tCons (tVar 13) tNil)) (tVar 4)))))) rfl S.nd (pi_seq (pv 6)) (blkOk_by (N := n_law) (sc := defScope s_law) (by decide +kernel)) (fun _ _ _ _ _ => (pg_name (i := 13) S.nd rfl (.inl rfl))) (fun _ _ _ _ _ => (pts_one (PW.pt (pw_or (pt_cmpR (op_eqU hu) (pv 13) pe_str (nomark _)) (pw_or (pt_cmpR (op_eqU hu) (pe_ix ix_seq (pv 13) (pe_un un_neg pe_int) (fun _ _ => rfl)) pe_str (nomark _)) (pw_or1 (pt_cmpR op_gtV (pe_callB call_lenU (by rfl) n_len (by decide +kernel) (pa_cons (pv 13) pa_nil)) (pv 4) (nomark _)))))))) (fun _ _ _ _ _ => (pv 13))) (pe_lst pa_nil) (nomark _)) (pss_one (ps_ret pe_bl)) pss_nil)
      (pss_cons (ps_if (pt_cmpR op_gtV (pv 3) pe_int (nomark _)) (pss_cons (ps_asg (pe_hG h__law_take (hr.mono (by decide)) hgd pz0 (pa_cons (pv 1) (pa_cons (pe_op op_subU (pv 3) pe_int) pa_nil))) (pg_name (i := 8) S.nd rfl (.inl rfl)))
      (pss_cons (ps_asg (pe_hG h_word_between (hr.mono (by decide)) hgd pzL (pa_cons (pe_ix ix_seq (pv 6) (pv 8) (fun _ _ => rfl)) (pa_cons (pe_ix ix_seq (pv 6) (pe_op op_addU (pv 8) pe_int) (fun _ _ => rfl)) pa_nil))) (pg_name (i := 9) S.nd rfl (.inl rfl)))
      (pss_one (ps_if (PW.pt (pw_or (pt_not (pt_cmpR op_ltU (pe_ix ix_seq (pv 6) (pv 8) (fun _ _ => rfl)) (pv 9) (nomark _))) (pw_or1 (pt_not (pt_cmpR op_ltU (pv 9) (pe_ix ix_seq (pv 6) (pe_op op_addU (pv 8) pe_int) (fun _ _ => rfl)) (nomark _)))))) (pss_one (ps_ret pe_bl)) pss_nil)))) pss_nil)
      (pss_cons (ps_expr (pe_bm PySem.F.plainAttrs_list PySem.F.slot_list_append PySem.F.type_list_append mt_append (pv 7) (pa_cons pe_str pa_nil)))
      (pss_one (ps_if (pt_not (pt_tru (pe_hG h__law_same (hr.mono (by decide)) hgd pz0 (pa_cons (pe_hG h_spread (hr.mono (by decide)) hgd pzL (pa_cons (pv 3) pa_nil)) (pa_cons (pv 6) pa_nil))))) (pss_one (ps_ret pe_bl)) pss_nil)))))))))))))
      (pss_cons (ps_asg (pe_op op_subU (pe_un un_neg pe_int) (pe_hG h__law_take (hr.mono (by decide)) hgd pz0 (pa_cons (pv 1) (pa_cons pe_int pa_nil)))) (pg_name (i := 10) S.nd rfl (.inl rfl)))
      (pss_cons (ps_asg (pe_hG h__law_error (hr.mono (by decide)) hgd pz0 (pa_cons (pv 10) pa_nil)) (pg_name (i := 11) S.nd rfl (.inl rfl)))
      (pss_one (ps_ret (pe_andT (pe_isK e_InvalidNumber n_isinstance (pv 11)) (pe_one (pe_hG h__law_same (hr.mono (by decide)) hgd pz0 (pa_cons (pe_xvK (pv 11)) (pa_cons (pv 10) pa_nil)))))))))))
end Lw

namespace Lw
open PySem PySem.Spec PyProof.Rows L2 Pd
/-! one step of a reading -/
local macro_rules | `(tactic| walk_at "mu") => `(tactic| first | with_reducible assumption | with_reducible exact mu_end | ((with_reducible refine' mu_set ?hm2); (case hm2 => walk_at "mu")) | ((with_reducible refine' mu_app ?hm2); (case hm2 => walk_at "mu")))
local macro_rules | `(tactic| walk_at "lw") => `(tactic| first | with_reducible assumption | with_reducible exact lw_ints _ _ | with_reducible exact ln_ints _ _ | with_reducible exact LW.d _ | with_reducible exact LN.d _ | with_reducible exact TW.d2 | with_reducible exact TW.d3 | with_reducible exact TW.d4 | with_reducible exact TW.d5 | with_reducible exact TW.d1 | with_reducible exact TW.d _ | with_reducible exact TW.t _ | with_reducible exact LW.f _ | (refine' LW.m ?hmu; (case hmu => walk_at "mu")) | (refine' LN.m ?hmu; (case hmu => walk_at "mu")))
local macro_rules | `(tactic| walk_at "sz") => `(tactic| first | exact rfl | with_reducible assumption | (refine sz_ok ?_; (try simp only [List.length_map, List.length_append, List.length_cons, List.length_nil]); omega) | (refine sz_lt ?_; (try simp only [List.length_map, List.length_append, List.length_cons, List.length_nil]); omega))
local macro_rules | `(tactic| walk_at "rs") => `(tactic| first | with_reducible assumption | with_reducible exact Rs.d _ | (refine' Rs.m ?hmu (rss_ints _); (case hmu => walk_at "mu")) | (refine' Rs.f (rss_ints _)))
local macro_rules | `(tactic| walk_at "sh") => `(tactic| first | with_reducible assumption | with_reducible exact shaped_ints _ | rfl | decide)
local macro_rules | `(tactic| walk_at "x") => `(tactic| (first
  | ((with_reducible refine' ax_var ?hv ?_); (case hv => exact rfl))
  | (with_reducible refine' ax_int ?_)
  | (with_reducible refine' ax_bl ?_)
  | (with_reducible refine' ax_str ?_)
  | (with_reducible refine' ax_non ?_)
  | (with_reducible refine' ax_cV ?_)
  | (with_reducible refine' ax_op ?_)
  | (with_reducible refine' ax_un ?_)
  | (with_reducible refine' au_neg ?_)
  | (with_reducible refine' o_addI ?_)
  | (with_reducible refine' o_subI ?_)
  | (with_reducible refine' o_gtI ?_)
  | (with_reducible refine' o_ltI ?_)
  | (with_reducible refine' o_leI ?_)
  | (with_reducible refine' o_geI ?_)
  | (with_reducible refine' o_eqI ?_)
  | (with_reducible refine' o_neI ?_)
  | (with_reducible refine' o_eqB ?_)
  | (with_reducible refine' o_neB ?_)
  | ((with_reducible refine' o_eqD ?a1 ?a2 ?a3 ?a4 ?_); (case a1 => walk_at "rs"); (case a2 => walk_at "rs"); (case a3 => walk_at "sh"); (case a4 => walk_at "sh"))
  | ((with_reducible refine' o_neD ?a1 ?a2 ?a3 ?a4 ?_); (case a1 => walk_at "rs"); (case a2 => walk_at "rs"); (case a3 => walk_at "sh"); (case a4 => walk_at "sh"))
  | (with_reducible refine' o_is ?_)
  | (with_reducible refine' o_isB ?_)
  | ((with_reducible refine' o_addL ?a1 ?a2 ?a3 ?_); (case a1 => walk_at "lw"); (case a2 => walk_at "lw"); (case a3 => walk_at "sz"))
  | (with_reducible refine' aa_cons ?_)
  | (with_reducible refine' aa_nil ?_)
  | (with_reducible refine' ax_cb ?_)
  | (with_reducible refine' c_abs ?_)
  | (with_reducible refine' c_int ?_)
  | (with_reducible refine' c_max2 ?_)
  | (with_reducible refine' c_min2 ?_)
  | ((with_reducible refine' c_lenL ?a1 ?_); (case a1 => walk_at "lw"))
  | ((with_reducible refine' c_lenT ?a1 ?_); (case a1 => walk_at "lw"))
  | (with_reducible refine' ax_lst ?_)
  | (with_reducible refine' ax_tup ?_)
  | ((with_reducible refine' And.intro ?a1 ?_); (case a1 => walk_at "sz"))
  | (with_reducible refine' at_test ?_)
  | (with_reducible refine' at_truB ?_)
  | (with_reducible refine' at_and ?_)
  | (with_reducible refine' at_or ?_)
  | (with_reducible refine' at_not ?_)
  | (with_reducible refine' at_yes ?_)
  | (with_reducible refine' ax_if ?_)
  | (with_reducible refine' as_seq ?_)
  | (with_reducible refine' as_asg ?_)
  | ((with_reducible refine' ag_name ?_); dsimp only [List.set_cons_zero, List.set_cons_succ])
  | (with_reducible refine' as_ret ?_)
  | (with_reducible refine' as_if ?_)
  | (with_reducible refine' as_drop ?_)
  | (with_reducible refine' as_next ?_)
  | (with_reducible refine' as_break ?_)
  | (with_reducible refine' as_cont ?_)
  | (with_reducible refine' as_retN ?_)
  | (with_reducible refine' ax_call ?_)
  | (with_reducible refine' ax_callN ?_)
  | ((with_reducible refine' c_isi ?a1 ?a2 ?_); (case a1 => with_reducible first | exact tyw_l | exact tyw_b | exact tyw_i | exact tyw_t | exact tyw_s | exact tyw_n); (case a2 => walk_at "kb"))
  | ((with_reducible refine' c_listL ?a1 ?_); (case a1 => walk_at "lw"))
  | (with_reducible refine' ax_sl ?_)
  | (with_reducible refine' xo_no ?_)
  | (with_reducible refine' xo_some ?_)
  | (with_reducible refine' ags_nil ?_)
  | (with_reducible refine' ags_cons ?_)
  | ((with_reducible refine' ag_tup ?a1 ?a2 ?_); (case a1 => walk_at "lw"); (case a2 => rfl))
  | (with_reducible refine' ag_sub ?_)
  | ((with_reducible refine' ax_bm ?_); (with_reducible refine' ax_var ?hv ?_); (case hv => exact rfl); refine ⟨?ty, ?_⟩; (case ty => walk_at "ty"))
  | ((with_reducible refine' ax_bm0 ?_); (with_reducible refine' ax_var ?hv ?_); (case hv => exact rfl); refine ⟨?ty, ?_⟩; (case ty => walk_at "ty"))
  | (with_reducible refine' Exists.intro _ (And.intro rfl ?_))))
local macro_rules | `(tactic| walk_at "ty") => `(tactic| first | exact ⟨rfl, _, by walk_at "mu"⟩ | exact rfl)
local macro_rules | `(tactic| walk_at "xs") => `(tactic| repeat walk_at "x")
local macro_rules | `(tactic| walk_at "kb") => `(tactic| with_reducible first | exact kb_NoneType_list | exact kb_NoneType_tuple | exact kb_NoneType_bool | exact kb_NoneType_int | exact kb_NoneType_str | exact kb_bool_list | exact kb_bool_tuple | exact kb_bool_bool | exact kb_bool_int | exact kb_bool_str | exact kb_int_list | exact kb_int_tuple | exact kb_int_bool | exact kb_int_int | exact kb_int_str | exact kb_str_list | exact kb_str_tuple | exact kb_str_bool | exact kb_str_int | exact kb_str_str | exact kb_list_list | exact kb_list_tuple | exact kb_list_bool | exact kb_list_int | exact kb_list_str | exact kb_tuple_list | exact kb_tuple_tuple | exact kb_tuple_bool | exact kb_tuple_int | exact kb_tuple_str)
/-! more steps: promises, raising, repr -/
local macro_rules | `(tactic| walk_at "x") => `(tactic| (first
  | (with_reducible refine' as_dropX (axx_call ?_))
  | (with_reducible refine' as_retX (axx_call ?_))
  | (with_reducible refine' as_asgX (axx_call ?_))
  | ((with_reducible refine' as_raiseE ?hv ?_); (case hv => exact rfl))
  | (with_reducible refine' ax_g ?_)
  | (with_reducible refine' ax_gX ?_)
  | (with_reducible refine' ax_gN ?_)
  | (with_reducible refine' ax_gXN ?_)
  | ((with_reducible refine' as_augR ?hv ?_); (case hv => exact rfl))
  | (with_reducible refine' o_eqS ?_)
  | (with_reducible refine' o_neS ?_)
  | (with_reducible refine' as_par ?_)
  | (with_reducible refine' as_par3 ?_)
  | (with_reducible refine' ao_l (ao_iI ?_))))
/-- a list or tuple of data is data -/
local macro_rules | `(tactic| walk_at "d") => `(tactic| with_reducible first | refine' NL.d0 ?_ | refine' NL.d1 ?_ | refine' NL.d2 ?_ | refine' NL.d3 ?_ | refine' NL.di ?_ | refine' NT.d1 ?_ | refine' NT.d2 ?_ | refine' NT.d3 ?_ | refine' NT.d0 ?_ | refine' NT.d4 ?_ | refine' NT.d5 ?_ | refine' NT.d6 ?_ | refine' NL.d4 ?_ | refine' NL.d5 ?_ | refine' NL.d6 ?_ | refine' NL.d7 ?_ | refine' NL.dd ?_)
/-- a draw -/
local macro_rules | `(tactic| walk_at "dr") => `(tactic| (refine draw_at (by walk_at "mu") (by assumption) (by omega) (by first | decide | omega) (by first | decide | omega) ?_))
local macro_rules | `(tactic| walk_at "x") => `(tactic| (first
  | (with_reducible refine' ax_andT ?_)
  | (with_reducible refine' ax_orT ?_)
  | (with_reducible refine' ax_notT ?_)
  | (with_reducible refine' Exists.intro _ (And.intro (TrW.bl _) ?_))
  | ((with_reducible refine' ax_revT ?_))))
/-- a test whose answer is plain -/
local macro_rules | `(tactic| walk_at "if") => `(tactic| first | (refine ite_t rfl ?_) | (refine ite_f rfl ?_))
local macro_rules | `(tactic| walk_at "xi") => `(tactic| repeat (first | walk_at "x" | walk_at "if"))
local macro_rules | `(tactic| walk_at "mu") => `(tactic| with_reducible exact mu_endS)
local macro_rules | `(tactic| walk_at "x") => `(tactic| (first
  | (with_reducible refine' o_leV ?_)
  | (with_reducible refine' o_gtV ?_)
  | (with_reducible refine' o_geV ?_)
  | (with_reducible refine' o_leS ?_)
  | (with_reducible refine' o_gtS ?_)
  | (with_reducible refine' o_geS ?_)
  | (with_reducible refine' o_ltS ?_)
  | (with_reducible refine' c_intB ?_)))
local macro_rules | `(tactic| walk_at "x") => `(tactic| ((with_reducible refine' ax_bm ?_); (with_reducible refine' ax_str ?_); refine ⟨rfl, ?_⟩))
open M77 (val dg digs Ds Pw lex First cand)
abbrev xD (R : W → Mu → Prop) (S : Str → W → Mu → Prop) (xk : L2.XK) : AEn := { nx := fun _ μ' => R (.d .none) μ', rt := R, xw := fun c d _ H => xk c d H, xc := fun x w _ μ' => S x w μ' }
abbrev LT : Str := "abcdefghijklmnopqrstuvwxyz"
theorem S_list (l : List Nat) : (S l).cps.toList = l.map (· + 97) := by simp [S]
theorem S_len (l : List Nat) : (S l).length = l.length := by simp [S, Str.length]
theorem str_eq {a b : Str} (h : a.cps.toList = b.cps.toList) : a = b := by
  cases a
  cases b
  simp only [Str.mk.injEq]
  exact Array.toList_inj.mp h
theorem S_app (l m : List Nat) : S l ++ S m = S (l ++ m) := by
  refine str_eq ?_
  show ((S l).cps ++ (S m).cps).toList = _
  rw [Array.toList_append, S_list, S_list, S_list, List.map_append]
theorem S_nil : S [] = ("" : Str) := rfl
theorem S_one (d : Nat) : S [d] = ⟨#[d + 97]⟩ := rfl
theorem S_inj {l m : List Nat} (h : S l = S m) : l = m := by
  have : (S l).cps.toList = (S m).cps.toList := by rw [h]
  rw [S_list, S_list] at this
  exact List.map_inj_right (fun a b e => by omega) |>.mp this
theorem S_empty (l : List Nat) : decide (S l = ("" : Str)) = decide (l = []) := by
  by_cases h : l = []
  · subst h; rfl
  · rw [decide_eq_false h, decide_eq_false]
    intro z
    rw [← S_nil] at z
    exact h (S_inj z)
theorem occ128 : ∀ c, c < 128 → (!(Builtin.Str.occurrences LT ⟨#[c]⟩ 0 LT.length 1).isEmpty) = decide (97 ≤ c ∧ c ≤ 122) := by decide +kernel
theorem occ_at : ∀ d, d < 26 → Builtin.Str.occurrences LT ⟨#[d + 97]⟩ 0 LT.length 1 = [d] := by decide +kernel
theorem lt_at : ∀ d, d < 26 → LT.cps.toList[d]? = some (d + 97) := by decide +kernel
theorem txt_S {l : List Nat} (h : Ds l) (hl : l.length ≤ 100) : txt (S l) := by
  refine ⟨fun c hc => ?_, by rw [S_len]; exact hl⟩
  rw [S_list] at hc
  obtain ⟨d, hd, rfl⟩ := List.mem_map.mp hc
  have := h d hd
  omega
theorem sz_txt {x : Str} (h : txt x) : x.length ≤ sizeLine := sz_ok (by have := h.2; omega)
theorem isW_S {l : List Nat} (h : Pw l) : isW (S l) = true := by
  obtain ⟨h1, h2, h3⟩ := h
  unfold isW
  rw [S_list]
  have e1 : l ≠ [] := List.length_pos_iff.mp h2
  have a : decide (l.map (· + 97) ≠ []) = true := decide_eq_true (by simpa using e1)
  have b : (l.map (· + 97)).all (fun c => decide (97 ≤ c ∧ c ≤ 122)) = true := by
    rw [List.all_eq_true]
    intro c hc
    obtain ⟨d, hd, rfl⟩ := List.mem_map.mp hc
    have := h1 d hd
    exact decide_eq_true (by omega)
  have c : decide ((l.map (· + 97)).getLast? ≠ some 97) = true := by
    refine decide_eq_true fun z => h3 ?_
    rw [List.getLast?_map] at z
    rw [List.getLast?_eq_getElem?] at z
    unfold dg
    cases q : l[l.length - 1]? with
    | none => rfl
    | some d =>
      rw [q] at z
      have : d + 97 = 97 := by simpa using z
      show d = 0
      omega
  rw [a, b, c]
  rfl
theorem rd_is_word {K : PySem.W.Frag} : ∀ ws μ R, F_is_word ws μ R → AS K (t_is_word K) { nx := fun _ μ' => R (.d .none) μ', rt := R } (stG n_is_word ws) μ := by
  rintro ws μ R ⟨x, rfl, ht, q⟩
  show AS K _ _ [some (.d (.str x)), none] μ
  unfold t_is_word
  have e0 : decide (x = ("" : Str)) = decide (x.cps.toList = []) := by
    by_cases h : x.cps.toList = []
    · rw [decide_eq_true h, decide_eq_true (str_eq (b := "") h)]
    · rw [decide_eq_false h, decide_eq_false (fun z => h (by rw [z]; rfl))]
  unfold isW at q
  walk_at "xs"
  rw [e0]
  by_cases h : x.cps.toList = []
  · rw [decide_eq_true h, Bool.not_true]
    refine ite_f rfl ?_
    rw [decide_eq_false (fun z => z h), Bool.false_and] at q
    exact q
  · rw [decide_eq_false h, Bool.not_false]
    refine ite_t rfl ?_
    rw [decide_eq_true h, Bool.true_and] at q
    walk_at "xs"
    refine ax_lcB (fun c => W.d (.str ⟨#[c]⟩)) x.cps.toList (fun c => decide (97 ≤ c ∧ c ≤ 122)) (sz_ok (by have := ht.2; unfold Str.length at this; simp; omega)) (wk_name (by decide)) (ai_r (ai_r (ai_str ?_))) ?_ ?_
    · walk_at "xs"
      exact ⟨trivial, rfl⟩
    · intro c hc
      show AG K _ _ [some (.d (.str x)), none] _ _
      walk_at "xs"
      refine o_inS ?_
      have := occ128 c (ht.1 c hc)
      exact ⟨by show W.d (.bool (!(Builtin.Str.occurrences LT ⟨#[c]⟩ 0 LT.length 1).isEmpty)) = _; rw [this], rfl⟩
    · walk_at "xs"
      refine c_allB ?_
      have e2 : (x.cps.toList.map fun c => decide (97 ≤ c ∧ c ≤ 122)).all id = x.cps.toList.all (fun c => decide (97 ≤ c ∧ c ≤ 122)) := by simp [List.all_map]
      rw [e2]
      refine ⟨_, .bl _, ?_⟩
      refine ite_b (fun h2 => ?_) (fun h2 => ?_)
      · rw [h2, Bool.true_and] at q
        walk_at "xs"
        have hl : 0 < x.cps.toList.length := List.length_pos_iff.mpr h
        have hg : x.cps.toList[x.cps.toList.length - 1]? = some (x.cps.toList[x.cps.toList.length - 1]'(by omega)) := List.getElem?_eq_getElem (by omega)
        have ha : atI x.cps.toList (-1) = some (x.cps.toList[x.cps.toList.length - 1]'(by omega)) := by
          have := atI_end (xs := x.cps.toList.dropLast) (x := x.cps.toList[x.cps.toList.length - 1]'(by omega))
          rw [← List.getLast_eq_getElem h, List.dropLast_concat_getLast h] at this
          rw [this, List.getLast_eq_getElem h]
        refine o_ixS (sz_txt ht) ha ?_
        walk_at "xs"
        rw [List.getLast?_eq_getElem?, hg] at q
        have e3 : (!decide ((⟨#[x.cps.toList[x.cps.toList.length - 1]'(by omega)]⟩ : Str) = "a")) = decide (some (x.cps.toList[x.cps.toList.length - 1]'(by omega)) ≠ some 97) := by
          generalize x.cps.toList[x.cps.toList.length - 1]'(by omega) = c
          by_cases hc : c = 97
          · subst hc
            decide
          · have n1 : ¬ ((⟨#[c]⟩ : Str) = "a") := fun z => hc (by
              have z2 : (⟨#[c]⟩ : Str).cps.toList = ("a" : Str).cps.toList := by rw [z]
              have z3 : [c] = [97] := z2
              simpa using z3)
            have n2 : some c ≠ some 97 := fun z => hc (Option.some.inj z)
            rw [decide_eq_false n1, decide_eq_true n2]
            rfl
        rw [e3]
        exact q
      · rw [h2, Bool.false_and] at q
        show R (.d (.bool _)) μ
        rw [h2]
        exact q
theorem p18 : (10 : Int) ^ (18 : Int).toNat = 1000000000000000000 := by decide +kernel
theorem p27 : (10 : Int) ^ (27 : Int).toNat = 1000000000000000000000000000 := by decide +kernel
theorem p28 : (10 : Int) ^ (28 : Int).toNat = 10000000000000000000000000000 := by decide +kernel
theorem p29 : (10 : Int) ^ (29 : Int).toNat = 100000000000000000000000000000 := by decide +kernel
theorem p30 : (10 : Int) ^ (30 : Int).toNat = 1000000000000000000000000000000 := by decide +kernel
theorem p20 : (10 : Int) ^ (20 : Int).toNat = 100000000000000000000 := by decide +kernel
theorem p6 : (10 : Int) ^ (6 : Int).toNat = 1000000 := by decide +kernel
theorem ten_ok {j : Int} (h0 : 0 ≤ j) (h1 : j ≤ 1000) : COp 10 j := pow_ok (a := 4) h0 (by decide) (by omega)
theorem mul_r {i j : Int} (h : -(2 ^ 64) < j ∧ j < 2 ^ 64) : CMul i j := .inr h
theorem mul_l {i j : Int} (h : -(2 ^ 64) < i ∧ i < 2 ^ 64) : CMul i j := .inl h
theorem div_ok {i j : Int} (h : 0 < j) (hb : j < 2 ^ 200) : CDivW i j := wide_div (b := 200) h (by omega) (by decide) (by decide)
theorem rng_split {n : Nat} {pre post : List Nat} {x : Nat} (h : List.range n = pre ++ x :: post) : x = pre.length ∧ x < n := by
  have e : (List.range n)[pre.length]? = some x := by rw [h]; simp
  have l := congrArg List.length h
  simp at l
  rw [List.getElem?_range (by omega)] at e
  have e' := Option.some.inj e
  exact ⟨e'.symm, by omega⟩
theorem rd_all_strings {K : PySem.W.Frag} : ∀ ws μ R, F_all_strings ws μ R → AS K (t_all_strings K) { nx := fun _ μ' => R (.d .none) μ', rt := R } (stG n_all_strings ws) μ := by
  rintro ws μ R ⟨n, rfl, hn, q⟩
  show AS K _ _ [some (.d (.int n)), none, none] μ
  unfold t_all_strings
  walk_at "xs"
  refine as_for (fun (i : Nat) => W.d (.int (0 + i))) (List.range n) (fun pre Γ' μ' => ∃ z, Γ' = [some (.d (.int n)), some (.d (.int ((26 ^ pre.length : Nat) : Int))), z] ∧ μ' = μ) (ai_rng1 ?_) ?_ ?_
  · walk_at "xs"
    exact ⟨by omega, rfl, fun _ _ _ _ => trivial, none, rfl, rfl⟩
  · rintro pre x post Γ' μ' e ⟨z, rfl, rfl⟩
    walk_at "xs"
    refine ao_cI (g := fun i j => i * j) (mul_r (by decide)) ?_
    have e5 : ((26 ^ (pre ++ [x]).length : Nat) : Int) = ((26 ^ pre.length : Nat) : Int) * 26 := by rw [List.length_append, List.length_singleton, Nat.pow_succ, Int.natCast_mul]; rfl
    rw [e5]
    exact ⟨some (.d (.int (0 + (x : Int)))), rfl, rfl⟩
  · rintro Γ' μ' ⟨z, rfl, rfl⟩
    rw [List.length_range]
    walk_at "xs"
    exact q
theorem dg_get {l : List Nat} {k : Nat} (hk : k < l.length) : l[k]? = some (dg l k) := by
  unfold dg
  rw [List.getElem?_eq_getElem hk]
  rfl
theorem pad_get {l : List Nat} {n k : Nat} (hk : k < n) : ((l ++ List.replicate n 0).take n)[k]? = some (dg l k) := by
  rw [List.getElem?_take, if_pos hk]
  by_cases h : k < l.length
  · rw [List.getElem?_append_left h, dg_get h]
  · rw [List.getElem?_append_right (by omega), List.getElem?_replicate, if_pos (by omega)]
    unfold dg
    rw [List.getElem?_eq_none (by omega)]
    rfl
theorem rep_a (n : Nat) : repS ("a" : Str) n = S (List.replicate n 0) := by
  refine str_eq ?_
  rw [S_list]
  unfold repS
  show ((List.replicate n [97]).flatten.toArray).toList = _
  simp [List.flatten_replicate_singleton]
theorem cutS_to (l : List Nat) (n : Nat) : cutS (S l) none (some (n : Int)) = S (l.take n) := by
  refine str_eq ?_
  unfold cutS
  rw [HT.sIx_none, HT.sIx_nat, List.drop_zero, Nat.sub_zero, S_list, S_list, S_len]
  show List.take (min n l.length) (l.map (· + 97)) = _
  rw [List.map_take]
  exact List.take_eq_take_iff.mpr (by simp)
theorem rd_value_of {K : PySem.W.Frag} : ∀ ws μ R, F_value_of ws μ R → AS K (t_value_of K) { nx := fun _ μ' => R (.d .none) μ', rt := R } (stG n_value_of ws) μ := by
  rintro ws μ R ⟨l, n, rfl, hl, h1, h2, q⟩
  show AS K _ _ [some (.d (.str (S l))), some (.d (.int n)), none, none] μ
  unfold t_value_of
  walk_at "xs"
  refine as_for (fun c => W.d (.str ⟨#[c]⟩)) ((l ++ List.replicate n 0).take n |>.map (· + 97)) (fun pre Γ' μ' => ∃ z, Γ' = [some (.d (.str (S l))), some (.d (.int n)), some (.d (.int ((val pre.length l : Nat) : Int))), z] ∧ μ' = μ) (ai_r (ai_r (ai_str ?_))) ?_ ?_
  · walk_at "xs"
    refine o_mulS (by omega) (by omega) (by decide) ?_
    rw [show ((n : Int)).toNat = n from rfl, rep_a]
    refine o_addS (sz_ok (by rw [S_len, S_len, List.length_replicate]; omega)) ?_
    rw [S_app]
    walk_at "xs"
    refine o_slS (sz_ok (by rw [S_len, List.length_append, List.length_replicate]; omega)) ?_
    rw [cutS_to]
    refine ⟨_, rfl, by rw [S_list], fun _ _ _ _ => trivial, none, rfl, rfl⟩
  · rintro pre c post Γ' μ' e ⟨z, rfl, rfl⟩
    have hk : pre.length < n := by
      have := congrArg List.length e
      simp at this
      omega
    have hc : c = dg l pre.length + 97 := by
      have h : (((l ++ List.replicate n 0).take n).map (· + 97))[pre.length]? = some c := by rw [e]; simp
      rw [List.getElem?_map, pad_get hk] at h
      exact (Option.some.inj h).symm
    subst hc
    walk_at "xs"
    refine o_mulV (mul_r (by decide)) ?_
    walk_at "xs"
    refine am_sindex (occ_at _ (M77.dg_lt hl _)) ?_
    walk_at "xs"
    have e5 : ((val (pre ++ [dg l pre.length + 97]).length l : Nat) : Int) = ((val pre.length l : Nat) : Int) * 26 + (dg l pre.length : Nat) := by rw [List.length_append, List.length_singleton]; rfl
    rw [e5]
    exact ⟨_, rfl, rfl⟩
  · rintro Γ' μ' ⟨z, rfl, rfl⟩
    have hn : ((l ++ List.replicate n 0).take n |>.map (· + 97)).length = n := by simp
    rw [hn]
    walk_at "xs"
    exact q
theorem S_cons (d : Nat) (l : List Nat) : (⟨#[d + 97]⟩ : Str) ++ S l = S (d :: l) := by
  rw [← S_one, S_app]
  rfl
theorem rd_string_of {K : PySem.W.Frag} : ∀ ws μ R, F_string_of ws μ R → AS K (t_string_of K) { nx := fun _ μ' => R (.d .none) μ', rt := R } (stG n_string_of ws) μ := by
  rintro ws μ R ⟨v, n, rfl, hn, q⟩
  show AS K _ _ [some (.d (.int v)), some (.d (.int n)), none, none] μ
  unfold t_string_of
  walk_at "xs"
  refine as_for (fun (i : Nat) => W.d (.int (0 + i))) (List.range n) (fun pre Γ' μ' => ∃ z, Γ' = [some (.d (.int ((v / 26 ^ pre.length : Nat) : Int))), some (.d (.int n)), some (.d (.str (S (digs pre.length v)))), z] ∧ μ' = μ) (ai_rng1 ?_) ?_ ?_
  · walk_at "xs"
    refine ⟨by omega, rfl, fun _ _ _ _ => trivial, none, ?_, rfl⟩
    rw [List.length_nil, Nat.pow_zero, Nat.div_one]
    rfl
  · rintro pre x post Γ' μ' e ⟨z, rfl, rfl⟩
    obtain ⟨e1, e2⟩ := rng_split e
    walk_at "xs"
    refine o_modI (by decide) ?_
    have em : ((v / 26 ^ pre.length : Nat) : Int) % 26 = (((v / 26 ^ pre.length) % 26 : Nat) : Int) := rfl
    rw [em]
    refine o_ixS (sz_ok (by decide)) (atI_get (lt_at _ (Nat.mod_lt _ (by decide)))) ?_
    walk_at "xs"
    refine o_addS (sz_ok (by rw [S_len, M77.digs_len]; show 1 + pre.length ≤ _; omega)) ?_
    rw [S_cons]
    walk_at "xs"
    refine ao_cI (g := fun i j => i / j) ⟨by decide, by decide⟩ ?_
    have e5 : ((v / 26 ^ (pre ++ [x]).length : Nat) : Int) = ((v / 26 ^ pre.length : Nat) : Int) / 26 := by rw [List.length_append, List.length_singleton, Nat.pow_succ, ← Nat.div_div_eq_div_mul]; rfl
    have e6 : digs (pre ++ [x]).length v = (v / 26 ^ pre.length) % 26 :: digs pre.length v := by rw [List.length_append, List.length_singleton]; rfl
    rw [e5, e6]
    exact ⟨_, rfl, rfl⟩
  · rintro Γ' μ' ⟨z, rfl, rfl⟩
    rw [List.length_range]
    walk_at "xs"
    exact q
theorem okw_ds {o : Option (List Nat)} (h : okw o) : Ds (low o) ∧ (low o).length ≤ 11 := by
  cases o with
  | none => exact ⟨(fun d x => by cases x), by decide⟩
  | some l => exact ⟨(h l rfl).1.1, (h l rfl).2⟩
theorem rd_first_above {K : PySem.W.Frag} : ∀ ws μ R, F_first_above ws μ R → AS K (t_first_above K) { nx := fun _ μ' => R (.d .none) μ', rt := R } (stG n_first_above ws) μ := by
  rintro ws μ R ⟨o, n, rfl, ho, hn, q⟩
  show AS K _ _ [some (.d (wd o)), some (.d (.int n)), none] μ
  unfold t_first_above
  have hl := okw_ds ho
  refine as_cut (fun Γ' μ' => Γ' = [some (.d (wd o)), some (.d (.int n)), some (.d (.int ((val n (low o) : Nat) : Int)))] ∧ μ' = μ) ?_ ?_
  · cases o with
    | none =>
      walk_at "xi"
      exact ⟨by rw [show low none = [] from rfl, M77.val_nil]; rfl, rfl⟩
    | some l =>
      walk_at "xi"
      refine ⟨l, n, rfl, hl.1, by have : l.length ≤ 11 := hl.2; omega, hn, ?_⟩
      walk_at "xs"
      exact rfl
  · rintro Γ' μ' ⟨rfl, rfl⟩
    refine as_cut (fun Γ' m => Γ' = [some (.d (wd o)), some (.d (.int n)), some (.d (.int ((cand (low o) n : Nat) : Int)))] ∧ m = μ') ?_ ?_
    · walk_at "xs"
      refine o_modI (by decide) ?_
      walk_at "xs"
      unfold M77.cand
      refine ite_b (fun h => ?_) (fun h => ?_)
      · have h' := of_decide_eq_true h
        rw [if_pos (by omega)]
        walk_at "xs"
        exact rfl
      · have h' := of_decide_eq_false h
        rw [if_neg (by omega)]
        walk_at "xs"
        exact rfl
    · rintro Γ' m ⟨rfl, rfl⟩
      walk_at "xs"
      refine ⟨n, rfl, hn, ?_⟩
      walk_at "xs"
      refine ite_b (fun h => ?_) (fun h => ?_)
      · have h' := of_decide_eq_true h
        rw [if_pos (by omega)] at q
        walk_at "xs"
        exact ⟨_, n, rfl, hn, q⟩
      · have h' := of_decide_eq_false h
        rw [if_neg (by omega)] at q
        walk_at "xs"
        exact q
theorem lex_S (l m : List Nat) : decide ((S l).cps.toList < (S m).cps.toList) = lex l m := by
  rw [S_list, S_list]
  exact M77.lex_map l m
theorem pw_digs {n v : Nat} (h : v % 26 ≠ 0) (hn : 1 ≤ n) : Pw (digs n v) := by
  obtain ⟨k, rfl⟩ : ∃ k, n = k + 1 := ⟨n - 1, by omega⟩
  refine ⟨M77.digs_ds _ _, by rw [M77.digs_len]; omega, ?_⟩
  rw [M77.digs_len, Nat.add_sub_cancel, M77.dg_last]
  exact h
theorem cand_mod (l : List Nat) (n : Nat) : cand l n % 26 ≠ 0 := by
  unfold M77.cand
  split <;> omega
/-- the loop's test -/
theorem stops {o p : Option (List Nat)} {n : Nat} (ho : okw o) (hp : okw p) (h1 : 1 ≤ n) (h2 : n ≤ 12) (hc : cand (low o) n < 26 ^ n) : M77.cP (low o) (top p) n ↔ (∀ m, p = some m → lex (digs n (cand (low o) n)) m = true) := by
  cases p with
  | none =>
    constructor
    · intro _ m h; cases h
    · intro _
      refine ⟨hc, ?_⟩
      have := Nat.mul_lt_mul_of_pos_right hc (Nat.pow_pos (n := 12 - n) (show 0 < 26 by decide))
      rw [← Nat.pow_add, show n + (12 - n) = 12 by omega] at this
      exact this
  | some m =>
    obtain ⟨hm, lm⟩ := hp m rfl
    have e : lex (digs n (cand (low o) n)) m = decide (val 12 (digs n (cand (low o) n)) < val 12 m) := M77.lex_iff (pw_digs (cand_mod _ _) h1) hm (by rw [M77.digs_len]; exact h2) (by omega)
    have e2 : val 12 (digs n (cand (low o) n)) = cand (low o) n * 26 ^ (12 - n) := by
      have := M77.val_digs_add hc (12 - n)
      rw [show n + (12 - n) = 12 by omega] at this
      exact this
    rw [e2] at e
    constructor
    · intro h m' hm'
      cases hm'
      rw [e]
      exact decide_eq_true h.2
    · intro h
      have := h m rfl
      rw [e] at this
      exact ⟨hc, of_decide_eq_true this⟩
theorem rd_first_between {K : PySem.W.Frag} : ∀ ws μ R, F_first_between ws μ R → AS K (t_first_between K) { nx := fun _ μ' => R (.d .none) μ', rt := R } (stG n_first_between ws) μ := by
  rintro ws μ R ⟨o, p, L, rfl, ho, hp, hF, q⟩
  show AS K _ _ [some (.d (wd o)), some (.d (wd p)), none, none] μ
  unfold t_first_between
  have hl := okw_ds ho
  obtain ⟨L1, L2, L3, L4⟩ := id hF
  let fnd : Nat → PyData := fun n => if cand (low o) n < 26 ^ n then .str (S (digs n (cand (low o) n))) else .none
  walk_at "xs"
  refine ⟨o, 1, rfl, ho, by decide, ?_⟩
  walk_at "xs"
  refine as_while (fun m Γ' μ' => ∃ n : Nat, Γ' = [some (.d (wd o)), some (.d (wd p)), some (.d (.int n)), some (.d (fnd n))] ∧ μ' = μ ∧ 1 ≤ n ∧ n ≤ L ∧ m = L - n) _ ⟨1, rfl, rfl, by omega, L1, rfl⟩ ?_
  rintro m Γ' μ' ⟨n, rfl, rfl, n1, n2, rfl⟩
  have go : n < L → AS K (tSeq (tAug 2 (tC (.int 1)) (fun x y H Q => rAddI x y H Q ∨ rAddS x y H Q)) (tAsg (tCallS (spD K F_first_above) Ez (tCons (tVar 0) (tCons (tVar 2) tNil))) (gName 3)))
      { nx := fun Γ2 μ2 => ∃ m', m' < L - n ∧ ∃ n : Nat, Γ2 = [some (.d (wd o)), some (.d (wd p)), some (.d (.int n)), some (.d (fnd n))] ∧ μ2 = μ' ∧ 1 ≤ n ∧ n ≤ L ∧ m' = L - n, rt := R, bk := fun Γ1 μ1 => AS K (tRet (tVar 3)) { nx := fun _ μ' => R (.d .none) μ', rt := R } Γ1 μ1,
        ct := fun Γ2 μ2 => ∃ m', m' < L - n ∧ ∃ n : Nat, Γ2 = [some (.d (wd o)), some (.d (wd p)), some (.d (.int n)), some (.d (fnd n))] ∧ μ2 = μ' ∧ 1 ≤ n ∧ n ≤ L ∧ m' = L - n } [some (.d (wd o)), some (.d (wd p)), some (.d (.int n)), some (.d (fnd n))] μ' := fun hlt => by
    walk_at "xs"
    rw [show (n : Int) + 1 = ((n + 1 : Nat) : Int) by omega]
    refine ⟨o, n + 1, rfl, ho, by omega, ?_⟩
    walk_at "xs"
    exact ⟨L - (n + 1), by omega, n + 1, rfl, rfl, by omega, by omega, rfl⟩
  have stop : n = L → fnd n = .str (S (digs L (val L (low o) + 1))) := fun e => by
    subst e
    show (if cand (low o) n < 26 ^ n then _ else _) = _
    rw [if_pos (hF.cP hl.1).1, hF.cand hl.1]
  have notP : n < L → ¬ M77.cP (low o) (top p) n := fun hlt h => L4 n n1 hlt (M77.cP_cC h)
  by_cases hc : cand (low o) n < 26 ^ n
  · have ef : fnd n = .str (S (digs n (cand (low o) n))) := if_pos hc
    rw [ef]
    rw [ef] at go
    walk_at "xi"
    have st := stops ho hp n1 (by omega) hc
    cases p with
    | none =>
      have hP := st.mpr (fun m h => by cases h)
      have e : n = L := by
        rcases Nat.lt_or_ge n L with h | h
        · exact absurd hP (notP h)
        · omega
      walk_at "xi"
      rw [← ef, stop e]
      exact q
    | some m =>
      refine ite_t rfl ?_
      rw [show wd (some m) = PyData.str (S m) from rfl] at go ⊢
      walk_at "xs"
      rw [lex_S]
      by_cases hlex : lex (digs n (cand (low o) n)) m = true
      · have hP := st.mpr (fun m' h => by cases h; exact hlex)
        have e : n = L := by
          rcases Nat.lt_or_ge n L with h | h
          · exact absurd hP (notP h)
          · omega
        rw [hlex]
        refine ite_f rfl ?_
        walk_at "xs"
        rw [← ef, stop e]
        exact q
      · have hne : n ≠ L := fun e => by
          subst e
          exact hlex (st.mp (hF.cP hl.1) m rfl)
        rw [Bool.eq_false_iff.mpr hlex]
        refine ite_t rfl ?_
        exact go (by omega)
  · have ef : fnd n = .none := if_neg hc
    have hne : n ≠ L := fun e => by
      subst e
      exact hc (hF.cP hl.1).1
    rw [ef]
    walk_at "xi"
    dsimp only [List.set_cons_zero, List.set_cons_succ]
    rw [show (n : Int) + 1 = ((n + 1 : Nat) : Int) by omega]
    refine ⟨o, n + 1, rfl, ho, by omega, ?_⟩
    walk_at "xs"
    exact ⟨L - (n + 1), by omega, n + 1, rfl, rfl, by omega, by omega, rfl⟩
theorem rd_need_word {K : PySem.W.Frag} (xk : L2.XK) : ∀ ws μ R E, F_need_word ws μ R E → AS K (t_need_word K fun c d _ H => xk c d H) (xD R E xk) (stG n_need_word ws) μ := by
  rintro ws μ R E (⟨rfl, q⟩ | ⟨x, rfl, ht, h1, h2⟩)
  · show AS K _ _ [some (.d .none)] μ
    unfold t_need_word
    walk_at "xi"
    exact q
  · show AS K _ _ [some (.d (.str x))] μ
    unfold t_need_word
    walk_at "xi"
    refine ⟨x, rfl, ht, ?_⟩
    cases hw : isW x with
    | true =>
      walk_at "xi"
      exact h1 hw
    | false =>
      walk_at "xi"
      exact h2 hw
theorem lex_asym : ∀ l m : List Nat, lex l m = true → lex m l = false
  | [], [], h => by cases h
  | [], _ :: _, _ => rfl
  | _ :: _, [], h => by cases h
  | a :: r, b :: t, h => by
    simp only [M77.lex, Bool.or_eq_true, decide_eq_true_eq, Bool.and_eq_true, beq_iff_eq] at h
    simp only [M77.lex, Bool.or_eq_false_iff, decide_eq_false_iff_not, Bool.and_eq_false_iff, beq_eq_false_iff_ne]
    rcases h with h | ⟨h, k⟩
    · exact ⟨by omega, .inl (by omega)⟩
    · exact ⟨by omega, .inr (lex_asym r t k)⟩
theorem okw_need {o : Option (List Nat)} (ho : okw o) {R : W → Mu → Prop} {E : Str → W → Mu → Prop} {μ : Mu} (q : R (.d .none) μ) : F_need_word [.d (wd o)] μ R E := by
  cases o with
  | none => exact .inl ⟨rfl, q⟩
  | some l => exact .inr ⟨S l, rfl, txt_S (ho l rfl).1.1 (by have := (ho l rfl).2; omega), fun _ => q, (fun h => by rw [isW_S (ho l rfl).1] at h; cases h)⟩
theorem rd_word_between {K : PySem.W.Frag} (xk : L2.XK) : ∀ ws μ R E, F_word_between ws μ R E → AS K (t_word_between K fun c d _ H => xk c d H) (xD R E xk) (stG n_word_between ws) μ := by
  rintro ws μ R E (⟨v, h, q⟩ | ⟨o, p, L, rfl, ho, hp, hlex, hF, q⟩)
  · rcases h with ⟨y, rfl, ht, hw⟩ | ⟨o, rfl, ho, ht, hw⟩ | ⟨l, m, rfl, rfl, hl, hm, hlex⟩
    · show AS K _ _ [some (.d (.str v)), some (.d y)] μ
      unfold t_word_between
      walk_at "xs"
      exact .inr ⟨v, rfl, ht, (fun h => by rw [hw] at h; cases h), fun _ => q⟩
    · show AS K _ _ [some (.d (wd o)), some (.d (.str v))] μ
      unfold t_word_between
      walk_at "xs"
      refine okw_need ho ?_
      walk_at "xs"
      exact .inr ⟨v, rfl, ht, (fun h => by rw [hw] at h; cases h), fun _ => q⟩
    · show AS K _ _ [some (.d (wd (some l))), some (.d (wd (some m)))] μ
      unfold t_word_between
      walk_at "xs"
      refine okw_need hl ?_
      walk_at "xs"
      refine okw_need hm ?_
      rw [show wd (some m) = PyData.str (S m) from rfl, show wd (some l) = PyData.str (S l) from rfl]
      walk_at "xi"
      rw [lex_S, hlex]
      walk_at "xi"
      exact q
  · show AS K _ _ [some (.d (wd o)), some (.d (wd p))] μ
    unfold t_word_between
    walk_at "xs"
    refine okw_need ho ?_
    walk_at "xs"
    refine okw_need hp ?_
    cases o with
    | none =>
      walk_at "xi"
      exact ⟨none, p, L, rfl, ho, hp, hF, q⟩
    | some l =>
      cases p with
      | none =>
        walk_at "xi"
        exact ⟨some l, none, L, rfl, ho, hp, hF, q⟩
      | some m =>
        rw [show wd (some m) = PyData.str (S m) from rfl, show wd (some l) = PyData.str (S l) from rfl]
        walk_at "xi"
        rw [lex_S, hlex l m rfl rfl]
        walk_at "xi"
        exact ⟨some l, some m, L, rfl, ho, hp, hF, q⟩
theorem Nx.refl (j k : Nat) (μ : Mu) : Nx j k μ μ := ⟨rfl, fun _ _ _ => rfl⟩
theorem Nx.trans {j k : Nat} {a b c : Mu} (h : Nx j k a b) (h2 : Nx j k b c) : Nx j k a c := ⟨h2.1.trans h.1, fun i x y => (h2.2 i x y).trans (h.2 i x y)⟩
theorem Nx.setk {j k : Nat} {a b : Mu} {c : Option C} (h : Nx j k a b) : Nx j k a (b.set k c) := ⟨by rw [List.length_set]; exact h.1, fun i x y => by rw [mu_ne (fun z => y z.symm)]; exact h.2 i x y⟩
theorem Nx.setj {j k : Nat} {a b : Mu} {c : Option C} (h : Nx j k a b) : Nx j k a (b.set j c) := ⟨by rw [List.length_set]; exact h.1, fun i x y => by rw [mu_ne (fun z => x z.symm)]; exact h.2 i x y⟩
theorem Pl.le {j k n m : Nat} {μ : Mu} (h : Pl j k n μ) (e : n ≤ m) : Pl j k m μ := by
  obtain ⟨ns, a, b, c, h1, h2, h3, h4, h5, h6, h7, h8, h9⟩ := h
  exact ⟨ns, a, b, c, h1, h2, h3, h4, h5, h6, h7, h8, by omega⟩
theorem pl_mk {j k n : Nat} {μ : Mu} {ns : List Int} {a b c : Int} (h1 : μ[j]? = some (some (.lst (wInts ns)))) (h2 : μ[k]? = some (some (.lst [.m j, .d (.int a), .d (.int b), .d (.int c)]))) (h3 : j ≠ k) (h4 : ns.length ≤ 63)
    (h5 : 0 ≤ a) (h6 : 0 ≤ b) (h7 : b < 2147483647) (h8 : 0 ≤ c) (h9 : c ≤ n) : Pl j k n μ := ⟨ns, a, b, c, h1, h2, h3, h4, h5, h6, h7, h8, h9⟩
theorem eqv_nil' (ns : List Int) : PyData.eqv (dInts ns) (.list []) = decide (ns = []) := eqv_ints ns []
theorem rd__law_pool {K : PySem.W.Frag} : ∀ ws μ R, F__law_pool ws μ R → AS K (t__law_pool K) { nx := fun _ μ' => R (.d .none) μ', rt := R } (stG n__law_pool ws) μ := by
  rintro ws μ R ⟨ns, rfl, hl, q⟩
  show AS K _ _ [some (.f (wInts ns))] μ
  unfold t__law_pool
  walk_at "xs"
  refine NL.m ?_
  walk_at "xs"
  refine NL.m ?_
  have e : (μ ++ [some (C.lst (wInts ns))]).length = μ.length + 1 := by simp
  rw [e]
  refine q _ (pl_mk (ns := ns) (a := 0) (b := 70001) (c := 0) (mu_app mu_end) ?_ (by omega) hl (by decide) (by decide) (by decide) (by decide) (by decide)) ⟨_, _, by rw [List.append_assoc]; rfl⟩
  rw [← e]
  exact mu_end
theorem rd__law_take {K : PySem.W.Frag} : ∀ ws μ R, F__law_take ws μ R → AS K (t__law_take K) { nx := fun _ μ' => R (.d .none) μ', rt := R } (stG n__law_take ws) μ := by
  rintro ws μ R ⟨j, k, n, many, rfl, ⟨ns, a, b, c, hj, hk, hjk, hl, a0, b0, b1, c0, c1⟩, n1, m0, m1, q⟩
  show AS K (t__law_take K) _ [some (.m k), some (.d (.int many)), none, none, none, none] μ
  unfold t__law_take
  walk_at "xs"
  refine o_ixL (.m hk) rfl ?_
  walk_at "xs"
  refine ite_b (fun h => ?_) (fun h => ?_)
  · have ha : 0 < a := of_decide_eq_true h
    walk_at "xs"
    refine o_ixL (.m hk) rfl ?_
    walk_at "xs"
    refine o_modI m0 ?_
    walk_at "xs"
    refine o_ixL (.m hk) rfl ?_
    walk_at "xs"
    refine o_divI (div_ok m0 (by omega)) ?_
    walk_at "xs"
    refine aset_L (j := 1) hk rfl ?_
    walk_at "xs"
    exact q _ _ (Int.emod_nonneg _ (by omega)) (Int.emod_lt_of_pos _ m0) (pl_mk (by rw [mu_ne hjk.symm]; exact hj) (mu_set hk) hjk hl (Int.ediv_nonneg a0 (by omega)) b0 b1 c0 (by omega)) (Nx.refl _ _ _).setk
  · refine as_next ?_
    walk_at "xs"
    refine o_ixL (.m hk) rfl ?_
    walk_at "xs"
    refine aset_L (j := 3) hk rfl ?_
    have e1 : [W.m j, .d (.int a), .d (.int b), .d (.int c)].set 3 (W.d (.int (c + 1))) = [W.m j, .d (.int a), .d (.int b), .d (.int (c + 1))] := rfl
    rw [e1]
    have hk1 : (μ.set k (some (C.lst [W.m j, .d (.int a), .d (.int b), .d (.int (c + 1))])))[k]? = some (some (C.lst [W.m j, .d (.int a), .d (.int b), .d (.int (c + 1))])) := mu_set hk
    have hj1 : (μ.set k (some (C.lst [W.m j, .d (.int a), .d (.int b), .d (.int (c + 1))])))[j]? = some (some (C.lst (wInts ns))) := by rw [mu_ne hjk.symm]; exact hj
    have nx1 : Nx j k μ (μ.set k (some (C.lst [W.m j, .d (.int a), .d (.int b), .d (.int (c + 1))]))) := (Nx.refl _ _ _).setk
    generalize μ.set k (some (C.lst [W.m j, .d (.int a), .d (.int b), .d (.int (c + 1))])) = μ1 at *
    walk_at "xs"
    have rest : ∀ (cell : Int) (z : Option W) (μ2 : Mu) (ns2 : List Int), ns2.length ≤ 63 → μ2[k]? = some (some (C.lst [W.m j, .d (.int a), .d (.int b), .d (.int (c + 1))])) → μ2[j]? = some (some (C.lst (wInts ns2))) → Nx j k μ μ2 → AS K (tSeq (tAsg (tOp rModI (tCB (rIntU) (tCons (tOp (rAddU K) (tOp (rAddU K) (tOp (rAddU K) (tOp rMulV (tOp (rIx K) (tVar 0) (tC (.int 2))) (tC (.int 48271))) (tOp rModI (tCB (rIntU) (tCons (tVar 3) tNil)) (tC (.int 2147483579)))) (tOp rMulV (tOp rMulV (tC (.int 13)) (tOp (rIx K) (tVar 0) (tC (.int 3)))) (tOp (rIx K) (tVar 0) (tC (.int 3))))) (tC (.int 1))) tNil)) (tC (.int 2147483543))) (gName 5))
        (tSeq (tAsg (tOp rModI (tCB (rIntU) (tCons (tOp (rAddU K) (tOp (rAddU K) (tOp rMulV (tVar 5) (tVar 5)) (tOp rMulV (tC (.int 16807)) (tVar 5))) (tC (.int 29))) tNil)) (tC (.int 2147483497))) (gSub (tVar 0) (tC (.int 2)) rSetL))
        (tRet (tOp rModI (tOp rDivI (tOp (rIx K) (tVar 0) (tC (.int 2))) (tC (.int 53))) (tVar 1))))) { nx := fun _ μ' => R (.d .none) μ', rt := R } [some (.m k), some (.d (.int many)), none, some (.d (.int cell)), z, none] μ2 := fun cell z μ2 ns2 hl2 hk2 hj2 nx2 => by
      walk_at "xs"
      refine o_ixL (.m hk2) rfl ?_
      walk_at "xs"
      refine o_mulV (mul_r (by decide)) ?_
      walk_at "xs"
      refine o_modI (by decide) ?_
      walk_at "xs"
      refine o_ixL (.m hk2) rfl ?_
      refine o_mulV (mul_l (by decide)) ?_
      walk_at "xs"
      refine o_ixL (.m hk2) rfl ?_
      refine o_mulV (mul_r (by omega)) ?_
      walk_at "xs"
      refine o_modI (by decide) ?_
      generalize b * 48271 + cell % 2147483579 + 13 * (c + 1) * (c + 1) + 1 = y
      have h1 := Int.emod_nonneg y (show (2147483543 : Int) ≠ 0 by decide)
      have h2 := Int.emod_lt_of_pos y (show (0 : Int) < 2147483543 by decide)
      generalize y % (2147483543 : Int) = y2 at *
      walk_at "xs"
      refine o_mulV (mul_r (by omega)) ?_
      walk_at "xs"
      refine o_mulV (mul_l (by decide)) ?_
      walk_at "xs"
      refine o_modI (by decide) ?_
      generalize y2 * y2 + 16807 * y2 + 29 = y3
      have h3 := Int.emod_nonneg y3 (show (2147483497 : Int) ≠ 0 by decide)
      have h4 := Int.emod_lt_of_pos y3 (show (0 : Int) < 2147483497 by decide)
      generalize y3 % (2147483497 : Int) = y4 at *
      walk_at "xs"
      refine aset_L (j := 2) hk2 rfl ?_
      have e2 : [W.m j, .d (.int a), .d (.int b), .d (.int (c + 1))].set 2 (W.d (.int y4)) = [W.m j, .d (.int a), .d (.int y4), .d (.int (c + 1))] := rfl
      rw [e2]
      have hk3 := mu_set (c' := some (C.lst [W.m j, .d (.int a), .d (.int y4), .d (.int (c + 1))])) hk2
      walk_at "xs"
      refine o_ixL (.m hk3) rfl ?_
      walk_at "xs"
      refine o_divI (div_ok (by decide) (by decide)) ?_
      walk_at "xs"
      refine o_modI m0 ?_
      exact q _ _ (Int.emod_nonneg _ (by omega)) (Int.emod_lt_of_pos _ m0) (pl_mk (by rw [mu_ne hjk.symm]; exact hj2) hk3 hjk hl2 a0 h3 (by omega) (by omega) (by omega)) nx2.setk
    refine o_ixL (.m hk1) rfl ?_
    walk_at "xs"
    walk_at "d"
    refine o_neD (.m hj1 (rss_ints ns)) (.d _) (shaped_ints ns) rfl ?_
    rw [show PyData.list (ns.map PyData.int) = dInts ns from rfl, eqv_nil]
    walk_at "xs"
    refine ite_b (fun h => ?_) (fun h => ?_)
    · have hne : ns ≠ [] := by simpa using h
      obtain ⟨x, xs, rfl⟩ : ∃ x xs, ns = x :: xs := by
        cases ns with
        | nil => exact absurd rfl hne
        | cons x xs => exact ⟨x, xs, rfl⟩
      walk_at "x"
      refine as_asg (ax_bm (ax_op (ax_var rfl (ax_int (o_ixL (.m hk1) rfl ⟨⟨rfl, _, hj1⟩, ?_⟩)))))
      walk_at "xs"
      refine am_r (am_popAt (j := 0) hj1 (by decide) (by simp [seqIndex?]) rfl ?_)
      have e3 : (wInts (x :: xs)).eraseIdx 0 = wInts xs := rfl
      rw [e3]
      have hk4 : (μ1.set j (some (C.lst (wInts xs))))[k]? = some (some (C.lst [W.m j, .d (.int a), .d (.int b), .d (.int (c + 1))])) := by rw [mu_ne hjk]; exact hk1
      have hj4 : (μ1.set j (some (C.lst (wInts xs))))[j]? = some (some (C.lst (wInts xs))) := mu_set hj1
      have nx4 := nx1.setj (c := some (C.lst (wInts xs)))
      have hl4 : xs.length ≤ 63 := by simp at hl; omega
      generalize μ1.set j (some (C.lst (wInts xs))) = μ2 at *
      walk_at "xs"
      refine o_powI (ten_ok (by decide) (by decide)) ?_
      rw [p18]
      walk_at "xs"
      refine ite_b (fun h2 => ?_) (fun h2 => ?_)
      · have hx := of_decide_eq_true h2
        walk_at "xs"
        refine o_powI (ten_ok (by decide) (by decide)) ?_
        rw [p18]
        walk_at "xs"
        refine o_divI (div_ok m0 (by omega)) ?_
        walk_at "xs"
        refine aset_L (j := 1) hk4 rfl ?_
        walk_at "xs"
        refine o_modI m0 ?_
        exact q _ _ (Int.emod_nonneg _ (by omega)) (Int.emod_lt_of_pos _ m0) (pl_mk (by rw [mu_ne hjk.symm]; exact hj4) (mu_set hk4) hjk hl4 (Int.ediv_nonneg (by omega) (by omega)) b0 b1 (by omega) (by omega)) nx4.setk
      · refine as_next ?_
        exact rest _ _ _ _ hl4 hk4 hj4 nx4
    · refine as_next ?_
      exact rest _ _ _ _ hl hk1 hj1 nx1
theorem rd__law_power {K : PySem.W.Frag} : ∀ ws μ R, F__law_power ws μ R → AS K (t__law_power K) { nx := fun _ μ' => R (.d .none) μ', rt := R } (stG n__law_power ws) μ := by
  rintro ws μ R ⟨n, rfl, hn, q⟩
  show AS K _ _ [some (.d (.int 26)), some (.d (.int n)), none, none] μ
  unfold t__law_power
  walk_at "xs"
  refine as_for (fun (i : Nat) => W.d (.int (0 + i))) (List.range n) (fun pre Γ' μ' => ∃ z, Γ' = [some (.d (.int 26)), some (.d (.int n)), some (.d (.int ((26 ^ pre.length : Nat) : Int))), z] ∧ μ' = μ) (ai_rng1 ?_) ?_ ?_
  · walk_at "xs"
    exact ⟨by omega, rfl, fun _ _ _ _ => trivial, none, rfl, rfl⟩
  · rintro pre x post Γ' μ' e ⟨z, rfl, rfl⟩
    walk_at "xs"
    refine o_mulV (mul_r (by decide)) ?_
    walk_at "xs"
    have e5 : ((26 ^ (pre ++ [x]).length : Nat) : Int) = ((26 ^ pre.length : Nat) : Int) * 26 := by rw [List.length_append, List.length_singleton, Nat.pow_succ, Int.natCast_mul]; rfl
    rw [e5]
    exact ⟨_, rfl, rfl⟩
  · rintro Γ' μ' ⟨z, rfl, rfl⟩
    rw [List.length_range]
    walk_at "xs"
    exact q
theorem last_S {l : List Nat} (h : l ≠ []) : atI (S l).cps.toList (-1) = some (dg l (l.length - 1) + 97) := by
  have h0 : 0 < l.length := List.length_pos_iff.mpr h
  have e : l = l.dropLast ++ [dg l (l.length - 1)] := by
    have := List.dropLast_concat_getLast h
    rw [List.getLast_eq_getElem h] at this
    have e2 : dg l (l.length - 1) = l[l.length - 1] := by
      unfold dg
      rw [List.getElem?_eq_getElem (by omega)]
      rfl
    rw [e2]
    exact this.symm
  generalize dg l (l.length - 1) = d at *
  rw [e, S_list, List.map_append]
  exact atI_end
theorem cutS_init (l : List Nat) : cutS (S l) none (some (-1)) = S l.dropLast := by
  refine str_eq ?_
  unfold cutS
  rw [HT.sIx_none, List.drop_zero, Nat.sub_zero, S_list, S_list, S_len]
  show List.take (HT.sIx l.length l.length (some (-1))) (l.map (· + 97)) = _
  have e : HT.sIx l.length l.length (some (-1)) = l.length - 1 := by
    show (if (-1 : Int) < 0 then ((-1 : Int) + (l.length : Int)).toNat else min ((-1 : Int)).toNat l.length) = _
    rw [if_pos (by decide)]
    omega
  rw [e, List.dropLast_eq_take, List.map_take]
theorem val_congr {l m : List Nat} (h : ∀ i, dg l i = dg m i) : ∀ n, val n l = val n m
  | 0 => rfl
  | n + 1 => by
    show val n l * 26 + dg l n = val n m * 26 + dg m n
    rw [val_congr h n, h n]
theorem dg_init {l : List Nat} (h : dg l (l.length - 1) = 0) (i : Nat) : dg l.dropLast i = dg l i := by
  by_cases hi : i < l.length - 1
  · unfold dg
    rw [List.dropLast_eq_take, List.getElem?_take, if_pos hi]
  · have e1 : dg l.dropLast i = 0 := by
      unfold dg
      rw [List.getElem?_eq_none (by rw [List.length_dropLast]; omega)]
      rfl
    rw [e1]
    by_cases e : i = l.length - 1
    · rw [e, h]
    · unfold dg
      rw [List.getElem?_eq_none (by omega)]
      rfl
theorem rd__law_word_of {K : PySem.W.Frag} : ∀ ws μ R, F__law_word_of ws μ R → AS K (t__law_word_of K) { nx := fun _ μ' => R (.d .none) μ', rt := R } (stG n__law_word_of ws) μ := by
  rintro ws μ R ⟨v, n, rfl, hn, q⟩
  show AS K _ _ [some (.d (.int v)), some (.d (.int n)), none, none] μ
  unfold t__law_word_of
  walk_at "xs"
  refine as_for (fun (i : Nat) => W.d (.int (0 + i))) (List.range n) (fun pre Γ' μ' => ∃ z, Γ' = [some (.d (.int ((v / 26 ^ pre.length : Nat) : Int))), some (.d (.int n)), some (.d (.str (S (digs pre.length v)))), z] ∧ μ' = μ) (ai_rng1 ?_) ?_ ?_
  · walk_at "xs"
    refine ⟨by omega, rfl, fun _ _ _ _ => trivial, none, ?_, rfl⟩
    rw [List.length_nil, Nat.pow_zero, Nat.div_one]
    rfl
  · rintro pre x post Γ' μ' e ⟨z, rfl, rfl⟩
    obtain ⟨e1, e2⟩ := rng_split e
    walk_at "xs"
    refine o_modI (by decide) ?_
    have em : ((v / 26 ^ pre.length : Nat) : Int) % 26 = (((v / 26 ^ pre.length) % 26 : Nat) : Int) := rfl
    rw [em]
    refine o_ixS (sz_ok (by decide)) (atI_get (lt_at _ (Nat.mod_lt _ (by decide)))) ?_
    walk_at "xs"
    refine o_addS (sz_ok (by rw [S_len, M77.digs_len]; show 1 + pre.length ≤ _; omega)) ?_
    rw [S_cons]
    walk_at "xs"
    refine o_divI (div_ok (by decide) (by decide)) ?_
    walk_at "xs"
    have e5 : ((v / 26 ^ (pre ++ [x]).length : Nat) : Int) = ((v / 26 ^ pre.length : Nat) : Int) / 26 := by rw [List.length_append, List.length_singleton, Nat.pow_succ, ← Nat.div_div_eq_div_mul]; rfl
    have e6 : digs (pre ++ [x]).length v = (v / 26 ^ pre.length) % 26 :: digs pre.length v := by rw [List.length_append, List.length_singleton]; rfl
    rw [e5, e6]
    exact ⟨_, rfl, rfl⟩
  · rintro Γ' μ' ⟨z, rfl, rfl⟩
    rw [List.length_range]
    refine as_seq ?_
    refine as_while (fun m Γ' μ2 => ∃ l, Γ' = [some (.d (.int ((v / 26 ^ n : Nat) : Int))), some (.d (.int n)), some (.d (.str (S l))), z] ∧ μ2 = μ' ∧ Ds l ∧ (∀ N, val N l = val N (digs n v)) ∧ l.length ≤ n ∧ (v % 26 ≠ 0 → 0 < n → l = digs n v) ∧ m = l.length) _
      ⟨digs n v, rfl, rfl, M77.digs_ds _ _, fun _ => rfl, by rw [M77.digs_len]; exact Nat.le_refl _, fun _ _ => rfl, rfl⟩ ?_
    rintro m Γ' μ2 ⟨l, rfl, rfl, hd, hv, hl, hm, rfl⟩
    walk_at "xs"
    rw [S_empty]
    by_cases h : l = []
    · subst h
      rw [decide_eq_true rfl]
      walk_at "xi"
      exact q [] hd hv (fun z => absurd z (by simp)) hl hm
    · rw [decide_eq_false h]
      refine ite_t rfl ?_
      walk_at "xs"
      refine o_ixS (sz_ok (by rw [S_len]; omega)) (last_S h) ?_
      walk_at "xs"
      have ea : decide ((⟨#[dg l (l.length - 1) + 97]⟩ : Str) = "a") = decide (dg l (l.length - 1) = 0) := by
        rw [← S_one]
        by_cases h0 : dg l (l.length - 1) = 0
        · rw [h0]; rfl
        · rw [decide_eq_false h0, decide_eq_false]
          intro z
          have z2 : S [dg l (l.length - 1)] = S [0] := z
          have z3 := S_inj z2
          simp at z3
          exact h0 z3
      rw [ea]
      refine ite_b (fun h2 => ?_) (fun h2 => ?_)
      · have h0 := of_decide_eq_true h2
        walk_at "xs"
        refine o_slS (sz_ok (by rw [S_len]; omega)) ?_
        rw [cutS_init]
        walk_at "xs"
        have hpos : 0 < l.length := List.length_pos_iff.mpr h
        refine ⟨l.length - 1, by omega, l.dropLast, rfl, rfl, fun d hx => hd d (List.dropLast_subset l hx), fun N => by rw [← hv N]; exact val_congr (dg_init h0) N, by rw [List.length_dropLast]; omega, fun a b => ?_, by rw [List.length_dropLast]⟩
        exfalso
        have e := hm a b
        subst e
        obtain ⟨k, rfl⟩ : ∃ k, n = k + 1 := ⟨n - 1, by omega⟩
        rw [M77.digs_len, Nat.add_sub_cancel, M77.dg_last] at h0
        exact a h0
      · have h0 := of_decide_eq_false h2
        walk_at "xs"
        exact q l hd hv (fun _ => h0) hl hm
theorem p26 : (26 : Int) ^ (12 : Int).toNat = ((26 ^ 12 : Nat) : Int) := by decide +kernel
theorem val_pos {m : List Nat} (hm : Pw m) (hl : m.length ≤ 12) : 0 < val 12 m := by
  rcases Nat.eq_zero_or_pos (val 12 m) with h | h
  · have := M77.val_inj 12 m [] hm.1 (fun d x => by cases x) hl (by decide) (fun _ => hm.2.2) (fun z => absurd z (by decide)) (by rw [h, M77.val_nil])
    have h0 := hm.2.1
    rw [this] at h0
    cases h0
  · exact h
theorem first_of {o p : Option (List Nat)} (ho : okw o) (hp : okw p) (h : ∀ l m, o = some l → p = some m → lex l m = true) : ∃ L, L ≤ most o p ∧ First (low o) (top p) L := by
  have h1 := okw_ds ho
  have h2 := okw_ds hp
  have hm1 : 1 ≤ most o p := by unfold most; omega
  have hm2 : most o p ≤ 12 := by unfold most; omega
  refine M77.first_ex hm1 hm2 ?_
  cases p with
  | none => exact M77.cC_none h1.1 (by unfold most; omega) hm2
  | some m =>
    have wm := hp m rfl
    refine M77.cC_top (high := m) h1.1 wm.1.1 (by unfold most; omega) (by show m.length < max _ (m.length + 1); omega) hm2 ?_
    cases o with
    | none =>
      rw [show low none = [] from rfl, M77.val_nil]
      exact val_pos wm.1 (by omega)
    | some l =>
      have wl := ho l rfl
      have e := M77.lex_iff (N := 12) wl.1 wm.1 (by omega) (by omega)
      rw [h l m rfl rfl] at e
      exact of_decide_eq_true e.symm
theorem nx_app {j k : Nat} {μ μ' : Mu} {c d : Option C} (hj : j = μ.length) (hk : k = μ.length + 1) (h : Nx j k (μ ++ [c, d]) μ') : ∃ cs, μ' = μ ++ cs := by
  obtain ⟨h1, h2⟩ := h
  refine ⟨μ'.drop μ.length, ?_⟩
  have e : μ'.take μ.length = μ := by
    apply List.ext_getElem?
    intro i
    rw [List.getElem?_take]
    by_cases hi : i < μ.length
    · rw [if_pos hi, h2 i (by omega) (by omega), List.getElem?_append_left hi]
    · rw [if_neg hi, List.getElem?_eq_none (by omega)]
  conv => lhs; rw [← List.take_append_drop μ.length μ']
  rw [e]
theorem wrong_len {ws : List W} {v : Str} (h : Wrong ws v) : ws.length = 2 := by
  rcases h with ⟨y, e, _⟩ | ⟨o, e, _⟩ | ⟨l, m, e, _⟩ <;> (rw [e]; rfl)
theorem lenx_word_between {ws : List W} {μ : Mu} {R : W → Mu → Prop} {E : Str → W → Mu → Prop} (h : F_word_between ws μ R E) : ws.length = p_word_between.length := by
  rcases h with ⟨v, h, _⟩ | ⟨o, p, L, e, _⟩
  · exact wrong_len h
  · rw [e]; rfl
open M78 (stp num wrd isL)
theorem takeW_map (r : List Nat) : ((r.map (· + 97)).takeWhile (("a" : Str).cps.contains)).length + (r.dropWhile (· == 0)).length = r.length := by
  induction r with
  | nil => rfl
  | cons d r ih =>
    by_cases h : d = 0
    · subst h
      have e : ("a" : Str).cps.contains (0 + 97) = true := by
        have : ("a" : Str).cps = #[97] := rfl
        rw [this]
        simp
      rw [List.map_cons, List.takeWhile_cons_of_pos e, List.dropWhile_cons_of_pos (by rfl), List.length_cons, List.length_cons]
      omega
    · have e : ¬ ("a" : Str).cps.contains (d + 97) = true := by
        have : ("a" : Str).cps = #[97] := rfl
        rw [this]
        simp
        omega
      rw [List.map_cons, List.takeWhile_cons_of_neg e, List.dropWhile_cons_of_neg (by simpa using h)]
      simp
theorem dropW_suf (p : Nat → Bool) (r : List Nat) : r.dropWhile p = r.drop (r.length - (r.dropWhile p).length) := by
  induction r with
  | nil => rfl
  | cons d r ih =>
    by_cases h : p d = true
    · rw [List.dropWhile_cons_of_pos h]
      have : (r.dropWhile p).length ≤ r.length := by
        have := List.dropWhile_suffix p (l := r)
        exact this.length_le
      rw [List.length_cons, show r.length + 1 - (r.dropWhile p).length = r.length - (r.dropWhile p).length + 1 by omega, List.drop_succ_cons]
      exact ih
    · rw [List.dropWhile_cons_of_neg h]
      simp
theorem rstrip_S (l : List Nat) : Txt.rstripChars (S l) "a" = S (stp l) := by
  refine str_eq ?_
  have e : Txt.rstripChars (S l) "a" = Builtin.Str.strSub (S l) 0 (stripHi (("a" : Str).cps.contains) true (S l) 0) := PyProof.Rows.stripBy_eq _ false true _
  rw [e, StrLaws.strSub_toList, List.drop_zero, Nat.sub_zero, S_list, S_list]
  have h : stripHi (("a" : Str).cps.contains) true (S l) 0 = l.length - ((l.reverse.map (· + 97)).takeWhile (("a" : Str).cps.contains)).length := by
    show (S l).length - (((S l).cps.toList.drop 0).reverse.takeWhile _).length = _
    rw [S_len, List.drop_zero, S_list, List.map_reverse]
  rw [h]
  have t := takeW_map l.reverse
  rw [List.length_reverse] at t
  unfold stp
  rw [dropW_suf, List.length_reverse, ← List.map_take]
  congr 1
  rw [List.reverse_drop, List.reverse_reverse, List.length_reverse]
  congr 1
  have : (l.reverse.dropWhile (· == 0)).length ≤ l.length := by omega
  omega
theorem set_end {μ : Mu} {c c' : Option C} : (μ ++ [c]).set μ.length c' = μ ++ [c'] := by
  rw [List.set_append_right _ _ (Nat.le_refl _)]
  simp
theorem p26_3 : (26 : Nat) ^ 3 = 17576 := rfl
theorem isL_ex {n : Nat} (h : n ≤ 900) : isL n (if n < 1 then 0 else if n < 26 then 1 else if n < 676 then 2 else 3) := by
  unfold isL
  split
  · exact ⟨by simp; omega, fun j hj => by omega⟩
  · split
    · refine ⟨by simpa using ‹_›, fun j hj => ?_⟩
      have : j = 0 := by omega
      subst this
      simp
      omega
    · split
      · refine ⟨by simpa using ‹_›, fun j hj => ?_⟩
        have : j = 0 ∨ j = 1 := by omega
        rcases this with rfl | rfl <;> simp <;> omega
      · refine ⟨by rw [p26_3]; omega, fun j hj => ?_⟩
        have : j = 0 ∨ j = 1 ∨ j = 2 := by omega
        rcases this with rfl | rfl | rfl <;> simp <;> omega
theorem isL_le {n L : Nat} (h : isL n L) (hn : n ≤ 900) : L ≤ 3 := by
  have := M78.isL_uniq h (isL_ex hn)
  rw [this]
  split
  · omega
  · split
    · omega
    · split <;> omega
theorem rd_spread_words {K : PySem.W.Frag} : ∀ ws μ R, F_spread_words ws μ R → AS K (t_spread_words K) { nx := fun _ μ' => R (.d .none) μ', rt := R } (stG n_spread_words ws) μ := by
  rintro ws μ R ⟨n, rfl, hn, q⟩
  show AS K _ _ [some (.d (.int n)), none, none, none, none] μ
  unfold t_spread_words
  walk_at "x"
  walk_at "x"
  walk_at "x"
  walk_at "x"
  refine as_seq ?_
  refine as_while (fun m Γ' μ2 => ∃ j : Nat, Γ' = [some (.d (.int n)), some (.d (.int (j : Int))), none, none, none] ∧ μ2 = μ ∧ (∀ i, i < j → 26 ^ i ≤ n) ∧ j ≤ 3 ∧ m = 3 - j) 3
      ⟨0, rfl, rfl, fun i h => by omega, by decide, rfl⟩ ?_
  rintro m Γ' μ2 ⟨j, rfl, rfl, hj, j3, rfl⟩
  walk_at "xs"
  refine ⟨j, rfl, by omega, ?_⟩
  walk_at "xs"
  by_cases hc : 26 ^ j ≤ n
  · rw [decide_eq_true (by omega)]
    refine ite_t rfl ?_
    have j2 : j ≠ 3 := fun z => by subst z; rw [p26_3] at hc; omega
    walk_at "xs"
    exact ⟨3 - (j + 1), by omega, j + 1, rfl, rfl, fun i hi => by
      by_cases e : i = j
      · subst e; exact hc
      · exact hj i (by omega), by omega, rfl⟩
  · rw [decide_eq_false (by omega)]
    refine ite_f rfl ?_
    have hL : isL n j := ⟨by omega, hj⟩
    walk_at "xs"
    refine ⟨j, rfl, by omega, ?_⟩
    walk_at "xs"
    refine NL.m ?_
    walk_at "xs"
    refine ⟨_, _, rfl, ?_⟩
    dsimp only [List.set_cons_zero, List.set_cons_succ]
    refine as_seq ?_
    refine as_for (fun (i : Nat) => W.d (.int (1 + i))) (List.range n) (fun pre Γ' m => ∃ z, Γ' = [some (.d (.int n)), some (.d (.int (j : Int))), some (.d (.int ((26 ^ j : Nat) : Int))), some (.m μ2.length), z] ∧ m = μ2 ++ [some (.lst (((List.range pre.length).map fun i => PyData.str (S (wrd n j i))).map W.d))]) (ai_rng2 ?_) ?_ ?_
    · walk_at "xs"
      refine ⟨_, _, rfl, ⟨by omega, by omega, by omega, by omega⟩, ?_, fun _ _ _ _ => trivial, none, rfl, rfl⟩
      rw [show ((n : Int) + 1 - 1).toNat = n by omega]
    · rintro pre x post Γ' m e ⟨z, rfl, rfl⟩
      obtain ⟨e1, e2⟩ := rng_split e
      subst e1
      walk_at "xs"
      refine ax_bm ?_
      walk_at "xs"
      refine o_mulV (mul_l (by omega)) ?_
      walk_at "xs"
      refine o_divI (div_ok (by omega) (by omega)) ?_
      walk_at "xs"
      have ev : (1 + (pre.length : Int)) * ((26 ^ j : Nat) : Int) / ((n : Int) + 1) = ((num n j pre.length : Nat) : Int) := by
        rw [show (1 + (pre.length : Int)) = ((pre.length + 1 : Nat) : Int) by omega]
        rfl
      rw [ev]
      refine ⟨num n j pre.length, j, rfl, by omega, ?_⟩
      refine ⟨rfl, ?_⟩
      walk_at "xs"
      refine am_rstrip (sz_ok (by rw [S_len, M77.digs_len]; omega)) ?_
      rw [rstrip_S]
      walk_at "xs"
      refine am_append (by walk_at "mu") (by rw [List.length_map, List.length_map, List.length_range]; exact sz_lt (by omega)) ?_
      walk_at "xs"
      rw [set_end, List.length_append, List.length_singleton, List.range_succ, List.map_append, List.map_append]
      rfl
    · rintro Γ' m ⟨z, rfl, rfl⟩
      rw [List.length_range]
      walk_at "xs"
      exact q j hL
theorem rd_spread {K : PySem.W.Frag} (xk : L2.XK) : ∀ ws μ R E, F_spread ws μ R E → AS K (t_spread K fun c d _ H => xk c d H) (xD R E xk) (stG n_spread ws) μ := by
  rintro ws μ R E ⟨n, rfl, hn, h1, h2⟩
  show AS K _ _ [some (.d (.int n))] μ
  unfold t_spread
  walk_at "xs"
  refine ite_b (fun h => ?_) (fun h => ?_)
  · have hh := of_decide_eq_true h
    walk_at "xs"
    exact h1 hh
  · have hh := of_decide_eq_false h
    obtain ⟨v, rfl⟩ : ∃ v : Nat, n = v := ⟨n.toNat, by omega⟩
    walk_at "xs"
    exact ⟨v, rfl, by omega, h2 v rfl⟩
theorem rd__law_same {K : PySem.W.Frag} : ∀ ws μ R, F__law_same ws μ R → AS K (t__law_same K) { nx := fun _ μ' => R (.d .none) μ', rt := R } (stG n__law_same ws) μ := by
  rintro ws μ R ⟨x, y, rfl, d, hx, hy, hs, ht, q⟩
  show AS K _ _ [some x, some y] μ
  unfold t__law_same
  walk_at "xs"
  rw [eqv_rs hs]
  walk_at "xi"
  refine c_rep hx ht ?_
  walk_at "xs"
  refine c_rep hy ht ?_
  walk_at "xs"
  rw [decide_eq_true rfl]
  exact q
theorem rd__law_error {K : PySem.W.Frag} (EF : ErrF K) : ∀ ws μ R, F__law_error ws μ R → AS K (t__law_error K) { nx := fun _ μ' => R (.d .none) μ', rt := R } (stG n__law_error ws) μ := by
  rintro ws μ R ⟨n, rfl, hn, q⟩
  show AS K _ _ [some (.d (.int n)), none, none] μ
  unfold t__law_error
  walk_at "xs"
  refine as_tryK 1 fun xw => ?_
  dsimp only
  walk_at "xs"
  refine ⟨n, rfl, by omega, fun _ => ?_, fun v e => by omega⟩
  refine hXk_yes EF.s_InvalidNumber_WindowError fun a C d hc => ?_
  dsimp only [List.set_cons_zero, List.set_cons_succ]
  walk_at "xs"
  refine ⟨rfl, by decide, ?_⟩
  dsimp only [List.set_cons_zero, List.set_cons_succ]
  walk_at "xs"
  rw [List.append_assoc, List.length_append]
  exact q d
def Ny (j k : Nat) (μ μ' : Mu) : Prop := μ.length ≤ μ'.length ∧ ∀ i, i < μ.length → i ≠ j → i ≠ k → μ'[i]? = μ[i]?
theorem Ny.refl {j k : Nat} {μ : Mu} : Ny j k μ μ := ⟨Nat.le_refl _, fun _ _ _ _ => rfl⟩
theorem Ny.trans {j k : Nat} {μ μ1 μ2 : Mu} (h : Ny j k μ μ1) (h2 : Ny j k μ1 μ2) : Ny j k μ μ2 := ⟨Nat.le_trans h.1 h2.1, fun i a b c => by rw [h2.2 i (Nat.lt_of_lt_of_le a h.1) b c, h.2 i a b c]⟩
theorem Nx.ny {j k : Nat} {μ μ' : Mu} (h : Nx j k μ μ') : Ny j k μ μ' := ⟨Nat.le_of_eq h.1.symm, fun i _ => h.2 i⟩
theorem Ny.app {j k : Nat} {μ : Mu} {cs : Mu} : Ny j k μ (μ ++ cs) := ⟨by simp, fun i a _ _ => List.getElem?_append_left a⟩
theorem Ny.set {j k i : Nat} {μ μ' : Mu} {c : Option C} (h : Ny j k μ μ') (hi : μ.length ≤ i) : Ny j k μ (μ'.set i c) := ⟨by rw [List.length_set]; exact h.1, fun x a b e => by
  rw [List.getElem?_set, if_neg (by omega)]
  exact h.2 x a b e⟩
theorem Pl.app {j k n : Nat} {μ cs : Mu} (h : Pl j k n μ) : Pl j k n (μ ++ cs) := by
  obtain ⟨ns, a, b, c, h1, h2, h3⟩ := h
  exact ⟨ns, a, b, c, mu_app h1, mu_app h2, h3⟩
theorem Pl.setf {j k n i : Nat} {μ : Mu} {c : Option C} (h : Pl j k n μ) (hj : i ≠ j) (hk : i ≠ k) : Pl j k n (μ.set i c) := by
  obtain ⟨ns, a, b, c, h1, h2, h3⟩ := h
  exact ⟨ns, a, b, c, by rw [mu_ne hj]; exact h1, by rw [mu_ne hk]; exact h2, h3⟩
theorem Pl.ltj {j k n : Nat} {μ : Mu} (h : Pl j k n μ) : j < μ.length ∧ k < μ.length := by
  obtain ⟨ns, a, b, c, h1, h2, h3⟩ := h
  exact ⟨(List.getElem?_eq_some_iff.mp h1).1, (List.getElem?_eq_some_iff.mp h2).1⟩
theorem shw_wide {d : PyData} (h : bd d) (hw : d.weight + 1 ≤ 200000) (hd : d.depth ≤ 60) : Shw d := by
  obtain ⟨a, b, c, _⟩ := bd_all d h
  refine ⟨a, b, hd, ?_⟩
  have := PyData.shown_le 60 (by decide) d c
  rw [sizeLine_eq]
  omega
theorem S_ok {l : List Nat} (h : Ds l) : PyData.strOk (S l) = true := by
  unfold PyData.strOk
  rw [Array.all_eq_true']
  intro c hc
  have hc2 : c ∈ (S l).cps.toList := Array.mem_toList_iff.mpr hc
  rw [S_list] at hc2
  obtain ⟨d, hd, rfl⟩ := List.mem_map.mp hc2
  have := h d hd
  exact decide_eq_true (by omega)
def Sls (ls : List (List Nat)) : List PyData := ls.map fun l => .str (S l)
theorem sls_facts : ∀ ls : List (List Nat), (∀ l ∈ ls, Ds l ∧ l.length ≤ 3) → bds (Sls ls) ∧ PyData.weightAll (Sls ls) ≤ 4 * ls.length ∧ PyData.depthAll (Sls ls) = 0 ∧ PyData.canLayAll0 (Sls ls) = true
  | [], _ => ⟨trivial, Nat.zero_le _, rfl, rfl⟩
  | l :: ls, h => by
    obtain ⟨a, b, c, d⟩ := sls_facts ls fun x hx => h x (.tail _ hx)
    obtain ⟨h1, h2⟩ := h l (.head _)
    have ht := txt_S h1 (by omega)
    refine ⟨⟨fun x hx => Nat.lt_trans (ht.1 x hx) (by decide), a⟩, ?_, ?_, ?_⟩
    · show (S l).cps.size + 1 + PyData.weightAll (Sls ls) ≤ 4 * (ls.length + 1)
      have : (S l).cps.size = l.length := S_len l
      omega
    · show max 0 (PyData.depthAll (Sls ls)) = 0
      omega
    · show (PyData.strOk (S l) && PyData.canLayAll0 (Sls ls)) = true
      rw [d, S_ok h1]
      rfl
theorem wls_eq (n L : Nat) : wls n L = Sls ((List.range n).map (wrd n L)) := by
  unfold wls Sls
  rw [List.map_map]
  rfl
theorem wls_facts {n L : Nat} (h : isL n L) (hn : n ≤ 900) : Shw (.list (wls n L)) ∧ SeqAt.shaped (.list (wls n L)) = true := by
  have hL := isL_le h hn
  rw [wls_eq]
  obtain ⟨a, b, c, d⟩ := sls_facts ((List.range n).map (wrd n L)) (fun l hl => by
    obtain ⟨i, hi, rfl⟩ := List.mem_map.mp hl
    have hw := M78.wrd_pw (k := i) (List.mem_range.mp hi) h.1 (by omega)
    exact ⟨hw.1.1, by omega⟩)
  rw [List.length_map, List.length_range] at b
  refine ⟨shw_wide a (by show PyData.weightAll _ + 1 ≤ _; omega) (by show PyData.depthAll _ + 1 ≤ _; omega), ?_⟩
  simp [SeqAt.shaped, PyData.canLay0, PyData.depth, c, d]
theorem pick10 {a b r : Int} (a0 : 0 ≤ a) (a1 : a < 60) (b0 : 0 ≤ b) (b1 : b < 900) (h0 : 0 ≤ r) (h1 : r < 10) : ∃ n : Nat, n ≤ 900 ∧ atI (List.map W.d [PyData.int 0, .int 1, .int 25, .int 26, .int 27, .int 675, .int 676, .int 677, .int a, .int b]) r = some (.d (.int n)) := by
  obtain ⟨a, rfl⟩ : ∃ v : Nat, a = v := ⟨a.toNat, by omega⟩
  obtain ⟨b, rfl⟩ : ∃ v : Nat, b = v := ⟨b.toNat, by omega⟩
  have : r = 0 ∨ r = 1 ∨ r = 2 ∨ r = 3 ∨ r = 4 ∨ r = 5 ∨ r = 6 ∨ r = 7 ∨ r = 8 ∨ r = 9 := by omega
  rcases this with rfl | rfl | rfl | rfl | rfl | rfl | rfl | rfl | rfl | rfl
  · exact ⟨0, by decide, rfl⟩
  · exact ⟨1, by decide, rfl⟩
  · exact ⟨25, by decide, rfl⟩
  · exact ⟨26, by decide, rfl⟩
  · exact ⟨27, by decide, rfl⟩
  · exact ⟨675, by decide, rfl⟩
  · exact ⟨676, by decide, rfl⟩
  · exact ⟨677, by decide, rfl⟩
  · exact ⟨a, by omega, rfl⟩
  · exact ⟨b, by omega, rfl⟩
theorem mid_lt {l m : List Nat} {L : Nat} (hl : Pw l ∧ l.length ≤ 11) (hm : Pw m ∧ m.length ≤ 11) (h12 : L ≤ 12) (hF : First l (val 12 m) L) : lex l (digs L (val L l + 1)) = true ∧ lex (digs L (val L l + 1)) m = true ∧ Pw (digs L (val L l + 1)) := by
  obtain ⟨L1, L2, L3, L4⟩ := id hF
  have hne := hF.ne hl.1.1
  have ww : Pw (digs L (val L l + 1)) := pw_digs (by omega) L1
  have wlen : (digs L (val L l + 1)).length = L := M77.digs_len _ _
  have wv : val 12 (digs L (val L l + 1)) = (val L l + 1) * 26 ^ (12 - L) := by
    have := M77.val_digs_add L3.1 (12 - L)
    rw [show L + (12 - L) = 12 by omega] at this
    exact this
  refine ⟨?_, ?_, ww⟩
  · rw [M77.lex_iff (N := 12) hl.1 ww (by omega) (by omega), wv]
    have := (M77.val_add_le l hl.1.1 L (12 - L)).2
    rw [show L + (12 - L) = 12 by omega] at this
    exact decide_eq_true this
  · rw [M77.lex_iff (N := 12) ww hm.1 (by omega) (by omega), wv]
    exact decide_eq_true L3.2
theorem ny_app {j k : Nat} {μ μ' : Mu} {c d : Option C} (hj : j = μ.length) (hk : k = μ.length + 1) (h : Ny j k (μ ++ [c, d]) μ') : ∃ cs, μ' = μ ++ cs := by
  obtain ⟨h1, h2⟩ := h
  rw [List.length_append] at h1 h2
  refine ⟨μ'.drop μ.length, ?_⟩
  have e : μ'.take μ.length = μ := by
    apply List.ext_getElem?
    intro i
    rw [List.getElem?_take]
    by_cases hi : i < μ.length
    · rw [if_pos hi, h2 i (by omega) (by omega) (by omega), List.getElem?_append_left hi]
    · rw [if_neg hi, List.getElem?_eq_none (by omega)]
  conv => lhs; rw [← List.take_append_drop μ.length μ']
  rw [e]
theorem len4 {n : Nat} (hn : n ≤ 900) : ∃ L : Nat, isL n L ∧ L ≤ 3 ∧ atI (List.map W.d [PyData.int 0, .int 1, .int 2, .int 3]) ((if decide ((1 : Int) ≤ n) = true then 1 else 0) + (if decide ((26 : Int) ≤ n) = true then 1 else 0) + (if decide ((676 : Int) ≤ n) = true then 1 else 0)) = some (.d (.int (L : Int))) := by
  refine ⟨_, isL_ex hn, isL_le (isL_ex hn) hn, ?_⟩
  by_cases h1 : n < 1
  · rw [if_pos h1, decide_eq_false (by omega : ¬ (1 : Int) ≤ n), decide_eq_false (by omega : ¬ (26 : Int) ≤ n), decide_eq_false (by omega : ¬ (676 : Int) ≤ n)]
    rfl
  · by_cases h2 : n < 26
    · rw [if_neg h1, if_pos h2, decide_eq_true (by omega : (1 : Int) ≤ n), decide_eq_false (by omega : ¬ (26 : Int) ≤ n), decide_eq_false (by omega : ¬ (676 : Int) ≤ n)]
      rfl
    · by_cases h3 : n < 676
      · rw [if_neg h1, if_neg h2, if_pos h3, decide_eq_true (by omega : (1 : Int) ≤ n), decide_eq_true (by omega : (26 : Int) ≤ n), decide_eq_false (by omega : ¬ (676 : Int) ≤ n)]
        rfl
      · rw [if_neg h1, if_neg h2, if_neg h3, decide_eq_true (by omega : (1 : Int) ≤ n), decide_eq_true (by omega : (26 : Int) ≤ n), decide_eq_true (by omega : (676 : Int) ≤ n)]
        rfl
theorem wls_len (n L : Nat) : (wls n L).length = n := by unfold wls; simp
theorem wls_at {n L i : Nat} (h : i < n) : atI ((wls n L).map W.d) (i : Int) = some (.d (.str (S (wrd n L i)))) := by
  refine atI_get ?_
  unfold wls
  rw [List.map_map, List.getElem?_map, List.getElem?_range h]
  rfl
theorem shw_int {n : Int} (h : n.natAbs < 1000) : Shw (.int n) := shw_of (show n.natAbs < 10 ^ 50 from Nat.lt_trans h (by decide)) (show 1 ≤ 1000 by decide) (Nat.zero_le _)
theorem rd_law {K : PySem.W.Frag} (EF : ErrF K) : ∀ ws μ R, F_law ws μ R → AS K (t_law K) { nx := fun _ μ' => R (.d .none) μ', rt := R } (stG n_law ws) μ := by
  rintro ws μ R ⟨ns, rfl, hns, q⟩
  refine as_fz ?_
  show AS K (t_law K) _ [some (.f (wInts ns)), none, none, none, none, none, none, none, none, none, none, none, none, none] μ
  unfold t_law
  walk_at "xs"
  refine ⟨ns, rfl, hns, fun μ0 hp0 ⟨c0, d0, e0⟩ => ?_⟩
  generalize hj : μ.length = j at *
  generalize hk : j + 1 = k at *
  walk_at "xs"
  refine as_for (fun (i : Nat) => W.d (.int (0 + i))) (List.range 3) (fun pre Γ' μ' => ∃ z2 z3 z4 z5 z6 z7 z8 z9, Γ' = [some (.f (wInts ns)), some (.m k), z2, z3, z4, z5, z6, z7, z8, z9, none, none, none, none] ∧ Pl j k (10 * pre.length) μ' ∧ Ny j k μ0 μ') (ai_rng1 ?_) ?_ ?_
  · walk_at "xs"
    exact ⟨by omega, rfl, fun _ _ _ _ => trivial, none, none, none, none, none, none, none, none, rfl, hp0, Ny.refl⟩
  · rintro pre x post Γ' μ' e ⟨z2, z3, z4, z5, z6, z7, z8, z9, rfl, hp1, hx1⟩
    obtain ⟨e1, e2⟩ := rng_split e
    walk_at "xs"
    refine ⟨j, k, _, 60, rfl, hp1, by omega, by decide, by decide, fun ra μ2 a0 a1 hp2 hx2 => ?_⟩
    walk_at "xs"
    refine ⟨j, k, _, 900, rfl, hp2, by omega, by decide, by decide, fun rb μ3 b0 b1 hp3 hx3 => ?_⟩
    walk_at "xs"
    refine NL.d (xs := [.int 0, .int 1, .int 25, .int 26, .int 27, .int 675, .int 676, .int 677, .int ra, .int rb]) ?_ rfl
    walk_at "xs"
    refine ⟨j, k, _, 10, rfl, hp3, by omega, by decide, by decide, fun rc μ4 c0 c1 hp4 hx4 => ?_⟩
    obtain ⟨n, hn, hat⟩ := pick10 a0 a1 b0 b1 c0 c1
    refine o_ixL (.d _) hat ?_
    have hx := ((hx1.trans hx2.ny).trans hx3.ny).trans hx4.ny
    walk_at "xs"
    walk_at "d"
    walk_at "xs"
    obtain ⟨L, hL, hL3, hat2⟩ := len4 hn
    refine o_ixL (.d _) hat2 ?_
    walk_at "xs"
    refine ⟨L, rfl, by omega, ?_⟩
    walk_at "xs"
    refine ax_lcD' (fun (i : Nat) => W.d (.int (0 + i))) (List.range n) (fun i => .str (S (wrd n L i))) (sz_ok (by simp; omega)) (wk_name (by decide)) (ai_rng1 ?_) ?_ ?_
    · walk_at "xs"
      exact ⟨by omega, rfl, trivial, rfl⟩
    · intro i hi
      have hin := List.mem_range.mp hi
      show AG K _ _ [some (.f (wInts ns)), some (.m k), some (.d (.int (0 + (x : Int)))), some (.d (.int n)), some (.d (.int L)), some (.d (.int ((26 ^ L : Nat) : Int))), z6, z7, z8, z9, none, none, none, none] _ _
      walk_at "xs"
      refine o_mulV (mul_l (by omega)) ?_
      walk_at "xs"
      refine o_divI (div_ok (by omega) (by omega)) ?_
      walk_at "xs"
      have ev : (0 + (i : Int) + 1) * ((26 ^ L : Nat) : Int) / ((n : Int) + 1) = ((num n L i : Nat) : Int) := by
        rw [show (0 + (i : Int) + 1) = ((i + 1 : Nat) : Int) by omega]
        rfl
      rw [ev]
      refine ⟨num n L i, L, rfl, by omega, fun l hd hv hz hl _ => ?_⟩
      rw [M78.wrd_uniq (by omega) hd hv hz hl]
      exact ⟨rfl, rfl⟩
    · obtain ⟨shw, shp⟩ := wls_facts hL hn
      have spr : ∀ {R' : W → Mu → Prop} {E' : Str → W → Mu → Prop} {μ' : Mu}, R' (.m μ'.length) (μ' ++ [some (.lst ((wls n L).map W.d))]) → F_spread [.d (.int n)] μ' R' E' := fun h => by
        refine ⟨n, rfl, by omega, fun z => by omega, fun v e L' h' => ?_⟩
        have : v = n := by omega
        subst this
        rw [M78.isL_uniq h' hL]
        exact h
      walk_at "xs"
      refine spr ?_
      walk_at "xs"
      refine ⟨_, _, rfl, .list (wls n L), Rs.m (mu_end) (Rss.ds _), Rs.d _, shp, shw, ?_⟩
      walk_at "xi"
      refine spr ?_
      walk_at "xs"
      refine ⟨_, _, rfl, .list (wls n L), Rs.m (mu_end) (Rss.ds _), Rs.d _, shp, shw, ?_⟩
      walk_at "xi"
      have hcw : ∀ i, i < n → Pw (wrd n L i) ∧ (wrd n L i).length ≤ 11 := fun i hi => by
        have := M78.wrd_pw hi hL.1 (by omega : L ≤ 12)
        exact ⟨this.1, by omega⟩
      have hp6 := (hp4.app (cs := [some (C.lst ((wls n L).map W.d))])).app (cs := [some (C.lst ((wls n L).map W.d))])
      have hf6 : (μ4 ++ [some (C.lst ((wls n L).map W.d))] ++ [some (C.lst ((wls n L).map W.d))])[μ4.length]? = some (some (C.lst ((wls n L).map W.d))) := mu_app mu_end
      have hx6 : Ny j k μ4 (μ4 ++ [some (C.lst ((wls n L).map W.d))] ++ [some (C.lst ((wls n L).map W.d))]) := Ny.app.trans Ny.app
      have hl6 : μ4.length < (μ4 ++ [some (C.lst ((wls n L).map W.d))] ++ [some (C.lst ((wls n L).map W.d))]).length := by simp
      generalize μ4 ++ [some (C.lst ((wls n L).map W.d))] ++ [some (C.lst ((wls n L).map W.d))] = μ6 at *
      refine ax_lc (fun (i : Nat) => W.d (.int (1 + i))) (List.range (n - 1)) (fun _ acc m => acc = [] ∧ m = μ6) (sz_ok (by simp; omega)) (wk_name (by decide)) (ai_rng2 ?_) ?_ ?_
      · walk_at "xs"
        refine ⟨_, _, rfl, ⟨by omega, by omega, by omega, by omega⟩, ?_, fun _ _ _ _ => trivial, rfl, rfl⟩
        rw [show ((n : Int) - 1).toNat = n - 1 by omega]
      · rintro pre2 i post2 acc m e3 hl ⟨rfl, rfl⟩
        obtain ⟨e4, e5⟩ := rng_split e3
        show AG K _ _ [some (.f (wInts ns)), some (.m k), some (.d (.int (0 + (x : Int)))), some (.d (.int n)), some (.d (.int L)), some (.d (.int ((26 ^ L : Nat) : Int))), some (.d (.list (wls n L))), some (.m μ4.length), z8, z9, none, none, none, none] _ _
        walk_at "xs"
        rw [show (1 + (i : Int) - 1) = (i : Int) by omega]
        refine o_ixL (.d _) (wls_at (by omega)) ?_
        walk_at "xs"
        rw [show (1 + (i : Int)) = ((i + 1 : Nat) : Int) by omega]
        refine o_ixL (.d _) (wls_at (by omega)) ?_
        walk_at "xs"
        rw [lex_S, M78.wrd_lex (by omega) hL.1 (by omega)]
        walk_at "xi"
        exact rfl
      · rintro acc m ⟨rfl, rfl⟩
        walk_at "d"
        walk_at "xs"
        walk_at "d"
        refine o_neD (.d _) (.d _) rfl rfl ?_
        refine ⟨_, rfl, ?_⟩
        refine ite_f rfl ?_
        walk_at "xs"
        refine ax_lc (fun (i : Nat) => W.d (.str (S (wrd n L i)))) (List.range n) (fun _ acc m' => acc = [] ∧ m' = m) (sz_ok (by simp; omega)) (wk_name (by decide)) (ai_l (ai_list ?_)) ?_ ?_
        · walk_at "xs"
          refine ⟨_, LW.d _, ?_, fun _ _ _ e => by rw [e.2]; exact LW.d _, rfl, rfl⟩
          rw [List.map_map]
          rfl
        · rintro pre2 i post2 acc m' e3 hl ⟨rfl, rfl⟩
          obtain ⟨e4, e5⟩ := rng_split e3
          obtain ⟨ww, wl⟩ := M78.wrd_pw e5 hL.1 (by omega : L ≤ 12)
          show AG K _ _ [some (.f (wInts ns)), some (.m k), some (.d (.int (0 + (x : Int)))), some (.d (.int n)), some (.d (.int L)), some (.d (.int ((26 ^ L : Nat) : Int))), some (.d (.list (wls n L))), some (.m μ4.length), z8, z9, none, none, none, none] _ _
          generalize wrd n L i = w at *
          have wne : w ≠ [] := List.length_pos_iff.mp ww.2.1
          walk_at "xs"
          rw [S_empty, decide_eq_false wne]
          refine ite_f rfl ?_
          walk_at "xs"
          refine o_ixS (sz_ok (by rw [S_len]; omega)) (last_S wne) ?_
          walk_at "xs"
          have ea : decide ((⟨#[dg w (w.length - 1) + 97]⟩ : Str) = "a") = false := by
            rw [← S_one]
            refine decide_eq_false fun z => ?_
            have z2 : S [dg w (w.length - 1)] = S [0] := z
            have z3 := S_inj z2
            simp at z3
            exact ww.2.2 z3
          rw [ea]
          refine ite_f rfl ?_
          walk_at "xs"
          refine c_lenS (sz_ok (by rw [S_len]; omega)) ?_
          rw [S_len]
          walk_at "xs"
          rw [decide_eq_false (by omega)]
          exact ite_f rfl ⟨rfl, rfl⟩
        · rintro acc m' ⟨rfl, rfl⟩
          walk_at "d"
          walk_at "xs"
          walk_at "d"
          refine o_neD (.d _) (.d _) rfl rfl ?_
          refine ⟨_, rfl, ?_⟩
          refine ite_f rfl ?_
          refine as_next ?_
          refine as_cut (fun Γ' m => ∃ z8 z9, Γ' = [some (.f (wInts ns)), some (.m k), some (.d (.int (0 + (x : Int)))), some (.d (.int n)), some (.d (.int L)), some (.d (.int ((26 ^ L : Nat) : Int))), some (.d (.list (wls n L))), some (.m μ4.length), z8, z9, none, none, none, none] ∧ Pl j k (10 * pre.length + 1 + 1 + 1 + 1) m ∧ Ny j k m' m ∧ m[μ4.length]? = some (some (C.lst ((wls n L).map W.d)))) ?_ ?_
          · walk_at "xs"
            refine ite_b (fun h => ?_) (fun h => ?_)
            · have h1 := of_decide_eq_true h
              walk_at "xs"
              refine ⟨j, k, _, (n : Int) - 1, rfl, hp6, by omega, by omega, by omega, fun rd μ7 d0 d1 hp7 hx7 => ?_⟩
              obtain ⟨at', rfl⟩ : ∃ v : Nat, rd = v := ⟨rd.toNat, by omega⟩
              have ha1 : at' < n := by omega
              have ha2 : at' + 1 < n := by omega
              have w1 := hcw at' ha1
              have w2 := hcw (at' + 1) ha2
              have hlx : lex (wrd n L at') (wrd n L (at' + 1)) = true := M78.wrd_lex ha2 hL.1 (by omega)
              have hg1 := wls_at (L := L) ha1
              have hg2 := wls_at (L := L) ha2
              walk_at "xs"
              refine o_ixL (.d _) hg1 ?_
              walk_at "xs"
              rw [show ((at' : Int) + 1) = ((at' + 1 : Nat) : Int) by omega]
              refine o_ixL (.d _) hg2 ?_
              have ho1 : okw (some (wrd n L at')) := fun l e => by cases e; exact w1
              have ho2 : okw (some (wrd n L (at' + 1))) := fun l e => by cases e; exact w2
              have hlx2 : ∀ l m, some (wrd n L at') = some l → some (wrd n L (at' + 1)) = some m → lex l m = true := fun l m e e' => by cases e; cases e'; exact hlx
              obtain ⟨L2, hL2, hF⟩ := first_of ho1 ho2 hlx2
              have hm12 : L2 ≤ 12 := by
                have : most (some (wrd n L at')) (some (wrd n L (at' + 1))) ≤ 12 := by
                  unfold most
                  show max ((wrd n L at').length + 1) ((wrd n L (at' + 1)).length + 1) ≤ 12
                  omega
                omega
              obtain ⟨lt1, lt2, pw⟩ := mid_lt w1 w2 hm12 hF
              walk_at "xs"
              refine .inr ⟨some (wrd n L at'), some (wrd n L (at' + 1)), L2, rfl, ho1, ho2, hlx2, hF, ?_⟩
              walk_at "xs"
              refine o_ixL (.d _) hg1 ?_
              walk_at "xs"
              rw [lex_S, show lex (wrd n L at') (digs L2 (val L2 (low (some (wrd n L at'))) + 1)) = true from lt1]
              walk_at "xi"
              rw [show ((at' : Int) + 1) = ((at' + 1 : Nat) : Int) by omega]
              refine o_ixL (.d _) hg2 ?_
              walk_at "xs"
              rw [lex_S, show lex (digs L2 (val L2 (low (some (wrd n L at'))) + 1)) (wrd n L (at' + 1)) = true from lt2]
              walk_at "xi"
              refine ⟨_, _, rfl, hp7, hx7.ny, ?_⟩
              rw [hx7.2 _ (by have := hp4.ltj; omega) (by have := hp4.ltj; omega)]
              exact hf6
            · refine as_next ⟨_, _, rfl, hp6.le (by omega), Ny.refl, hf6⟩
          · rintro Γ' m ⟨z8, z9, rfl, hp7, hx7, hf7⟩
            walk_at "xs"
            refine am_append hf7 (by rw [List.length_map, wls_len]; exact sz_lt (by omega)) ?_
            have hp8 := hp7.setf (i := μ4.length) (c := some (C.lst ((wls n L).map W.d ++ [.d (.str "a")]))) (by have := hp4.ltj; omega) (by have := hp4.ltj; omega)
            have hx8 : Ny j k μ4 (m.set μ4.length (some (C.lst ((wls n L).map W.d ++ [.d (.str "a")])))) := (hx6.trans hx7).set (Nat.le_refl _)
            generalize m.set μ4.length (some (C.lst ((wls n L).map W.d ++ [.d (.str "a")]))) = m8 at *
            walk_at "xs"
            refine spr ?_
            walk_at "xs"
            refine ⟨_, _, rfl, .list (wls n L), Rs.m (mu_end) (Rss.ds _), Rs.d _, shp, shw, ?_⟩
            walk_at "xi"
            exact ⟨_, _, _, _, _, _, _, _, rfl, (hp8.app).le (by simp; omega), (hx.trans hx8).trans Ny.app⟩
  · rintro Γ' μ' ⟨z2, z3, z4, z5, z6, z7, z8, z9, rfl, hp1, hx1⟩
    walk_at "xs"
    refine ⟨j, k, _, 9, rfl, hp1, by decide, by decide, by decide, fun r μ2 r0 r1 hp2 hx2 => ?_⟩
    walk_at "xs"
    refine ⟨_, rfl, by omega, fun d => ?_⟩
    walk_at "xs"
    have g1 : (μ2 ++ [some (C.xd d (W.d (.int (-1 - r)))), some (C.er "InvalidNumber" d)])[μ2.length]? = some (some (C.xd d (W.d (.int (-1 - r))))) := by
      rw [List.getElem?_append_right (Nat.le_refl _)]
      simp
    have g2 : (μ2 ++ [some (C.xd d (W.d (.int (-1 - r)))), some (C.er "InvalidNumber" d)])[μ2.length + 1]? = some (some (C.er "InvalidNumber" d)) := by
      rw [List.getElem?_append_right (by omega)]
      simp
    refine ax_isK EF.x_InvalidNumber EF.i_InvalidNumber_InvalidNumber rfl g2 g1 ?_
    walk_at "xi"
    refine ax_xvK EF.v_InvalidNumber rfl g2 g1 ?_
    walk_at "xs"
    refine ⟨_, _, rfl, .int (-1 - r), Rs.d _, Rs.d _, rfl, shw_int (by omega), ?_⟩
    rw [e0] at hx1
    obtain ⟨cs, rfl⟩ := ny_app hj.symm (by omega) (hx1.trans hx2.ny)
    rw [List.append_assoc]
    exact Fz.same (.d _) q
end Lw

namespace Lw
open PySem PySem.Spec PyProof.Rows L2 Pd
theorem len_is_word {ws : List W} {μ : Mu} {R : W → Mu → Prop} (h : F_is_word ws μ R) : ws.length = p_is_word.length := by
  unfold F_is_word at h
  first
    | (repeat' (rcases h with ⟨x, h⟩)) ; subst_vars ; rfl ; done
    | (rcases h with h | h <;> (repeat' (rcases h with ⟨x, h⟩)) <;> subst_vars <;> rfl ; done)
    | (rcases h with h | h | h <;> (repeat' (rcases h with ⟨x, h⟩)) <;> subst_vars <;> rfl ; done)
    | exact lenx_is_word h
theorem len_all_strings {ws : List W} {μ : Mu} {R : W → Mu → Prop} (h : F_all_strings ws μ R) : ws.length = p_all_strings.length := by
  unfold F_all_strings at h
  first
    | (repeat' (rcases h with ⟨x, h⟩)) ; subst_vars ; rfl ; done
    | (rcases h with h | h <;> (repeat' (rcases h with ⟨x, h⟩)) <;> subst_vars <;> rfl ; done)
    | (rcases h with h | h | h <;> (repeat' (rcases h with ⟨x, h⟩)) <;> subst_vars <;> rfl ; done)
    | exact lenx_all_strings h
theorem len_value_of {ws : List W} {μ : Mu} {R : W → Mu → Prop} (h : F_value_of ws μ R) : ws.length = p_value_of.length := by
  unfold F_value_of at h
  first
    | (repeat' (rcases h with ⟨x, h⟩)) ; subst_vars ; rfl ; done
    | (rcases h with h | h <;> (repeat' (rcases h with ⟨x, h⟩)) <;> subst_vars <;> rfl ; done)
    | (rcases h with h | h | h <;> (repeat' (rcases h with ⟨x, h⟩)) <;> subst_vars <;> rfl ; done)
    | exact lenx_value_of h
theorem len_string_of {ws : List W} {μ : Mu} {R : W → Mu → Prop} (h : F_string_of ws μ R) : ws.length = p_string_of.length := by
  unfold F_string_of at h
  first
    | (repeat' (rcases h with ⟨x, h⟩)) ; subst_vars ; rfl ; done
    | (rcases h with h | h <;> (repeat' (rcases h with ⟨x, h⟩)) <;> subst_vars <;> rfl ; done)
    | (rcases h with h | h | h <;> (repeat' (rcases h with ⟨x, h⟩)) <;> subst_vars <;> rfl ; done)
    | exact lenx_string_of h
theorem len_first_above {ws : List W} {μ : Mu} {R : W → Mu → Prop} (h : F_first_above ws μ R) : ws.length = p_first_above.length := by
  unfold F_first_above at h
  first
    | (repeat' (rcases h with ⟨x, h⟩)) ; subst_vars ; rfl ; done
    | (rcases h with h | h <;> (repeat' (rcases h with ⟨x, h⟩)) <;> subst_vars <;> rfl ; done)
    | (rcases h with h | h | h <;> (repeat' (rcases h with ⟨x, h⟩)) <;> subst_vars <;> rfl ; done)
    | exact lenx_first_above h
theorem len_first_between {ws : List W} {μ : Mu} {R : W → Mu → Prop} (h : F_first_between ws μ R) : ws.length = p_first_between.length := by
  unfold F_first_between at h
  first
    | (repeat' (rcases h with ⟨x, h⟩)) ; subst_vars ; rfl ; done
    | (rcases h with h | h <;> (repeat' (rcases h with ⟨x, h⟩)) <;> subst_vars <;> rfl ; done)
    | (rcases h with h | h | h <;> (repeat' (rcases h with ⟨x, h⟩)) <;> subst_vars <;> rfl ; done)
    | exact lenx_first_between h
theorem len_spread_words {ws : List W} {μ : Mu} {R : W → Mu → Prop} (h : F_spread_words ws μ R) : ws.length = p_spread_words.length := by
  unfold F_spread_words at h
  first
    | (repeat' (rcases h with ⟨x, h⟩)) ; subst_vars ; rfl ; done
    | (rcases h with h | h <;> (repeat' (rcases h with ⟨x, h⟩)) <;> subst_vars <;> rfl ; done)
    | (rcases h with h | h | h <;> (repeat' (rcases h with ⟨x, h⟩)) <;> subst_vars <;> rfl ; done)
    | exact lenx_spread_words h
theorem len_need_word {ws : List W} {μ : Mu} {R : W → Mu → Prop} {S : Str → W → Mu → Prop} (h : F_need_word ws μ R S) : ws.length = p_need_word.length := by
  unfold F_need_word at h
  first
    | (repeat' (rcases h with ⟨x, h⟩)) ; subst_vars ; rfl ; done
    | (rcases h with h | h <;> (repeat' (rcases h with ⟨x, h⟩)) <;> subst_vars <;> rfl ; done)
    | (rcases h with h | h | h <;> (repeat' (rcases h with ⟨x, h⟩)) <;> subst_vars <;> rfl ; done)
    | exact lenx_need_word h
theorem len_word_between {ws : List W} {μ : Mu} {R : W → Mu → Prop} {S : Str → W → Mu → Prop} (h : F_word_between ws μ R S) : ws.length = p_word_between.length := by
  unfold F_word_between at h
  first
    | (repeat' (rcases h with ⟨x, h⟩)) ; subst_vars ; rfl ; done
    | (rcases h with h | h <;> (repeat' (rcases h with ⟨x, h⟩)) <;> subst_vars <;> rfl ; done)
    | (rcases h with h | h | h <;> (repeat' (rcases h with ⟨x, h⟩)) <;> subst_vars <;> rfl ; done)
    | exact lenx_word_between h
theorem len_spread {ws : List W} {μ : Mu} {R : W → Mu → Prop} {S : Str → W → Mu → Prop} (h : F_spread ws μ R S) : ws.length = p_spread.length := by
  unfold F_spread at h
  first
    | (repeat' (rcases h with ⟨x, h⟩)) ; subst_vars ; rfl ; done
    | (rcases h with h | h <;> (repeat' (rcases h with ⟨x, h⟩)) <;> subst_vars <;> rfl ; done)
    | (rcases h with h | h | h <;> (repeat' (rcases h with ⟨x, h⟩)) <;> subst_vars <;> rfl ; done)
    | exact lenx_spread h
theorem len__law_pool {ws : List W} {μ : Mu} {R : W → Mu → Prop} (h : F__law_pool ws μ R) : ws.length = p__law_pool.length := by
  unfold F__law_pool at h
  first
    | (repeat' (rcases h with ⟨x, h⟩)) ; subst_vars ; rfl ; done
    | (rcases h with h | h <;> (repeat' (rcases h with ⟨x, h⟩)) <;> subst_vars <;> rfl ; done)
    | (rcases h with h | h | h <;> (repeat' (rcases h with ⟨x, h⟩)) <;> subst_vars <;> rfl ; done)
    | exact lenx__law_pool h
theorem len__law_take {ws : List W} {μ : Mu} {R : W → Mu → Prop} (h : F__law_take ws μ R) : ws.length = p__law_take.length := by
  unfold F__law_take at h
  first
    | (repeat' (rcases h with ⟨x, h⟩)) ; subst_vars ; rfl ; done
    | (rcases h with h | h <;> (repeat' (rcases h with ⟨x, h⟩)) <;> subst_vars <;> rfl ; done)
    | (rcases h with h | h | h <;> (repeat' (rcases h with ⟨x, h⟩)) <;> subst_vars <;> rfl ; done)
    | exact lenx__law_take h
theorem len__law_same {ws : List W} {μ : Mu} {R : W → Mu → Prop} (h : F__law_same ws μ R) : ws.length = p__law_same.length := by
  unfold F__law_same at h
  first
    | (repeat' (rcases h with ⟨x, h⟩)) ; subst_vars ; rfl ; done
    | (rcases h with h | h <;> (repeat' (rcases h with ⟨x, h⟩)) <;> subst_vars <;> rfl ; done)
    | (rcases h with h | h | h <;> (repeat' (rcases h with ⟨x, h⟩)) <;> subst_vars <;> rfl ; done)
    | exact lenx__law_same h
theorem len__law_word_of {ws : List W} {μ : Mu} {R : W → Mu → Prop} (h : F__law_word_of ws μ R) : ws.length = p__law_word_of.length := by
  unfold F__law_word_of at h
  first
    | (repeat' (rcases h with ⟨x, h⟩)) ; subst_vars ; rfl ; done
    | (rcases h with h | h <;> (repeat' (rcases h with ⟨x, h⟩)) <;> subst_vars <;> rfl ; done)
    | (rcases h with h | h | h <;> (repeat' (rcases h with ⟨x, h⟩)) <;> subst_vars <;> rfl ; done)
    | exact lenx__law_word_of h
theorem len__law_power {ws : List W} {μ : Mu} {R : W → Mu → Prop} (h : F__law_power ws μ R) : ws.length = p__law_power.length := by
  unfold F__law_power at h
  first
    | (repeat' (rcases h with ⟨x, h⟩)) ; subst_vars ; rfl ; done
    | (rcases h with h | h <;> (repeat' (rcases h with ⟨x, h⟩)) <;> subst_vars <;> rfl ; done)
    | (rcases h with h | h | h <;> (repeat' (rcases h with ⟨x, h⟩)) <;> subst_vars <;> rfl ; done)
    | exact lenx__law_power h
theorem len__law_error {ws : List W} {μ : Mu} {R : W → Mu → Prop} (h : F__law_error ws μ R) : ws.length = p__law_error.length := by
  unfold F__law_error at h
  first
    | (repeat' (rcases h with ⟨x, h⟩)) ; subst_vars ; rfl ; done
    | (rcases h with h | h <;> (repeat' (rcases h with ⟨x, h⟩)) <;> subst_vars <;> rfl ; done)
    | (rcases h with h | h | h <;> (repeat' (rcases h with ⟨x, h⟩)) <;> subst_vars <;> rfl ; done)
    | exact lenx__law_error h
theorem len_law {ws : List W} {μ : Mu} {R : W → Mu → Prop} (h : F_law ws μ R) : ws.length = p_law.length := by
  unfold F_law at h
  first
    | (repeat' (rcases h with ⟨x, h⟩)) ; subst_vars ; rfl ; done
    | (rcases h with h | h <;> (repeat' (rcases h with ⟨x, h⟩)) <;> subst_vars <;> rfl ; done)
    | (rcases h with h | h | h <;> (repeat' (rcases h with ⟨x, h⟩)) <;> subst_vars <;> rfl ; done)
    | exact lenx_law h
structure Txt (P : Program) (K : PySem.W.Frag) (mg : Str → Option Value) where
  a_is_word : Addr
  d_is_word : FuncData
  u_is_word : Fun K "is_word" "is_word" s_is_word a_is_word d_is_word
  m_is_word : mg "is_word" = some (.ref a_is_word)
  a_all_strings : Addr
  d_all_strings : FuncData
  u_all_strings : Fun K "all_strings" "all_strings" s_all_strings a_all_strings d_all_strings
  m_all_strings : mg "all_strings" = some (.ref a_all_strings)
  a_value_of : Addr
  d_value_of : FuncData
  u_value_of : Fun K "value_of" "value_of" s_value_of a_value_of d_value_of
  m_value_of : mg "value_of" = some (.ref a_value_of)
  a_string_of : Addr
  d_string_of : FuncData
  u_string_of : Fun K "string_of" "string_of" s_string_of a_string_of d_string_of
  m_string_of : mg "string_of" = some (.ref a_string_of)
  a_first_above : Addr
  d_first_above : FuncData
  u_first_above : Fun K "first_above" "first_above" s_first_above a_first_above d_first_above
  m_first_above : mg "first_above" = some (.ref a_first_above)
  a_first_between : Addr
  d_first_between : FuncData
  u_first_between : Fun K "first_between" "first_between" s_first_between a_first_between d_first_between
  m_first_between : mg "first_between" = some (.ref a_first_between)
  a_spread_words : Addr
  d_spread_words : FuncData
  u_spread_words : Fun K "spread_words" "spread_words" s_spread_words a_spread_words d_spread_words
  m_spread_words : mg "spread_words" = some (.ref a_spread_words)
  a_need_word : Addr
  d_need_word : FuncData
  u_need_word : Fun K "need_word" "need_word" s_need_word a_need_word d_need_word
  m_need_word : mg "need_word" = some (.ref a_need_word)
  a_word_between : Addr
  d_word_between : FuncData
  u_word_between : Fun K "word_between" "word_between" s_word_between a_word_between d_word_between
  m_word_between : mg "word_between" = some (.ref a_word_between)
  a_spread : Addr
  d_spread : FuncData
  u_spread : Fun K "spread" "spread" s_spread a_spread d_spread
  m_spread : mg "spread" = some (.ref a_spread)
  a__law_pool : Addr
  d__law_pool : FuncData
  u__law_pool : Fun K "_law_pool" "_law_pool" s__law_pool a__law_pool d__law_pool
  m__law_pool : mg "_law_pool" = some (.ref a__law_pool)
  a__law_take : Addr
  d__law_take : FuncData
  u__law_take : Fun K "_law_take" "_law_take" s__law_take a__law_take d__law_take
  m__law_take : mg "_law_take" = some (.ref a__law_take)
  a__law_same : Addr
  d__law_same : FuncData
  u__law_same : Fun K "_law_same" "_law_same" s__law_same a__law_same d__law_same
  m__law_same : mg "_law_same" = some (.ref a__law_same)
  a__law_word_of : Addr
  d__law_word_of : FuncData
  u__law_word_of : Fun K "_law_word_of" "_law_word_of" s__law_word_of a__law_word_of d__law_word_of
  m__law_word_of : mg "_law_word_of" = some (.ref a__law_word_of)
  a__law_power : Addr
  d__law_power : FuncData
  u__law_power : Fun K "_law_power" "_law_power" s__law_power a__law_power d__law_power
  m__law_power : mg "_law_power" = some (.ref a__law_power)
  a__law_error : Addr
  d__law_error : FuncData
  u__law_error : Fun K "_law_error" "_law_error" s__law_error a__law_error d__law_error
  m__law_error : mg "_law_error" = some (.ref a__law_error)
  a_law : Addr
  d_law : FuncData
  u_law : Fun K "law" "law" s_law a_law d_law
  m_law : mg "law" = some (.ref a_law)
  n_all : mg "all" = none
  n_int : mg "int" = none
  n_isinstance : mg "isinstance" = none
  n_len : mg "len" = none
  n_list : mg "list" = none
  n_range : mg "range" = none
  n_repr : mg "repr" = none
  e_InvalidNumber : IsErr P K mg "InvalidNumber"
  e_InvalidWord : IsErr P K mg "InvalidWord"
  e_WindowError : IsErr P K mg "WindowError"
  c_BASE : Cst mg "BASE" (.int 26)
  c_LETTERS : Cst mg "LETTERS" (.str "abcdefghijklmnopqrstuvwxyz")
  EF : ErrF K
section
variable {P : Program} {w : World} {K : PySem.W.Frag} {mg : Str → Option Value} {base : Heap}
theorem g_is_word (T : Txt P K mg) : FnG P w K mg base CX0 1 T.a_is_word T.d_is_word p_is_word (spD K F_is_word) :=
  fnG_ok T.u_is_word sc_is_word (fun ws μ R h => len_is_word h) (fun cdv A outer s H E hr hgd => ⟨t_is_word K, dv_is_word (hr := hr) (hgd := hgd) (n_all := T.n_all) (m_LETTERS := T.c_LETTERS), rd_is_word⟩)
theorem h_is_word (T : Txt P K mg) : HasG P w K mg base CX0 "is_word" p_is_word 1 (spD K F_is_word) := hasg_of T.u_is_word T.m_is_word (g_is_word T) fun _ _ _ _ _ _ us hl => match us, hl with | [_], _ => rfl
theorem g_all_strings (T : Txt P K mg) : FnG P w K mg base CX0 1 T.a_all_strings T.d_all_strings p_all_strings (spD K F_all_strings) :=
  fnG_ok T.u_all_strings sc_all_strings (fun ws μ R h => len_all_strings h) (fun cdv A outer s H E hr hgd => ⟨t_all_strings K, dv_all_strings (hr := hr) (hgd := hgd) (n_range := T.n_range) (m_BASE := T.c_BASE), rd_all_strings⟩)
theorem h_all_strings (T : Txt P K mg) : HasG P w K mg base CX0 "all_strings" p_all_strings 1 (spD K F_all_strings) := hasg_of T.u_all_strings T.m_all_strings (g_all_strings T) fun _ _ _ _ _ _ us hl => match us, hl with | [_], _ => rfl
theorem g_value_of (T : Txt P K mg) : FnG P w K mg base CX0 1 T.a_value_of T.d_value_of p_value_of (spD K F_value_of) :=
  fnG_ok T.u_value_of sc_value_of (fun ws μ R h => len_value_of h) (fun cdv A outer s H E hr hgd => ⟨t_value_of K, dv_value_of (hr := hr) (hgd := hgd) (m_BASE := T.c_BASE) (m_LETTERS := T.c_LETTERS), rd_value_of⟩)
theorem h_value_of (T : Txt P K mg) : HasG P w K mg base CX0 "value_of" p_value_of 1 (spD K F_value_of) := hasg_of T.u_value_of T.m_value_of (g_value_of T) fun _ _ _ _ _ _ us hl => match us, hl with | [_, _], _ => rfl
theorem g_string_of (T : Txt P K mg) : FnG P w K mg base CX0 1 T.a_string_of T.d_string_of p_string_of (spD K F_string_of) :=
  fnG_ok T.u_string_of sc_string_of (fun ws μ R h => len_string_of h) (fun cdv A outer s H E hr hgd => ⟨t_string_of K, dv_string_of (hr := hr) (hgd := hgd) (n_range := T.n_range) (m_BASE := T.c_BASE) (m_LETTERS := T.c_LETTERS), rd_string_of⟩)
theorem h_string_of (T : Txt P K mg) : HasG P w K mg base CX0 "string_of" p_string_of 1 (spD K F_string_of) := hasg_of T.u_string_of T.m_string_of (g_string_of T) fun _ _ _ _ _ _ us hl => match us, hl with | [_, _], _ => rfl
theorem g_first_above (T : Txt P K mg) : FnG P w K mg base CX0 2 T.a_first_above T.d_first_above p_first_above (spD K F_first_above) :=
  fnG_ok T.u_first_above sc_first_above (fun ws μ R h => len_first_above h) (fun cdv A outer s H E hr hgd => ⟨t_first_above K, dv_first_above (hr := hr) (hgd := hgd) (h_all_strings := h_all_strings T) (h_string_of := h_string_of T) (h_value_of := h_value_of T) (m_BASE := T.c_BASE), rd_first_above⟩)
theorem h_first_above (T : Txt P K mg) : HasG P w K mg base CX0 "first_above" p_first_above 2 (spD K F_first_above) := hasg_of T.u_first_above T.m_first_above (g_first_above T) fun _ _ _ _ _ _ us hl => match us, hl with | [_, _], _ => rfl
theorem g_first_between (T : Txt P K mg) : FnG P w K mg base CX0 3 T.a_first_between T.d_first_between p_first_between (spD K F_first_between) :=
  fnG_ok T.u_first_between sc_first_between (fun ws μ R h => len_first_between h) (fun cdv A outer s H E hr hgd => ⟨t_first_between K, dv_first_between (hr := hr) (hgd := hgd) (h_first_above := h_first_above T), rd_first_between⟩)
theorem h_first_between (T : Txt P K mg) : HasG P w K mg base CX0 "first_between" p_first_between 3 (spD K F_first_between) := hasg_of T.u_first_between T.m_first_between (g_first_between T) fun _ _ _ _ _ _ us hl => match us, hl with | [_, _], _ => rfl
theorem g_spread_words (T : Txt P K mg) : FnG P w K mg base CX0 2 T.a_spread_words T.d_spread_words p_spread_words (spD K F_spread_words) :=
  fnG_ok T.u_spread_words sc_spread_words (fun ws μ R h => len_spread_words h) (fun cdv A outer s H E hr hgd => ⟨t_spread_words K, dv_spread_words (hr := hr) (hgd := hgd) (h_all_strings := h_all_strings T) (h_string_of := h_string_of T) (n_range := T.n_range), rd_spread_words⟩)
theorem h_spread_words (T : Txt P K mg) : HasG P w K mg base CX0 "spread_words" p_spread_words 2 (spD K F_spread_words) := hasg_of T.u_spread_words T.m_spread_words (g_spread_words T) fun _ _ _ _ _ _ us hl => match us, hl with | [_], _ => rfl
theorem g_need_word (T : Txt P K mg) : FnG P w K mg base (L2.CX P w) 2 T.a_need_word T.d_need_word p_need_word (spX K F_need_word) :=
  fnG_okX T.u_need_word sc_need_word (fun ws μ R S h => len_need_word h) (fun cdv A outer s H E hr hgd => ⟨t_need_word K fun c d _ H => E c d H, dv_need_word (hr := hr) (hgd := hgd) (h_is_word := h_is_word T) (e_InvalidWord := T.e_InvalidWord), (rd_need_word E)⟩)
theorem h_need_word (T : Txt P K mg) : HasG P w K mg base (L2.CX P w) "need_word" p_need_word 2 (spX K F_need_word) := hasg_of T.u_need_word T.m_need_word (g_need_word T) fun _ _ _ _ _ _ us hl => match us, hl with | [_], _ => rfl
theorem g_word_between (T : Txt P K mg) : FnG P w K mg base (L2.CX P w) 4 T.a_word_between T.d_word_between p_word_between (spX K F_word_between) :=
  fnG_okX T.u_word_between sc_word_between (fun ws μ R S h => len_word_between h) (fun cdv A outer s H E hr hgd => ⟨t_word_between K fun c d _ H => E c d H, dv_word_between (hr := hr) (hgd := hgd) (h_first_between := h_first_between T) (h_need_word := h_need_word T) (e_InvalidWord := T.e_InvalidWord), (rd_word_between E)⟩)
theorem h_word_between (T : Txt P K mg) : HasG P w K mg base (L2.CX P w) "word_between" p_word_between 4 (spX K F_word_between) := hasg_of T.u_word_between T.m_word_between (g_word_between T) fun _ _ _ _ _ _ us hl => match us, hl with | [_, _], _ => rfl
theorem g_spread (T : Txt P K mg) : FnG P w K mg base (L2.CX P w) 3 T.a_spread T.d_spread p_spread (spX K F_spread) :=
  fnG_okX T.u_spread sc_spread (fun ws μ R S h => len_spread h) (fun cdv A outer s H E hr hgd => ⟨t_spread K fun c d _ H => E c d H, dv_spread (hr := hr) (hgd := hgd) (h_spread_words := h_spread_words T) (e_InvalidNumber := T.e_InvalidNumber), (rd_spread E)⟩)
theorem h_spread (T : Txt P K mg) : HasG P w K mg base (L2.CX P w) "spread" p_spread 3 (spX K F_spread) := hasg_of T.u_spread T.m_spread (g_spread T) fun _ _ _ _ _ _ us hl => match us, hl with | [_], _ => rfl
theorem hk_spread_0 (T : Txt P K mg) : HasGK P w K mg base (L2.CX P w) "spread" p_spread 3 (spX K F_spread) 0 ["number"] [0] := hasgk_of T.u_spread T.m_spread (g_spread T) 0 ["number"] [0] fun _ _ _ _ _ _ us ws h1 h2 => match us, ws, h1, h2 with | [], [_], _, _ => rfl
theorem g__law_pool (T : Txt P K mg) : FnG P w K mg base CX0 1 T.a__law_pool T.d__law_pool p__law_pool (spD K F__law_pool) :=
  fnG_ok T.u__law_pool sc__law_pool (fun ws μ R h => len__law_pool h) (fun cdv A outer s H E hr hgd => ⟨t__law_pool K, dv__law_pool (hr := hr) (hgd := hgd) (n_list := T.n_list), rd__law_pool⟩)
theorem h__law_pool (T : Txt P K mg) : HasG P w K mg base CX0 "_law_pool" p__law_pool 1 (spD K F__law_pool) := hasg_of T.u__law_pool T.m__law_pool (g__law_pool T) fun _ _ _ _ _ _ us hl => match us, hl with | [_], _ => rfl
theorem g__law_take (T : Txt P K mg) : FnG P w K mg base CX0 1 T.a__law_take T.d__law_take p__law_take (spD K F__law_take) :=
  fnG_ok T.u__law_take sc__law_take (fun ws μ R h => len__law_take h) (fun cdv A outer s H E hr hgd => ⟨t__law_take K, dv__law_take (hr := hr) (hgd := hgd) (n_int := T.n_int), rd__law_take⟩)
theorem h__law_take (T : Txt P K mg) : HasG P w K mg base CX0 "_law_take" p__law_take 1 (spD K F__law_take) := hasg_of T.u__law_take T.m__law_take (g__law_take T) fun _ _ _ _ _ _ us hl => match us, hl with | [_, _], _ => rfl
theorem g__law_same (T : Txt P K mg) : FnG P w K mg base CX0 1 T.a__law_same T.d__law_same p__law_same (spD K F__law_same) :=
  fnG_ok T.u__law_same sc__law_same (fun ws μ R h => len__law_same h) (fun cdv A outer s H E hr hgd => ⟨t__law_same K, dv__law_same (hr := hr) (hgd := hgd) (n_repr := T.n_repr), rd__law_same⟩)
theorem h__law_same (T : Txt P K mg) : HasG P w K mg base CX0 "_law_same" p__law_same 1 (spD K F__law_same) := hasg_of T.u__law_same T.m__law_same (g__law_same T) fun _ _ _ _ _ _ us hl => match us, hl with | [_, _], _ => rfl
theorem g__law_word_of (T : Txt P K mg) : FnG P w K mg base CX0 1 T.a__law_word_of T.d__law_word_of p__law_word_of (spD K F__law_word_of) :=
  fnG_ok T.u__law_word_of sc__law_word_of (fun ws μ R h => len__law_word_of h) (fun cdv A outer s H E hr hgd => ⟨t__law_word_of K, dv__law_word_of (hr := hr) (hgd := hgd) (n_int := T.n_int) (n_range := T.n_range), rd__law_word_of⟩)
theorem h__law_word_of (T : Txt P K mg) : HasG P w K mg base CX0 "_law_word_of" p__law_word_of 1 (spD K F__law_word_of) := hasg_of T.u__law_word_of T.m__law_word_of (g__law_word_of T) fun _ _ _ _ _ _ us hl => match us, hl with | [_, _], _ => rfl
theorem g__law_power (T : Txt P K mg) : FnG P w K mg base CX0 1 T.a__law_power T.d__law_power p__law_power (spD K F__law_power) :=
  fnG_ok T.u__law_power sc__law_power (fun ws μ R h => len__law_power h) (fun cdv A outer s H E hr hgd => ⟨t__law_power K, dv__law_power (hr := hr) (hgd := hgd) (n_range := T.n_range), rd__law_power⟩)
theorem h__law_power (T : Txt P K mg) : HasG P w K mg base CX0 "_law_power" p__law_power 1 (spD K F__law_power) := hasg_of T.u__law_power T.m__law_power (g__law_power T) fun _ _ _ _ _ _ us hl => match us, hl with | [_, _], _ => rfl
theorem g__law_error (T : Txt P K mg) : FnG P w K mg base CX0 4 T.a__law_error T.d__law_error p__law_error (spD K F__law_error) :=
  fnG_ok T.u__law_error sc__law_error (fun ws μ R h => len__law_error h) (fun cdv A outer s H E hr hgd => ⟨t__law_error K, dv__law_error (hr := hr) (hgd := hgd) (h_spread := h_spread T) (e_WindowError := T.e_WindowError), (rd__law_error T.EF)⟩)
theorem h__law_error (T : Txt P K mg) : HasG P w K mg base CX0 "_law_error" p__law_error 4 (spD K F__law_error) := hasg_of T.u__law_error T.m__law_error (g__law_error T) fun _ _ _ _ _ _ us hl => match us, hl with | [_], _ => rfl
theorem g_law (T : Txt P K mg) : FnG P w K mg base CX0 5 T.a_law T.d_law p_law (spD K F_law) :=
  fnG_ok T.u_law sc_law (fun ws μ R h => len_law h) (fun cdv A outer s H E hr hgd => ⟨t_law K, dv_law (hr := hr) (hgd := hgd) (h__law_error := h__law_error T) (h__law_pool := h__law_pool T) (h__law_power := h__law_power T) (h__law_same := h__law_same T) (h__law_take := h__law_take T) (h__law_word_of := h__law_word_of T) (h_spread := h_spread T) (hk_spread_0 := hk_spread_0 T) (h_word_between := h_word_between T) (n_int := T.n_int) (n_isinstance := T.n_isinstance) (n_len := T.n_len) (n_range := T.n_range) (e_InvalidNumber := T.e_InvalidNumber), (rd_law T.EF)⟩)
theorem h_law (T : Txt P K mg) : HasG P w K mg base CX0 "law" p_law 5 (spD K F_law) := hasg_of T.u_law T.m_law (g_law T) fun _ _ _ _ _ _ us hl => match us, hl with | [_], _ => rfl
end
theorem vw_triv (H : Hp) : vw (fun _ => False) [] [] H = H := by
  funext b
  unfold vw
  rw [if_neg]
  rintro (z | ⟨k, c, h, _⟩)
  · exact z
  · simp at h
theorem vrs_ints {K : PySem.W.Frag} {H : Hp} {M : List Addr} : ∀ ns : List Int, VRs K H M (ns.map V.int) (wInts ns)
  | [] => .nil
  | n :: ns => .cons (.d (.int n)) (vrs_ints ns)
theorem law_start {K : PySem.W.Frag} {H : Hp} {a : Addr} {ns : List Int} {E : XK} (hl : ns.length ≤ 63) (hS : SqL K H a (ns.map V.int)) : spD K F_law [.ref a] H (fun v _ => v = .bl true) E := by
  refine ⟨fun _ => False, [], [], [.f (wInts ns)], fun w _ => w = .d (.bool true), ⟨rfl, List.nodup_nil, (fun a m => absurd m (List.not_mem_nil)), (fun a m => absurd m (List.not_mem_nil)), (fun a m => False.elim m), (fun k a c h _ => absurd h (by simp))⟩, ?_, ⟨ns, rfl, hl, rfl⟩, fun M' H' v w μ' _ _ r hR => ?_⟩
  · rw [vw_triv]
    exact .cons (.f hS (vrs_ints ns)) .nil
  · subst hR
    exact vr_bool r
def qW (n : Nat) : Pos := match n with
  | 0 => ⟨45, 8, 45, 13⟩
  | 1 => ⟨45, 8, 45, 15⟩
  | 2 => ⟨45, 8, 45, 24⟩
  | 3 => ⟨45, 25, 45, 36⟩
  | 4 => ⟨45, 8, 45, 37⟩
  | 5 => ⟨45, 8, 45, 37⟩
  | 6 => ⟨46, 8, 46, 12⟩
  | 7 => ⟨46, 8, 46, 18⟩
  | 8 => ⟨46, 21, 46, 26⟩
  | _ => ⟨46, 8, 46, 26⟩
theorem hev_W (wd : Str) (i : Nat) (env : Env) : ∃ pl : Sem Bool, eval (.Call (.Attribute (.Call (.Name "super" (qW 0)) [] [] (qW 1)) "__init__" (qW 2)) [.Constant (.str wd) i (qW 3)] [] (qW 4)) env = (do
      let ov ← attributeBase (.Call (.Name "super" (qW 0)) [] [] (qW 1)) "__init__" env (eval (.Call (.Name "super" (qW 0)) [] [] (qW 1)) env)
      standAt (qW 2).atName
      let (f, first) ← holding [ov] (getMethod ov "__init__" pl)
      callWith (qW 4) f first (backTo (qW 4) (starEach [.Constant (.str wd) i (qW 3)] env)) []) := ⟨_, rfl⟩
theorem cla_eq {K : PySem.W.Frag} {x : Str} {C a : Addr} (e : PySem.W.nsIn K mainGlobals x = some (some (.ref C))) (h : clA K x a) : a = C := by
  have z := h.symm.trans e
  simpa using z
theorem clv_eq {K : PySem.W.Frag} {x : Str} {C : Addr} {c : Value} (e : PySem.W.nsIn K mainGlobals x = some (some (.ref C))) (h : ClV K x c) : c = .ref C := by
  rcases h with h | h
  · have z := h.symm.trans e
    simpa using z
  · have z := h.1.symm.trans e
    simp at z
theorem sub_is {K : PySem.W.Frag} {x y : Str} {C D : Addr} {b : Bool} (ex : PySem.W.nsIn K mainGlobals x = some (some (.ref C))) (ey : PySem.W.nsIn K mainGlobals y = some (some (.ref D))) (h1 : PySem.W.subIn K (.ref D) (.type "BaseException") = some true) (h2 : PySem.W.hasDictIn K D = true) (h3 : PySem.W.typeIn K (.ref D) = some (.type "type")) (h4 : PySem.W.subIn K (.ref C) (.ref D) = some b) : SubIs K x y b := fun a c ha hc => by
  rw [cla_eq ex ha, clv_eq ey hc]
  exact PySem.W.exm_ref h1 h2 h3 h4
theorem is_of {K : PySem.W.Frag} {x y : Str} {C D : Addr} {b : Bool} (ex : PySem.W.nsIn K mainGlobals x = some (some (.ref C))) (ey : PySem.W.nsIn K mainGlobals y = some (some (.ref D))) (h2 : PySem.W.hasDictIn K D = true) (h3 : PySem.W.typeIn K (.ref D) = some (.type "type")) (h4 : PySem.W.subIn K (.ref C) (.ref D) = some b) (hb : C = D → b = true) : IsOf K x y b := fun a c ha hc => by
  rw [cla_eq ex ha, cla_eq ey hc]
  exact kit_ref h2 h3 h4 hb
theorem all_mk {P : Program} {w : World} {K : PySem.W.Frag} {h : Heap} {mg : Str → Option Value} {fa : Addr} (X : K.In h) (G : h.Ns mainGlobals mg) (hfa : mg "law" = some (.ref fa))
    {fI Db cda cc : Addr} {ocI kVI dcI pmI ctI cclI clI : Value} {odI anI cddI cldI : Option Addr} {oslI ccsI cslI : Array (Option Value)} {vsI : Array Value} {fileI : Str} {tfI : Tok} {wdI : Str} {ixI : Nat} {cdD : ClassData}
    {C0 : Addr} {nm0 q0 : Str} {N0 : Addr} {bs0 : List Value} {sn0 : List Str} {sb0 : List Value} {ab0 : Bool} {cl0 : Option Bool} {dd0 : Option Addr} {m00 m10 m20 m30 m50 : Option Value}
    {C1 : Addr} {nm1 q1 : Str} {N1 : Addr} {bs1 : List Value} {sn1 : List Str} {sb1 : List Value} {ab1 : Bool} {cl1 : Option Bool} {dd1 : Option Addr} {m01 m11 m21 m31 m51 : Option Value}
    {C2 : Addr} {nm2 q2 : Str} {N2 : Addr} {bs2 : List Value} {sn2 : List Str} {sb2 : List Value} {ab2 : Bool} {cl2 : Option Bool} {dd2 : Option Addr} {m02 m12 m22 m32 m52 : Option Value}
    {od0 an0 : Option Addr} {sl0 : Array (Option Value)} {f0 : Addr} {oc0 kV0 dc0 pm0 cd0 ct0 : Value}
    {od1 an1 : Option Addr} {sl1 : Array (Option Value)} {f1 : Addr} {oc1 kV1 dc1 pm1 cd1 ct1 : Value}
    {od2 an2 : Option Addr} {sl2 : Array (Option Value)} {f2 : Addr} {oc2 kV2 dc2 pm2 cd2 ct2 : Value}
    {od3 an3 : Option Addr} {sl3 : Array (Option Value)} {f3 : Addr} {oc3 kV3 dc3 pm3 cd3 ct3 : Value}
    {od4 an4 : Option Addr} {sl4 : Array (Option Value)} {f4 : Addr} {oc4 kV4 dc4 pm4 cd4 ct4 : Value}
    {od5 an5 : Option Addr} {sl5 : Array (Option Value)} {f5 : Addr} {oc5 kV5 dc5 pm5 cd5 ct5 : Value}
    {od6 an6 : Option Addr} {sl6 : Array (Option Value)} {f6 : Addr} {oc6 kV6 dc6 pm6 cd6 ct6 : Value}
    {od7 an7 : Option Addr} {sl7 : Array (Option Value)} {f7 : Addr} {oc7 kV7 dc7 pm7 cd7 ct7 : Value}
    {od8 an8 : Option Addr} {sl8 : Array (Option Value)} {f8 : Addr} {oc8 kV8 dc8 pm8 cd8 ct8 : Value}
    {od9 an9 : Option Addr} {sl9 : Array (Option Value)} {f9 : Addr} {oc9 kV9 dc9 pm9 cd9 ct9 : Value}
    {od10 an10 : Option Addr} {sl10 : Array (Option Value)} {f10 : Addr} {oc10 kV10 dc10 pm10 cd10 ct10 : Value}
    {od11 an11 : Option Addr} {sl11 : Array (Option Value)} {f11 : Addr} {oc11 kV11 dc11 pm11 cd11 ct11 : Value}
    {od12 an12 : Option Addr} {sl12 : Array (Option Value)} {f12 : Addr} {oc12 kV12 dc12 pm12 cd12 ct12 : Value}
    {od13 an13 : Option Addr} {sl13 : Array (Option Value)} {f13 : Addr} {oc13 kV13 dc13 pm13 cd13 ct13 : Value}
    {od14 an14 : Option Addr} {sl14 : Array (Option Value)} {f14 : Addr} {oc14 kV14 dc14 pm14 cd14 ct14 : Value}
    {od15 an15 : Option Addr} {sl15 : Array (Option Value)} {f15 : Addr} {oc15 kV15 dc15 pm15 cd15 ct15 : Value}
    {od16 an16 : Option Addr} {sl16 : Array (Option Value)} {f16 : Addr} {oc16 kV16 dc16 pm16 cd16 ct16 : Value}
    {tk0 : Tok}
    {tk1 : Tok}
    (aB : PySem.W.nsIn K mainGlobals "WindowError" = some (some (.ref Db)))
    (iB : PySem.W.findIn K (.ref Db) "__init__" = some (some (.ref fI)))
    (lB : K.lookup fI = some ⟨ocI, odI, .func (PySem.W.ksFn "__init__" "WindowError.__init__" (PySem.OwnErr.eA ⟨44, 17, 44, 21⟩ ⟨44, 23, 44, 28⟩) (PySem.OwnErr.eB wdI ixI qW) PySem.OwnErr.eS .none kVI dcI pmI anI (.ref cda) ctI cc), oslI⟩)
    (cB : PySem.W.codeIn K (.ref cda) "WindowError.__init__" = true)
    (dB : K.lookup cda = some ⟨cclI, cddI, .fields vsI, ccsI⟩)
    (vB : vsI[2]? = some (.str fileI tfI))
    (fB : ((P.main.file : Str) == fileI) = true)
    (eB : K.lookup cc = some ⟨clI, cldI, .cell (some (.ref Db)), cslI⟩)
    (gB : PySem.W.clsIn K Db = some cdD)
    (tB : (P.main.scope.names.lookup ("super" : Str)).isSome = false)
    (yB : PySem.W.nsIn K cStatics "thirdparty.any" = some none)
    (zB : PySem.W.typeIn K (.ref fI) = some (.type "function"))
    (jB : PySem.W.specialIn K (.builtin "object.__class__") "__get__" = some (some (.builtin "getset_descriptor.__get__")))
    (kB : PySem.W.takesIn K (.builtin "object.__class__") = some true)
    (uB : PySem.W.nsIn K mainGlobals "super" = some none)
    (x0a : PySem.W.nsIn K mainGlobals "InvalidNumber" = some (some (.ref C0)))
    (x0l : K.lookup C0 = some (PySem.excClassObj nm0 q0 C0 N0 bs0 [.ref Db, .type "ValueError", .type "Exception", .type "BaseException", .type "object"] true sn0 sb0 ab0 cl0 dd0 m00 m10 m20 m30 m50 "ValueError.__new__"))
    (x0s : PySem.W.findIn K (.ref C0) "__setattr__" = some (some (.builtin "object.__setattr__")))
    (x0g : PySem.W.findIn K (.ref C0) "__getattribute__" = some (some (.builtin "BaseException.__getattribute__")))
    (x0h : PySem.W.findIn K (.ref C0) "__getattr__" = some none)
    (x0v : PySem.W.findIn K (.ref C0) "value" = some none)
    (x0i : PySem.W.findIn K (.ref C0) "__init__" = some (some (.ref fI)))
    (x0e : PySem.W.subIn K (.ref C0) (.type "BaseException") = some true)
    (x0t : PySem.W.typeIn K (.ref C0) = some (.type "type"))
    (x0k : PySem.W.keepIn K (.ref C0) = true)
    (x0d : PySem.W.hasDictIn K C0 = true)
    (x0b : PySem.W.mroIn K C0 (.ref Db) = some true)
    (x0u : PySem.W.ks_superIn K C0 Db "__init__" = some (some (.builtin "ValueError.__init__")))
    (x0w : PySem.W.subIn K (.ref C0) (.type "ValueError") = some true)
    (x0m : PySem.W.findIn K (.ref C0) "__class__" = some (some (.builtin "object.__class__")))
    (x0o : PySem.W.mroIn K C0 (.type "object") = some true)
    (x1a : PySem.W.nsIn K mainGlobals "InvalidWord" = some (some (.ref C1)))
    (x1l : K.lookup C1 = some (PySem.excClassObj nm1 q1 C1 N1 bs1 [.ref Db, .type "ValueError", .type "Exception", .type "BaseException", .type "object"] true sn1 sb1 ab1 cl1 dd1 m01 m11 m21 m31 m51 "ValueError.__new__"))
    (x1s : PySem.W.findIn K (.ref C1) "__setattr__" = some (some (.builtin "object.__setattr__")))
    (x1g : PySem.W.findIn K (.ref C1) "__getattribute__" = some (some (.builtin "BaseException.__getattribute__")))
    (x1h : PySem.W.findIn K (.ref C1) "__getattr__" = some none)
    (x1v : PySem.W.findIn K (.ref C1) "value" = some none)
    (x1i : PySem.W.findIn K (.ref C1) "__init__" = some (some (.ref fI)))
    (x1e : PySem.W.subIn K (.ref C1) (.type "BaseException") = some true)
    (x1t : PySem.W.typeIn K (.ref C1) = some (.type "type"))
    (x1k : PySem.W.keepIn K (.ref C1) = true)
    (x1d : PySem.W.hasDictIn K C1 = true)
    (x1b : PySem.W.mroIn K C1 (.ref Db) = some true)
    (x1u : PySem.W.ks_superIn K C1 Db "__init__" = some (some (.builtin "ValueError.__init__")))
    (x1w : PySem.W.subIn K (.ref C1) (.type "ValueError") = some true)
    (x1m : PySem.W.findIn K (.ref C1) "__class__" = some (some (.builtin "object.__class__")))
    (x1o : PySem.W.mroIn K C1 (.type "object") = some true)
    (x2a : PySem.W.nsIn K mainGlobals "WindowError" = some (some (.ref C2)))
    (x2l : K.lookup C2 = some (PySem.excClassObj nm2 q2 C2 N2 bs2 [.type "ValueError", .type "Exception", .type "BaseException", .type "object"] true sn2 sb2 ab2 cl2 dd2 m02 m12 m22 m32 m52 "ValueError.__new__"))
    (x2s : PySem.W.findIn K (.ref C2) "__setattr__" = some (some (.builtin "object.__setattr__")))
    (x2g : PySem.W.findIn K (.ref C2) "__getattribute__" = some (some (.builtin "BaseException.__getattribute__")))
    (x2h : PySem.W.findIn K (.ref C2) "__getattr__" = some none)
    (x2v : PySem.W.findIn K (.ref C2) "value" = some none)
    (x2i : PySem.W.findIn K (.ref C2) "__init__" = some (some (.ref fI)))
    (x2e : PySem.W.subIn K (.ref C2) (.type "BaseException") = some true)
    (x2t : PySem.W.typeIn K (.ref C2) = some (.type "type"))
    (x2k : PySem.W.keepIn K (.ref C2) = true)
    (x2d : PySem.W.hasDictIn K C2 = true)
    (x2b : PySem.W.mroIn K C2 (.ref Db) = some true)
    (x2u : PySem.W.ks_superIn K C2 Db "__init__" = some (some (.builtin "ValueError.__init__")))
    (x2w : PySem.W.subIn K (.ref C2) (.type "ValueError") = some true)
    (x2m : PySem.W.findIn K (.ref C2) "__class__" = some (some (.builtin "object.__class__")))
    (x2o : PySem.W.mroIn K C2 (.type "object") = some true)
    (y0_0 : PySem.W.subIn K (.ref C0) (.ref C0) = some true)
    (y0_1 : PySem.W.subIn K (.ref C0) (.ref C1) = some false)
    (y0_2 : PySem.W.subIn K (.ref C0) (.ref C2) = some true)
    (y1_0 : PySem.W.subIn K (.ref C1) (.ref C0) = some false)
    (y1_1 : PySem.W.subIn K (.ref C1) (.ref C1) = some true)
    (y1_2 : PySem.W.subIn K (.ref C1) (.ref C2) = some true)
    (a0 : PySem.W.nsIn K mainGlobals "is_word" = some (some (.ref f0))) (l0 : K.lookup f0 = some ⟨oc0, od0, .func (PySem.W.fnOf "is_word" "is_word" (defArgs s_is_word) (defBody s_is_word) (defScope s_is_word) .none kV0 dc0 pm0 an0 cd0 ct0), sl0⟩) (c0 : PySem.W.codeIn K cd0 "is_word" = true) (k0 : PySem.W.keepIn K (.ref f0) = true)
    (a1 : PySem.W.nsIn K mainGlobals "all_strings" = some (some (.ref f1))) (l1 : K.lookup f1 = some ⟨oc1, od1, .func (PySem.W.fnOf "all_strings" "all_strings" (defArgs s_all_strings) (defBody s_all_strings) (defScope s_all_strings) .none kV1 dc1 pm1 an1 cd1 ct1), sl1⟩) (c1 : PySem.W.codeIn K cd1 "all_strings" = true) (k1 : PySem.W.keepIn K (.ref f1) = true)
    (a2 : PySem.W.nsIn K mainGlobals "value_of" = some (some (.ref f2))) (l2 : K.lookup f2 = some ⟨oc2, od2, .func (PySem.W.fnOf "value_of" "value_of" (defArgs s_value_of) (defBody s_value_of) (defScope s_value_of) .none kV2 dc2 pm2 an2 cd2 ct2), sl2⟩) (c2 : PySem.W.codeIn K cd2 "value_of" = true) (k2 : PySem.W.keepIn K (.ref f2) = true)
    (a3 : PySem.W.nsIn K mainGlobals "string_of" = some (some (.ref f3))) (l3 : K.lookup f3 = some ⟨oc3, od3, .func (PySem.W.fnOf "string_of" "string_of" (defArgs s_string_of) (defBody s_string_of) (defScope s_string_of) .none kV3 dc3 pm3 an3 cd3 ct3), sl3⟩) (c3 : PySem.W.codeIn K cd3 "string_of" = true) (k3 : PySem.W.keepIn K (.ref f3) = true)
    (a4 : PySem.W.nsIn K mainGlobals "first_above" = some (some (.ref f4))) (l4 : K.lookup f4 = some ⟨oc4, od4, .func (PySem.W.fnOf "first_above" "first_above" (defArgs s_first_above) (defBody s_first_above) (defScope s_first_above) .none kV4 dc4 pm4 an4 cd4 ct4), sl4⟩) (c4 : PySem.W.codeIn K cd4 "first_above" = true) (k4 : PySem.W.keepIn K (.ref f4) = true)
    (a5 : PySem.W.nsIn K mainGlobals "first_between" = some (some (.ref f5))) (l5 : K.lookup f5 = some ⟨oc5, od5, .func (PySem.W.fnOf "first_between" "first_between" (defArgs s_first_between) (defBody s_first_between) (defScope s_first_between) .none kV5 dc5 pm5 an5 cd5 ct5), sl5⟩) (c5 : PySem.W.codeIn K cd5 "first_between" = true) (k5 : PySem.W.keepIn K (.ref f5) = true)
    (a6 : PySem.W.nsIn K mainGlobals "spread_words" = some (some (.ref f6))) (l6 : K.lookup f6 = some ⟨oc6, od6, .func (PySem.W.fnOf "spread_words" "spread_words" (defArgs s_spread_words) (defBody s_spread_words) (defScope s_spread_words) .none kV6 dc6 pm6 an6 cd6 ct6), sl6⟩) (c6 : PySem.W.codeIn K cd6 "spread_words" = true) (k6 : PySem.W.keepIn K (.ref f6) = true)
    (a7 : PySem.W.nsIn K mainGlobals "need_word" = some (some (.ref f7))) (l7 : K.lookup f7 = some ⟨oc7, od7, .func (PySem.W.fnOf "need_word" "need_word" (defArgs s_need_word) (defBody s_need_word) (defScope s_need_word) .none kV7 dc7 pm7 an7 cd7 ct7), sl7⟩) (c7 : PySem.W.codeIn K cd7 "need_word" = true) (k7 : PySem.W.keepIn K (.ref f7) = true)
    (a8 : PySem.W.nsIn K mainGlobals "word_between" = some (some (.ref f8))) (l8 : K.lookup f8 = some ⟨oc8, od8, .func (PySem.W.fnOf "word_between" "word_between" (defArgs s_word_between) (defBody s_word_between) (defScope s_word_between) .none kV8 dc8 pm8 an8 cd8 ct8), sl8⟩) (c8 : PySem.W.codeIn K cd8 "word_between" = true) (k8 : PySem.W.keepIn K (.ref f8) = true)
    (a9 : PySem.W.nsIn K mainGlobals "spread" = some (some (.ref f9))) (l9 : K.lookup f9 = some ⟨oc9, od9, .func (PySem.W.fnOf "spread" "spread" (defArgs s_spread) (defBody s_spread) (defScope s_spread) .none kV9 dc9 pm9 an9 cd9 ct9), sl9⟩) (c9 : PySem.W.codeIn K cd9 "spread" = true) (k9 : PySem.W.keepIn K (.ref f9) = true)
    (a10 : PySem.W.nsIn K mainGlobals "_law_pool" = some (some (.ref f10))) (l10 : K.lookup f10 = some ⟨oc10, od10, .func (PySem.W.fnOf "_law_pool" "_law_pool" (defArgs s__law_pool) (defBody s__law_pool) (defScope s__law_pool) .none kV10 dc10 pm10 an10 cd10 ct10), sl10⟩) (c10 : PySem.W.codeIn K cd10 "_law_pool" = true) (k10 : PySem.W.keepIn K (.ref f10) = true)
    (a11 : PySem.W.nsIn K mainGlobals "_law_take" = some (some (.ref f11))) (l11 : K.lookup f11 = some ⟨oc11, od11, .func (PySem.W.fnOf "_law_take" "_law_take" (defArgs s__law_take) (defBody s__law_take) (defScope s__law_take) .none kV11 dc11 pm11 an11 cd11 ct11), sl11⟩) (c11 : PySem.W.codeIn K cd11 "_law_take" = true) (k11 : PySem.W.keepIn K (.ref f11) = true)
    (a12 : PySem.W.nsIn K mainGlobals "_law_same" = some (some (.ref f12))) (l12 : K.lookup f12 = some ⟨oc12, od12, .func (PySem.W.fnOf "_law_same" "_law_same" (defArgs s__law_same) (defBody s__law_same) (defScope s__law_same) .none kV12 dc12 pm12 an12 cd12 ct12), sl12⟩) (c12 : PySem.W.codeIn K cd12 "_law_same" = true) (k12 : PySem.W.keepIn K (.ref f12) = true)
    (a13 : PySem.W.nsIn K mainGlobals "_law_word_of" = some (some (.ref f13))) (l13 : K.lookup f13 = some ⟨oc13, od13, .func (PySem.W.fnOf "_law_word_of" "_law_word_of" (defArgs s__law_word_of) (defBody s__law_word_of) (defScope s__law_word_of) .none kV13 dc13 pm13 an13 cd13 ct13), sl13⟩) (c13 : PySem.W.codeIn K cd13 "_law_word_of" = true) (k13 : PySem.W.keepIn K (.ref f13) = true)
    (a14 : PySem.W.nsIn K mainGlobals "_law_power" = some (some (.ref f14))) (l14 : K.lookup f14 = some ⟨oc14, od14, .func (PySem.W.fnOf "_law_power" "_law_power" (defArgs s__law_power) (defBody s__law_power) (defScope s__law_power) .none kV14 dc14 pm14 an14 cd14 ct14), sl14⟩) (c14 : PySem.W.codeIn K cd14 "_law_power" = true) (k14 : PySem.W.keepIn K (.ref f14) = true)
    (a15 : PySem.W.nsIn K mainGlobals "_law_error" = some (some (.ref f15))) (l15 : K.lookup f15 = some ⟨oc15, od15, .func (PySem.W.fnOf "_law_error" "_law_error" (defArgs s__law_error) (defBody s__law_error) (defScope s__law_error) .none kV15 dc15 pm15 an15 cd15 ct15), sl15⟩) (c15 : PySem.W.codeIn K cd15 "_law_error" = true) (k15 : PySem.W.keepIn K (.ref f15) = true)
    (a16 : PySem.W.nsIn K mainGlobals "law" = some (some (.ref f16))) (l16 : K.lookup f16 = some ⟨oc16, od16, .func (PySem.W.fnOf "law" "law" (defArgs s_law) (defBody s_law) (defScope s_law) .none kV16 dc16 pm16 an16 cd16 ct16), sl16⟩) (c16 : PySem.W.codeIn K cd16 "law" = true) (k16 : PySem.W.keepIn K (.ref f16) = true)
    (z0 : PySem.W.nsIn K mainGlobals "all" = some none)
    (z1 : PySem.W.nsIn K mainGlobals "int" = some none)
    (z2 : PySem.W.nsIn K mainGlobals "isinstance" = some none)
    (z3 : PySem.W.nsIn K mainGlobals "len" = some none)
    (z4 : PySem.W.nsIn K mainGlobals "list" = some none)
    (z5 : PySem.W.nsIn K mainGlobals "range" = some none)
    (z6 : PySem.W.nsIn K mainGlobals "repr" = some none)
    (w0 : PySem.W.nsIn K mainGlobals "BASE" = some (some (.int 26 tk0)))
    (w1 : PySem.W.nsIn K mainGlobals "LETTERS" = some (some (.str "abcdefghijklmnopqrstuvwxyz" tk1))) :
    ∃ fd : FuncData, (∀ (s : Shared) (v : Value), BindsTo s fd ⟨[v], []⟩ [("script", v)]) ∧ ∀ base : Heap, K.In base → base.Ns mainGlobals mg → FnG P w K mg base CX0 5 fa fd ["script"] (spD K F_law) := by
  have e := hfa.symm.trans (PySem.W.mg_of X G a16)
  cases e
  have bse : PySem.OwnErr.Bse P K Db fI := ⟨⟨_, _, _, _, _, _, _, _, _, _, _, _, _, _, _, _, _, _, _, _, _, _, _, qW, lB, cB, dB, vB, fB, eB, hev_W _ _⟩, ⟨_, gB⟩, tB, yB, zB⟩
  have e0 : Err P K mg "InvalidNumber" C0 := ⟨⟨Db, fI, bse, ⟨⟨⟨_, _, _, _, _, _, _, _, _, _, _, _, _, _, _, x0l, rfl⟩, x0s, x0e, x0t, x0k⟩, ⟨x0g, x0h, x0e, x0d⟩, x0v, x0i, x0b, x0u, x0w⟩⟩, PySem.W.mg_of X G x0a, PySem.W.mg_none_of X G uB⟩
  have e1 : Err P K mg "InvalidWord" C1 := ⟨⟨Db, fI, bse, ⟨⟨⟨_, _, _, _, _, _, _, _, _, _, _, _, _, _, _, x1l, rfl⟩, x1s, x1e, x1t, x1k⟩, ⟨x1g, x1h, x1e, x1d⟩, x1v, x1i, x1b, x1u, x1w⟩⟩, PySem.W.mg_of X G x1a, PySem.W.mg_none_of X G uB⟩
  have e2 : Err P K mg "WindowError" C2 := ⟨⟨Db, fI, bse, ⟨⟨⟨_, _, _, _, _, _, _, _, _, _, _, _, _, _, _, x2l, rfl⟩, x2s, x2e, x2t, x2k⟩, ⟨x2g, x2h, x2e, x2d⟩, x2v, x2i, x2b, x2u, x2w⟩⟩, PySem.W.mg_of X G x2a, PySem.W.mg_none_of X G uB⟩
  have EF : ErrF K := { i_InvalidNumber_InvalidNumber := is_of x0a x0a x0d x0t y0_0 (fun _ => rfl), s_InvalidNumber_InvalidNumber := sub_is x0a x0a x0e x0d x0t y0_0, i_InvalidNumber_InvalidWord := is_of x0a x1a x1d x1t y0_1 (fun z => by have q := y0_1; rw [← z, y0_0] at q; cases q), s_InvalidNumber_InvalidWord := sub_is x0a x1a x1e x1d x1t y0_1, i_InvalidNumber_WindowError := is_of x0a x2a x2d x2t y0_2 (fun _ => rfl), s_InvalidNumber_WindowError := sub_is x0a x2a x2e x2d x2t y0_2, x_InvalidNumber := fun C' hC => by rw [cla_eq x0a hC]; exact ⟨x0g, x0h, x0e, x0d, x0m, jB, kB, x0o⟩, v_InvalidNumber := fun C' hC => by rw [cla_eq x0a hC]; exact ⟨⟨x0g, x0h, x0e, x0d⟩, x0v⟩, i_InvalidWord_InvalidNumber := is_of x1a x0a x0d x0t y1_0 (fun z => by have q := y1_0; rw [← z, y1_1] at q; cases q), s_InvalidWord_InvalidNumber := sub_is x1a x0a x0e x0d x0t y1_0, i_InvalidWord_InvalidWord := is_of x1a x1a x1d x1t y1_1 (fun _ => rfl), s_InvalidWord_InvalidWord := sub_is x1a x1a x1e x1d x1t y1_1, i_InvalidWord_WindowError := is_of x1a x2a x2d x2t y1_2 (fun _ => rfl), s_InvalidWord_WindowError := sub_is x1a x2a x2e x2d x2t y1_2, x_InvalidWord := fun C' hC => by rw [cla_eq x1a hC]; exact ⟨x1g, x1h, x1e, x1d, x1m, jB, kB, x1o⟩, v_InvalidWord := fun C' hC => by rw [cla_eq x1a hC]; exact ⟨⟨x1g, x1h, x1e, x1d⟩, x1v⟩ }
  let T : Txt P K mg := ⟨_, _, fun_mk (st := s_is_word) l0 c0 k0, PySem.W.mg_of X G a0, _, _, fun_mk (st := s_all_strings) l1 c1 k1, PySem.W.mg_of X G a1, _, _, fun_mk (st := s_value_of) l2 c2 k2, PySem.W.mg_of X G a2, _, _, fun_mk (st := s_string_of) l3 c3 k3, PySem.W.mg_of X G a3, _, _, fun_mk (st := s_first_above) l4 c4 k4, PySem.W.mg_of X G a4, _, _, fun_mk (st := s_first_between) l5 c5 k5, PySem.W.mg_of X G a5, _, _, fun_mk (st := s_spread_words) l6 c6 k6, PySem.W.mg_of X G a6, _, _, fun_mk (st := s_need_word) l7 c7 k7, PySem.W.mg_of X G a7, _, _, fun_mk (st := s_word_between) l8 c8 k8, PySem.W.mg_of X G a8, _, _, fun_mk (st := s_spread) l9 c9 k9, PySem.W.mg_of X G a9, _, _, fun_mk (st := s__law_pool) l10 c10 k10, PySem.W.mg_of X G a10, _, _, fun_mk (st := s__law_take) l11 c11 k11, PySem.W.mg_of X G a11, _, _, fun_mk (st := s__law_same) l12 c12 k12, PySem.W.mg_of X G a12, _, _, fun_mk (st := s__law_word_of) l13 c13 k13, PySem.W.mg_of X G a13, _, _, fun_mk (st := s__law_power) l14 c14 k14, PySem.W.mg_of X G a14, _, _, fun_mk (st := s__law_error) l15 c15 k15, PySem.W.mg_of X G a15, _, _, fun_mk (st := s_law) l16 c16 k16, PySem.W.mg_of X G a16, PySem.W.mg_none_of X G z0, PySem.W.mg_none_of X G z1, PySem.W.mg_none_of X G z2, PySem.W.mg_none_of X G z3, PySem.W.mg_none_of X G z4, PySem.W.mg_none_of X G z5, PySem.W.mg_none_of X G z6, ⟨_, x0a, e0⟩, ⟨_, x1a, e1⟩, ⟨_, x2a, e2⟩, ⟨_, PySem.W.mg_of X G w0, _, rfl⟩, ⟨_, PySem.W.mg_of X G w1, _, rfl⟩, EF⟩
  exact ⟨PySem.W.fnOf "law" "law" (defArgs s_law) (defBody s_law) (defScope s_law) .none kV16 dc16 pm16 an16 cd16 ct16, fun s v => .of_eq rfl, fun base _ _ => g_law T⟩
end Lw

open PySem PySem.W PyProof.Rows
set_option maxHeartbeats 0 in
set_option maxRecDepth 100000 in
theorem PySem.Challenge.cw_listworks_k78_words_that_are_spread_holds : PySem.Challenge.rw_listworks_k78_words_that_are_spread.Holds := by
  w_on; o_law; k_head; (case hw => w_witness2)
  k_fill
  refine Pd.walk_ofG (l := PySem.Challenge.rw_listworks_k78_words_that_are_spread) (n := 63) (k := 5) (x := "script") (CX := fun _ => L2.CX0) (sp := fun w => Pd.spD _ Lw.F_law) rfl (by decide) rfl ⟨rfl, by decide, by decide⟩ (fun w h Y => PySem.W.kIn_of Y) ?F (fun _ _ a ns hl _ hS => Lw.law_start hl hS) (fun _ _ _ _ _ h => h)
  case F =>
    intro w mg fa h KX G hmg
    refine' Lw.all_mk KX G hmg ?aB ?iB ?lB ?cB ?dB ?vB ?fB ?eB ?gB ?tB ?yB ?zB ?jB ?kB ?uB ?x0a ?x0l ?x0s ?x0g ?x0h ?x0v ?x0i ?x0e ?x0t ?x0k ?x0d ?x0b ?x0u ?x0w ?x0m ?x0o ?x1a ?x1l ?x1s ?x1g ?x1h ?x1v ?x1i ?x1e ?x1t ?x1k ?x1d ?x1b ?x1u ?x1w ?x1m ?x1o ?x2a ?x2l ?x2s ?x2g ?x2h ?x2v ?x2i ?x2e ?x2t ?x2k ?x2d ?x2b ?x2u ?x2w ?x2m ?x2o ?y0_0 ?y0_1 ?y0_2 ?y1_0 ?y1_1 ?y1_2 ?a0 ?l0 ?c0 ?k0 ?a1 ?l1 ?c1 ?k1 ?a2 ?l2 ?c2 ?k2 ?a3 ?l3 ?c3 ?k3 ?a4 ?l4 ?c4 ?k4 ?a5 ?l5 ?c5 ?k5 ?a6 ?l6 ?c6 ?k6 ?a7 ?l7 ?c7 ?k7 ?a8 ?l8 ?c8 ?k8 ?a9 ?l9 ?c9 ?k9 ?a10 ?l10 ?c10 ?k10 ?a11 ?l11 ?c11 ?k11 ?a12 ?l12 ?c12 ?k12 ?a13 ?l13 ?c13 ?k13 ?a14 ?l14 ?c14 ?k14 ?a15 ?l15 ?c15 ?k15 ?a16 ?l16 ?c16 ?k16 ?z0 ?z1 ?z2 ?z3 ?z4 ?z5 ?z6 ?w0 ?w1
    (case aB => k_is); (case iB => k_is); (case lB => k_is); (case cB => k_is); (case dB => k_is); (case vB => rfl); (case fB => first | rfl | decide +kernel); (case eB => k_is); (case gB => k_is); (case tB => first | rfl | decide +kernel); (case yB => k_is); (case zB => k_is); (case jB => k_is); (case kB => k_is); (case uB => k_is); (case x0a => k_is); (case x0l => k_is); (case x0s => k_is); (case x0g => k_is); (case x0h => k_is); (case x0v => k_is); (case x0i => k_is); (case x0e => k_is); (case x0t => k_is); (case x0k => k_is); (case x0d => k_is); (case x0b => k_is); (case x0u => ks_is); (case x0w => k_is); (case x0m => k_is); (case x0o => k_is); (case x1a => k_is); (case x1l => k_is); (case x1s => k_is); (case x1g => k_is); (case x1h => k_is); (case x1v => k_is); (case x1i => k_is); (case x1e => k_is); (case x1t => k_is); (case x1k => k_is); (case x1d => k_is); (case x1b => k_is); (case x1u => ks_is); (case x1w => k_is); (case x1m => k_is); (case x1o => k_is); (case x2a => k_is); (case x2l => k_is); (case x2s => k_is); (case x2g => k_is); (case x2h => k_is); (case x2v => k_is); (case x2i => k_is); (case x2e => k_is); (case x2t => k_is); (case x2k => k_is); (case x2d => k_is); (case x2b => k_is); (case x2u => ks_is); (case x2w => k_is); (case x2m => k_is); (case x2o => k_is); (case y0_0 => k_is); (case y0_1 => k_is); (case y0_2 => k_is); (case y1_0 => k_is); (case y1_1 => k_is); (case y1_2 => k_is); (case a0 => k_is); (case l0 => k_is); (case c0 => k_is); (case k0 => k_is); (case a1 => k_is); (case l1 => k_is); (case c1 => k_is); (case k1 => k_is); (case a2 => k_is); (case l2 => k_is); (case c2 => k_is); (case k2 => k_is); (case a3 => k_is); (case l3 => k_is); (case c3 => k_is); (case k3 => k_is); (case a4 => k_is); (case l4 => k_is); (case c4 => k_is); (case k4 => k_is); (case a5 => k_is); (case l5 => k_is); (case c5 => k_is); (case k5 => k_is); (case a6 => k_is); (case l6 => k_is); (case c6 => k_is); (case k6 => k_is); (case a7 => k_is); (case l7 => k_is); (case c7 => k_is); (case k7 => k_is); (case a8 => k_is); (case l8 => k_is); (case c8 => k_is); (case k8 => k_is); (case a9 => k_is); (case l9 => k_is); (case c9 => k_is); (case k9 => k_is); (case a10 => k_is); (case l10 => k_is); (case c10 => k_is); (case k10 => k_is); (case a11 => k_is); (case l11 => k_is); (case c11 => k_is); (case k11 => k_is); (case a12 => k_is); (case l12 => k_is); (case c12 => k_is); (case k12 => k_is); (case a13 => k_is); (case l13 => k_is); (case c13 => k_is); (case k13 => k_is); (case a14 => k_is); (case l14 => k_is); (case c14 => k_is); (case k14 => k_is); (case a15 => k_is); (case l15 => k_is); (case c15 => k_is); (case k15 => k_is); (case a16 => k_is); (case l16 => k_is); (case c16 => k_is); (case k16 => k_is); (case z0 => k_is); (case z1 => k_is); (case z2 => k_is); (case z3 => k_is); (case z4 => k_is); (case z5 => k_is); (case z6 => k_is); (case w0 => k_is); (case w1 => k_is)

