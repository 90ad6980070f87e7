import PyProof.Rows.All
import Wide.All
import OpenK.AllK
import Wide.FinOn
import HandS.ForMost
import HandS.Flow
import HandS.Style
import HandS.Wide
import HandS.Evl
import HandS.Defaults
import HandS.Exc
import HandS.Lambda
import HandS.EndTab
import HandS.WideBits
import HandS.IsInst
import HandS.TupAny
import HandS.ExcIs
import HandS.ExcInit
import HandS.ExcField
import HandS.TryMany
import HandS.WordsExc
import KE.KExcSuper
import KE.KSuper
import PyProof.ReprRoads
import PyProof.ReprLen
import PyProof.FitsInt
import KE.KRevSl
import HandS.Text
import HandS.StrMore
import HandS.Replace
import PyProof.StrOps2
import HandS.Dict
import HandS.Iter
import HandS.DictComp
import HandS.SortInts
import HandS.SetFor
import HandS.Strs
import HandS.SortRule
import HandS.TupSets
import HandS.ListItems
import HandS.TupMul
import HandS.Deep
import HandS.Nested
import KE.SortKeyHeap
import HandS.Conv
import HandS.NestedK
import HandS.Zip
import HandS.Star
import PySem.Challenge.RW_listworks_k03_forms_of_clicks_done
set_option Elab.async false
set_option linter.all false
set_option maxRecDepth 100000
set_option maxHeartbeats 8000000
/-! Pd0: the defs of this law that make lambdas, and the lambdas' names. -/
namespace Pd
/-- the defs whose lambdas are made, and their lambdas' names -/
def lamNames : List (PySem.Str × PySem.Str) := []
end Pd

/-! Pd: own layer. Values as plain data, lists that change as numbered cells; readings as wishes over (slots, cells), no heap in sight. -/
namespace Pd
open PySem L2
open Evl (Ex)

/-- a value: plain data; the k-th cell; a tuple that holds such -/
inductive W where
  | d (x : PyData)
  | m (k : Nat)
  | t (ws : List W)
  | f (ws : List W)
  | k (v : V)
/-- what a cell holds -/
inductive C where
  | lst (ws : List W)
  | xd (d : Addr) (w : W)
  /-- an error that the text calls x, its dict at d -/
  | er (x : PySem.Str) (d : Addr)
  /-- a dict: its keys and values in order -/
  | dk (kvs : List (L2.Key × W))
  /-- a dict that is locked while it is walked -/
  | fk (od : Obj) (us : List (L2.Key × V)) (kvs : List (L2.Key × W))
abbrev G := List (Option W)
abbrev Mu := List (Option C)

variable {K : PySem.W.Frag}
/-! plain data at an address: lists are tracked ones -/
mutual
inductive DQ (K : PySem.W.Frag) (H : Hp) : V → PyData → Prop
  | non : DQ K H .non .none
  | bl (b : Bool) : DQ K H (.bl b) (.bool b)
  | int (i : Int) : DQ K H (.int i) (.int i)
  | str (x : PySem.Str) : DQ K H (.str x) (.str x)
  | lst {a : Addr} {xs : List V} {ds : List PyData} : H a = some (.lst xs) → DQs K H xs ds → DQ K H (.ref a) (.list ds)
  | tup {a : Addr} {xs : List V} {ds : List PyData} : SqT K H a xs → DQs K H xs ds → DQ K H (.ref a) (.tuple ds)
inductive DQs (K : PySem.W.Frag) (H : Hp) : List V → List PyData → Prop
  | nil : DQs K H [] []
  | cons {v : V} {vs : List V} {d : PyData} {ds : List PyData} : DQ K H v d → DQs K H vs ds → DQs K H (v :: vs) (d :: ds)
end
mutual
theorem DQ.dp {H : Hp} : ∀ {v : V} {d : PyData}, DQ K H v d → Dp K H v d
  | _, _, .non => .non
  | _, _, .bl b => .bl b
  | _, _, .int i => .int i
  | _, _, .str x => .str x
  | _, _, .lst h1 h2 => .lst (SqL.of h1) (DQs.dp h2)
  | _, _, .tup h1 h2 => .tup h1 (DQs.dp h2)
theorem DQs.dp {H : Hp} : ∀ {vs : List V} {ds : List PyData}, DQs K H vs ds → DpAll K H vs ds
  | _, _, .nil => .nil
  | _, _, .cons h1 h2 => .cons (DQ.dp h1) (DQs.dp h2)
end
mutual
inductive VR (K : PySem.W.Frag) (H : Hp) (M : List Addr) : V → W → Prop
  | d {v : V} {x : PyData} : DQ K H v x → VR K H M v (.d x)
  | m {k : Nat} {a : Addr} : M[k]? = some a → VR K H M (.ref a) (.m k)
  | t {a : Addr} {vs : List V} {ws : List W} : SqT K H a vs → VRs K H M vs ws → VR K H M (.ref a) (.t ws)
  | f {a : Addr} {vs : List V} {ws : List W} : SqL K H a vs → VRs K H M vs ws → VR K H M (.ref a) (.f ws)
  | k (v : V) : VR K H M v (.k v)
inductive VRs (K : PySem.W.Frag) (H : Hp) (M : List Addr) : List V → List W → Prop
  | nil : VRs K H M [] []
  | cons {v : V} {w : W} {vs : List V} {ws : List W} : VR K H M v w → VRs K H M vs ws → VRs K H M (v :: vs) (w :: ws)
end
mutual
theorem dp_mono {H H' : Hp} (e : Ex H H') : ∀ {v : V} {d : PyData}, DQ K H v d → DQ K H' v d
  | _, _, .non => .non
  | _, _, .bl b => .bl b
  | _, _, .int i => .int i
  | _, _, .str x => .str x
  | _, _, .lst h1 h2 => .lst (e _ _ h1) (dpa_mono e h2)
  | _, _, .tup h1 h2 => .tup (Evl.ex_t e h1) (dpa_mono e h2)
theorem dpa_mono {H H' : Hp} (e : Ex H H') : ∀ {vs : List V} {ds : List PyData}, DQs K H vs ds → DQs K H' vs ds
  | _, _, .nil => .nil
  | _, _, .cons h1 h2 => .cons (dp_mono e h1) (dpa_mono e h2)
end
def Pre (M M' : List Addr) : Prop := ∀ (k : Nat) a, M[k]? = some a → M'[k]? = some a
theorem Pre.refl (M : List Addr) : Pre M M := fun _ _ h => h
theorem Pre.trans {M M' M'' : List Addr} (a : Pre M M') (b : Pre M' M'') : Pre M M'' := fun k x h => b k x (a k x h)
mutual
theorem VR.mono {H H' : Hp} {M M' : List Addr} (e : Ex H H') (p : Pre M M') : ∀ {v : V} {w : W}, VR K H M v w → VR K H' M' v w
  | _, _, .d h => .d (dp_mono e h)
  | _, _, .m h => .m (p _ _ h)
  | _, _, .t h1 h2 => .t (Evl.ex_t e h1) (VRs.mono e p h2)
  | _, _, .f h1 h2 => .f (Evl.ex_l e h1) (VRs.mono e p h2)
  | _, _, .k v => .k v
theorem VRs.mono {H H' : Hp} {M M' : List Addr} (e : Ex H H') (p : Pre M M') : ∀ {vs : List V} {ws : List W}, VRs K H M vs ws → VRs K H' M' vs ws
  | _, _, .nil => .nil
  | _, _, .cons h1 h2 => .cons (VR.mono e p h1) (VRs.mono e p h2)
end
section lists
variable {H : Hp} {M : List Addr}
theorem VRs.length : ∀ {vs : List V} {ws : List W}, VRs K H M vs ws → vs.length = ws.length
  | _, _, .nil => rfl
  | _, _, .cons _ t => congrArg (· + 1) (VRs.length t)
theorem VRs.append : ∀ {vs us : List V} {ws zs : List W}, VRs K H M vs ws → VRs K H M us zs → VRs K H M (vs ++ us) (ws ++ zs)
  | _, _, _, _, .nil, s => s
  | _, _, _, _, .cons r t, s => .cons r (VRs.append t s)
theorem VRs.snoc {vs : List V} {ws : List W} {v : V} {w : W} (h : VRs K H M vs ws) (h2 : VR K H M v w) : VRs K H M (vs ++ [v]) (ws ++ [w]) := h.append (.cons h2 .nil)
theorem VRs.take : ∀ {vs : List V} {ws : List W} (n : Nat), VRs K H M vs ws → VRs K H M (vs.take n) (ws.take n)
  | _, _, 0, _ => by simpa using VRs.nil
  | _, _, _ + 1, .nil => .nil
  | _, _, n + 1, .cons r t => .cons r (VRs.take n t)
theorem VRs.drop : ∀ {vs : List V} {ws : List W} (n : Nat), VRs K H M vs ws → VRs K H M (vs.drop n) (ws.drop n)
  | _, _, 0, r => by simpa using r
  | _, _, _ + 1, .nil => .nil
  | _, _, n + 1, .cons _ t => VRs.drop n t
theorem VRs.dropLast {vs : List V} {ws : List W} (h : VRs K H M vs ws) : VRs K H M vs.dropLast ws.dropLast := by
  rw [List.dropLast_eq_take, List.dropLast_eq_take, h.length]
  exact h.take _
theorem VRs.get : ∀ {vs : List V} {ws : List W} {i : Nat} {v : V}, VRs K H M vs ws → vs[i]? = some v → ∃ w, ws[i]? = some w ∧ VR K H M v w
  | _, _, _, _, .nil, e => by simp at e
  | _, _, 0, _, .cons r _, e => by
    simp at e
    subst e
    exact ⟨_, rfl, r⟩
  | _, _, i + 1, v, .cons _ t, e => by
    obtain ⟨u, h1, h2⟩ := VRs.get (i := i) (v := v) t (by simpa using e)
    exact ⟨u, by simpa using h1, h2⟩
theorem VRs.getW : ∀ {vs : List V} {ws : List W} {i : Nat} {w : W}, VRs K H M vs ws → ws[i]? = some w → ∃ v, vs[i]? = some v ∧ VR K H M v w
  | _, _, _, _, .nil, e => by simp at e
  | _, _, 0, _, .cons r _, e => by
    simp at e
    subst e
    exact ⟨_, rfl, r⟩
  | _, _, i + 1, v, .cons _ t, e => by
    obtain ⟨u, h1, h2⟩ := VRs.getW (i := i) (w := v) t (by simpa using e)
    exact ⟨u, by simpa using h1, h2⟩
theorem VRs.set {v : V} {w : W} (r : VR K H M v w) : ∀ {vs : List V} {ws : List W} (i : Nat), VRs K H M vs ws → VRs K H M (vs.set i v) (ws.set i w)
  | _, _, _, .nil => .nil
  | _, _, 0, .cons _ t => .cons r t
  | _, _, i + 1, .cons q t => .cons q (VRs.set r i t)
theorem VRs.eraseIdx : ∀ {vs : List V} {ws : List W} (i : Nat), VRs K H M vs ws → VRs K H M (vs.eraseIdx i) (ws.eraseIdx i)
  | _, _, _, .nil => .nil
  | _, _, 0, .cons _ t => t
  | _, _, i + 1, .cons q t => .cons q (VRs.eraseIdx i t)
theorem VRs.reverse : ∀ {vs : List V} {ws : List W}, VRs K H M vs ws → VRs K H M vs.reverse ws.reverse
  | _, _, .nil => .nil
  | _, _, .cons r t => by
    rw [List.reverse_cons, List.reverse_cons]
    exact (VRs.reverse t).snoc r
theorem VRs.of_dp : ∀ {vs : List V} {ds : List PyData}, DQs K H vs ds → VRs K H M vs (ds.map W.d)
  | _, _, .nil => .nil
  | _, _, .cons h t => .cons (.d h) (VRs.of_dp t)
theorem VRs.dp : ∀ {vs : List V} {ds : List PyData}, VRs K H M vs (ds.map W.d) → DQs K H vs ds
  | _, [], h => by cases h; exact .nil
  | _, _ :: _, h => by
    cases h with
    | cons h t =>
      cases h with
      | d h => exact .cons h (VRs.dp t)
end lists

/-! ### tables of code objects: of the defs that make lambdas -/
def TbN (K : PySem.W.Frag) (P : Addr) (q : PySem.Str) : Prop := ∃ x ∈ lamNames, q = x.2 ∧ ∃ (f : Addr) (o : Obj) (fd : FuncData) (c : Addr), PySem.W.nsIn K PySem.mainGlobals x.1 = some (some (.ref f)) ∧ K.lookup f = some o ∧ o.data = .func fd ∧ fd.code = .ref c ∧ PySem.W.codeHdIn K c P = true
def TabK (K : PySem.W.Frag) (H : Hp) : Prop := ∀ P q, TbN K P q → LamX.TabS H P q
/-- neither a table nor a code object -/
def NoTb (o : HO) : Prop := (∀ ps, o ≠ .tbl ps) ∧ ∀ c q, o ≠ LamX.CodeO c q
theorem noTb_lst {xs : List V} : NoTb (.lst xs) := ⟨fun _ z => (by cases z), fun _ _ z => (by unfold LamX.CodeO at z; cases z)⟩
theorem noTb_dK {xs : List (L2.Key × V)} : NoTb (.dK xs) := ⟨fun _ z => (by cases z), fun _ _ z => (by unfold LamX.CodeO at z; cases z)⟩
theorem tabS_upd {H : Hp} {P p : Addr} {q : PySem.Str} {o o' : HO} (t : LamX.TabS H P q) (hp : H p = some o) (n : NoTb o) : LamX.TabS (upd H p o') P q := by
  obtain ⟨ps, e1, e2, e3⟩ := t
  refine ⟨ps, ?_, e2, fun pos cv hc => ?_⟩
  · rw [upd_ne fun z => ?_]
    · exact e1
    · subst z
      rw [e1] at hp
      exact n.1 ps (Option.some.inj hp).symm
  · obtain ⟨c, z1, z2⟩ := e3 pos cv hc
    refine ⟨c, z1, ?_⟩
    rw [upd_ne fun z => ?_]
    · exact z2
    · subst z
      rw [z2] at hp
      exact n.2 _ _ (Option.some.inj hp).symm
theorem TabK.upd {K : PySem.W.Frag} {H : Hp} {p : Addr} {o o' : HO} (t : TabK K H) (hp : H p = some o) (n : NoTb o) : TabK K (upd H p o') := fun P q h => tabS_upd (t P q h) hp n
theorem TabK.ex {K : PySem.W.Frag} {H H' : Hp} (t : TabK K H) (e : Ex H H') : TabK K H' := fun P q h => (t P q h).ext e
/-! ### what is hidden, the view -/
def noT : Option HO → Option HO
  | some (.tbl _) => none
  | o => o
theorem noT_some {x : Option HO} {o : HO} (h : noT x = some o) : x = some o ∧ ∀ ps, o ≠ .tbl ps := by
  cases x with
  | none => cases h
  | some u => cases u <;> first | (cases h; done) | (cases h; exact ⟨rfl, fun ps z => by cases z⟩)
theorem noT_of {o : HO} (n : ∀ ps, o ≠ .tbl ps) : noT (some o) = some o := by
  cases o <;> first | rfl | exact absurd rfl (n _)
def hid (A : Addr → Prop) (M : List Addr) (μ : Mu) (a : Addr) : Prop := A a ∨ ∃ (k : Nat) (c : C), M[k]? = some a ∧ μ[k]? = some (some c)
open Classical in
noncomputable def vw (A : Addr → Prop) (M : List Addr) (μ : Mu) (H : Hp) : Hp := fun a => if hid A M μ a then none else noT (H a)
section view
variable {A : Addr → Prop} {M M' : List Addr} {μ μ' : Mu} {H H' : Hp} {a : Addr} {o : HO}
theorem vw_nt (h : vw A M μ H a = some o) : ∀ ps, o ≠ .tbl ps := by
  unfold vw at h
  split at h
  · cases h
  · exact (noT_some h).2
theorem vw_some (h : vw A M μ H a = some o) : ¬ hid A M μ a ∧ H a = some o := by
  unfold vw at h
  split at h
  · cases h
  · exact ⟨‹_›, (noT_some h).1⟩
theorem vw_of (h : ¬ hid A M μ a) (e : H a = some o) (n : ∀ ps, o ≠ .tbl ps := by intro _ z; cases z) : vw A M μ H a = some o := by
  unfold vw
  rw [if_neg h, e, noT_of n]
theorem vw_le : Ex (vw A M μ H) H := fun _ _ h => (vw_some h).2
theorem vw_ex (e : Ex H H') : Ex (vw A M μ H) (vw A M μ H') := fun a o h => vw_of (vw_some h).1 (e a o (vw_some h).2) (vw_nt h)
/-- an error's object at p -/
def exk (p C d : Addr) : HO := .ext fun h => ∃ oe vs, h.get? p = some oe ∧ oe.cls = .ref C ∧ oe.dict = some d ∧ oe.data = .fields vs
def KRs (K : PySem.W.Frag) (H : Hp) (M : List Addr) : List (L2.Key × V) → List (L2.Key × W) → Prop
  | [], [] => True
  | u :: us, w :: ws => u.1 = w.1 ∧ VR K H M u.2 w.2 ∧ KRs K H M us ws
  | _, _ => False
def CT (K : PySem.W.Frag) (H : Hp) (M : List Addr) (p : Addr) (o : HO) : C → Prop
  | .lst ws => ∃ vs, o = .lst vs ∧ VRs K H M vs ws
  | .xd d w => p = d ∧ ∃ v, o = .xd [(("value" : PySem.Str), v)] ∧ VR K H M v w
  | .er x d => ∃ C, PySem.W.nsIn K PySem.mainGlobals x = some (some (.ref C)) ∧ o = exk p C d
  | .dk kvs => ∃ us, o = .dK us ∧ KRs K H M us kvs
  | .fk od us kvs => o = .frz od (.dK us) ∧ KRs K H M us kvs
theorem codeO_ne_exk {c p C d : Addr} {q : PySem.Str} : exk p C d ≠ LamX.CodeO c q := fun z => by
  unfold exk LamX.CodeO at z
  have z := HO.ext.inj z
  let o : Obj := { cls := .none, data := .fields #[.none, .str q 0] }
  let h : Heap := { objs := Array.replicate (c + 1) o }
  have g : h.get? c = some o := by
    show (match h.objs[c]? with
      | some ⟨_, _, .freed, _⟩ => none
      | x => x) = some o
    rw [show h.objs[c]? = some o by simp [h]]
  have hz := congrFun z h
  have : (∃ (oc : Obj) (vs : Array Value) (t : Tok), h.get? c = some oc ∧ oc.data = .fields vs ∧ vs[1]? = some (.str q t)) := ⟨o, _, 0, g, rfl, rfl⟩
  rw [← hz] at this
  obtain ⟨oe, vs, h1, h2, h3, h4⟩ := this
  have : oe.dict = none := by
    have h1' : (match h.objs[p]? with
      | some ⟨_, _, .freed, _⟩ => none
      | x => x) = some oe := h1
    by_cases hp : p < c + 1
    · rw [show h.objs[p]? = some o by simp [h, hp]] at h1'
      cases h1'
      rfl
    · have hs : h.objs.size ≤ p := by
        rw [show h.objs.size = c + 1 from Array.size_replicate]
        exact Nat.not_lt.mp hp
      rw [Array.getElem?_eq_none hs] at h1'
      cases h1'
  rw [this] at h3
  cases h3
theorem CT.noTb {K : PySem.W.Frag} {H : Hp} {M : List Addr} {p : Addr} {o : HO} {c : C} (h : CT K H M p o c) : NoTb o := by
  cases c with
  | lst ws =>
    obtain ⟨vs, rfl, _⟩ := h
    exact ⟨fun _ z => (by cases z), fun _ _ z => (by cases z)⟩
  | xd d w =>
    obtain ⟨_, v, rfl, _⟩ := h
    exact ⟨fun _ z => (by cases z), fun _ _ z => (by cases z)⟩
  | er x d =>
    obtain ⟨C, _, rfl⟩ := h
    exact ⟨fun _ z => (by cases z), fun _ _ => codeO_ne_exk⟩
  | dk kvs =>
    obtain ⟨us, rfl, _⟩ := h
    exact ⟨fun _ z => (by cases z), fun _ _ z => (by cases z)⟩
  | fk od us kvs =>
    obtain ⟨rfl, _⟩ := h
    exact ⟨fun _ z => (by cases z), fun _ _ z => (by cases z)⟩
structure MOk (K : PySem.W.Frag) (A : Addr → Prop) (M : List Addr) (H : Hp) (μ : Mu) : Prop where
  len : M.length = μ.length
  nd : M.Nodup
  nA : ∀ a ∈ M, ¬ A a
  al : ∀ a ∈ M, H a ≠ none
  aA : ∀ a, A a → H a ≠ none
  tb : TabK K H
  aT : ∀ a o, (A a ∨ a ∈ M) → H a = some o → NoTb o
  ct : ∀ (k : Nat) a c, M[k]? = some a → μ[k]? = some (some c) → ∃ o, H a = some o ∧ CT K (vw A M μ H) M a o c
def GR (K : PySem.W.Frag) (H : Hp) (M : List Addr) (σ : L2.St) (Γ : G) : Prop := σ.length = Γ.length ∧ ∀ (i : Nat) w, Γ[i]? = some (some w) → ∃ v, σ[i]? = some (some v) ∧ VR K H M v w
structure Cn (K : PySem.W.Frag) (A : Addr → Prop) (M : List Addr) (σ : L2.St) (H : Hp) (Γ : G) (μ : Mu) : Prop where
  mo : MOk K A M H μ
  gr : GR K (vw A M μ H) M σ Γ
structure Eff (A : Addr → Prop) (M : List Addr) (μ : Mu) (H : Hp) (M' : List Addr) (μ' : Mu) (H' : Hp) : Prop where
  pre : Pre M M'
  own : ∀ a o, A a → H a = some o → H' a = some o
  ex : Ex (vw A M μ H) (vw A M' μ' H')
theorem Eff.refl : Eff A M μ H M μ H := ⟨Pre.refl _, fun _ _ _ h => h, Ex.refl _⟩
theorem Eff.trans {M'' : List Addr} {μ'' : Mu} {H'' : Hp} (a : Eff A M μ H M' μ' H') (b : Eff A M' μ' H' M'' μ'' H'') : Eff A M μ H M'' μ'' H'' :=
  ⟨a.pre.trans b.pre, fun x o h e => b.own x o h (a.own x o h e), a.ex.trans b.ex⟩
theorem Eff.of_ex (e : Ex H H') : Eff A M μ H M μ H' := ⟨Pre.refl _, fun a o _ h => e a o h, vw_ex e⟩
theorem KRs.mono {H H' : Hp} {M M' : List Addr} (e : Ex H H') (p : Pre M M') : ∀ {us : List (L2.Key × V)} {kvs : List (L2.Key × W)}, KRs K H M us kvs → KRs K H' M' us kvs
  | [], [], _ => trivial
  | _ :: _, _ :: _, h => ⟨h.1, h.2.1.mono e p, KRs.mono e p h.2.2⟩
  | [], _ :: _, h => h.elim
  | _ :: _, [], h => h.elim
theorem CT.mono {c : C} {x : Addr} (e : Ex H H') (p : Pre M M') (h : CT K H M x o c) : CT K H' M' x o c := by
  cases c with
  | lst ws =>
    obtain ⟨vs, h1, h2⟩ := h
    exact ⟨vs, h1, h2.mono e p⟩
  | xd d w =>
    obtain ⟨h0, v, h1, h2⟩ := h
    exact ⟨h0, v, h1, h2.mono e p⟩
  | er x d => exact h
  | dk kvs =>
    obtain ⟨us, h1, h2⟩ := h
    exact ⟨us, h1, h2.mono e p⟩
  | fk od us kvs => exact ⟨h.1, h.2.mono e p⟩
theorem MOk.ex (h : MOk K A M H μ) (e : Ex H H') : MOk K A M H' μ := by
  have nn : ∀ a, H a ≠ none → H' a ≠ none := fun a hn => by
    cases q : H a with
    | none => exact absurd q hn
    | some o => rw [e a o q]; intro z; cases z
  exact ⟨h.len, h.nd, h.nA, fun a m => nn a (h.al a m), fun a m => nn a (h.aA a m), h.tb.ex e, fun a o m z => by
    cases q : H a with
    | none => exact absurd q (m.elim (h.aA a) (h.al a))
    | some u =>
      rw [e a u q] at z
      cases z
      exact h.aT a o m q, fun k a c h1 h2 => by
    obtain ⟨o, q1, q2⟩ := h.ct k a c h1 h2
    exact ⟨o, e a o q1, q2.mono (vw_ex e) (Pre.refl _)⟩⟩
theorem GR.mono {σ : L2.St} {Γ : G} (h : GR K H M σ Γ) (e : Ex H H') (p : Pre M M') : GR K H' M' σ Γ :=
  ⟨h.1, fun i w hw => let ⟨v, h1, h2⟩ := h.2 i w hw; ⟨v, h1, h2.mono e p⟩⟩
theorem GR.set {σ : L2.St} {Γ : G} {i : Nat} {v : V} {w : W} (h : GR K H M σ Γ) (r : VR K H M v w) : GR K H M (σ.set i (some v)) (Γ.set i (some w)) := by
  refine ⟨by rw [List.length_set, List.length_set]; exact h.1, fun j u hu => ?_⟩
  by_cases hj : i = j
  · subst hj
    rw [List.getElem?_set] at hu
    rw [if_pos rfl] at hu
    split at hu
    · have : w = u := by simpa using hu
      subst this
      refine ⟨v, ?_, r⟩
      rw [List.getElem?_set, if_pos rfl, if_pos (by rw [h.1]; assumption)]
    · cases hu
  · rw [List.getElem?_set, if_neg hj] at hu
    obtain ⟨z, h1, h2⟩ := h.2 j u hu
    exact ⟨z, by rw [List.getElem?_set, if_neg hj]; exact h1, h2⟩
theorem GR.drop {σ : L2.St} {Γ : G} {i : Nat} (h : GR K H M σ Γ) : GR K H M (σ.set i none) (Γ.set i none) := by
  refine ⟨by rw [List.length_set, List.length_set]; exact h.1, fun j u hu => ?_⟩
  by_cases hj : i = j
  · subst hj
    rw [List.getElem?_set, if_pos rfl] at hu
    split at hu
    · cases hu
    · cases hu
  · rw [List.getElem?_set, if_neg hj] at hu
    obtain ⟨z, h1, h2⟩ := h.2 j u hu
    exact ⟨z, by rw [List.getElem?_set, if_neg hj]; exact h1, h2⟩
theorem Cn.ex {σ : L2.St} {Γ : G} (h : Cn K A M σ H Γ μ) (e : Ex H H') : Cn K A M σ H' Γ μ := ⟨h.mo.ex e, h.gr.mono (vw_ex e) (Pre.refl _)⟩
/-- the slots behind a change of the cells -/
theorem Cn.eff {σ : L2.St} {Γ : G} (h : Cn K A M σ H Γ μ) (e : Eff A M μ H M' μ' H') (mo : MOk K A M' H' μ') : Cn K A M' σ H' Γ μ' := ⟨mo, h.gr.mono e.ex e.pre⟩
theorem GR.wipe {σ : L2.St} {Γ : G} (h : GR K H M σ Γ) : ∀ vs : List Nat, GR K H M (wipe σ vs) (vs.foldr (fun v g => g.set v none) Γ)
  | [] => h
  | v :: vs => (h.wipe vs).drop
/-! ### changing a cell, adding one, taking one away -/
theorem MOk.ne_hid (h : MOk K A M H μ) {p : Addr} (hp : H p = none) : ¬ hid A M μ p := fun z => by
  rcases z with z | ⟨k, c, h1, _⟩
  · exact h.aA p z hp
  · exact h.al p (List.mem_of_getElem? h1) hp
theorem hid_set {k : Nat} {c c' : C} (hk : μ[k]? = some (some c)) : hid A M (μ.set k (some c')) a ↔ hid A M μ a := by
  constructor
  · rintro (z | ⟨j, d, h1, h2⟩)
    · exact .inl z
    · by_cases hj : k = j
      · subst hj
        exact .inr ⟨k, c, h1, hk⟩
      · rw [List.getElem?_set, if_neg hj] at h2
        exact .inr ⟨j, d, h1, h2⟩
  · rintro (z | ⟨j, d, h1, h2⟩)
    · exact .inl z
    · by_cases hj : k = j
      · subst hj
        refine .inr ⟨k, c', h1, ?_⟩
        rw [List.getElem?_set, if_pos rfl, if_pos ((List.getElem?_eq_some_iff.mp h2).1)]
      · exact .inr ⟨j, d, h1, by rw [List.getElem?_set, if_neg hj]; exact h2⟩
theorem vw_set {k : Nat} {c c' : C} {p : Addr} (hp : M[k]? = some p) (hk : μ[k]? = some (some c)) : vw A M (μ.set k (some c')) (upd H p o) = vw A M μ H := by
  funext b
  unfold vw
  by_cases hb : hid A M μ b
  · rw [if_pos hb, if_pos ((hid_set hk).mpr hb)]
  · rw [if_neg hb, if_neg fun z => hb ((hid_set hk).mp z)]
    refine congrArg noT (upd_ne fun z => hb ?_)
    subst z
    exact .inr ⟨k, c, hp, hk⟩
theorem MOk.write {k : Nat} {c c' : C} {p : Addr} (h : MOk K A M H μ) (hp : M[k]? = some p) (hk : μ[k]? = some (some c)) (hc : CT K (vw A M μ H) M p o c') : MOk K A M (upd H p o) (μ.set k (some c')) := by
  have ev := vw_set (A := A) (H := H) (o := o) (c' := c') hp hk
  have nn : ∀ a, H a ≠ none → upd H p o a ≠ none := fun a hn => by
    by_cases e : a = p
    · subst e; rw [upd_same]; intro z; cases z
    · rw [upd_ne e]; exact hn
  obtain ⟨o0, z1, z2⟩ := h.ct k p c hp hk
  refine ⟨by rw [List.length_set]; exact h.len, h.nd, h.nA, fun a m => nn a (h.al a m), fun a m => nn a (h.aA a m), h.tb.upd z1 z2.noTb, fun a u m z => ?_, fun j b d h1 h2 => ?_⟩
  · by_cases w : a = p
    · subst w
      rw [upd_same] at z
      cases z
      exact hc.noTb
    · rw [upd_ne w] at z
      exact h.aT a u m z
  rw [ev]
  by_cases hj : k = j
  · subst hj
    rw [hp] at h1
    cases h1
    rw [List.getElem?_set, if_pos rfl] at h2
    split at h2
    · have : c' = d := by simpa using h2
      subst this
      exact ⟨o, upd_same, hc⟩
    · cases h2
  · rw [List.getElem?_set, if_neg hj] at h2
    obtain ⟨u, q1, q2⟩ := h.ct j b d h1 h2
    refine ⟨u, ?_, q2⟩
    rw [upd_ne ?_]
    · exact q1
    · rintro rfl
      have l1 := (List.getElem?_eq_some_iff.mp h1)
      have l2 := (List.getElem?_eq_some_iff.mp hp)
      exact hj ((List.getElem_inj h.nd).mp (l2.2.trans l1.2.symm))
theorem Eff.write {k : Nat} {c c' : C} {p : Addr} (h : MOk K A M H μ) (hp : M[k]? = some p) (hk : μ[k]? = some (some c)) : Eff A M μ H M (μ.set k (some c')) (upd H p o) := by
  refine ⟨Pre.refl _, fun a u ha e => ?_, by rw [vw_set hp hk]; exact Ex.refl _⟩
  rw [upd_ne ?_]
  · exact e
  · rintro rfl
    exact h.nA a (List.mem_of_getElem? hp) ha
theorem pre_snoc {M : List Addr} {p : Addr} : Pre M (M ++ [p]) := fun k a h => by
  rw [List.getElem?_append_left (List.getElem?_eq_some_iff.mp h).1]
  exact h
theorem hid_new {p : Addr} {c : C} (h : M.length = μ.length) : hid A (M ++ [p]) (μ ++ [some c]) a ↔ hid A M μ a ∨ a = p := by
  constructor
  · rintro (z | ⟨j, d, h1, h2⟩)
    · exact .inl (.inl z)
    · by_cases hj : j < M.length
      · rw [List.getElem?_append_left hj] at h1
        rw [List.getElem?_append_left (by omega)] at h2
        exact .inl (.inr ⟨j, d, h1, h2⟩)
      · have hj2 : j = M.length := by
          have := (List.getElem?_eq_some_iff.mp h1).1
          simp at this
          omega
        subst hj2
        rw [List.getElem?_append_right (Nat.le_refl _)] at h1
        simp at h1
        exact .inr h1.symm
  · rintro ((z | ⟨j, d, h1, h2⟩) | z)
    · exact .inl z
    · refine .inr ⟨j, d, ?_, ?_⟩
      · rw [List.getElem?_append_left (List.getElem?_eq_some_iff.mp h1).1]; exact h1
      · rw [List.getElem?_append_left (List.getElem?_eq_some_iff.mp h2).1]; exact h2
    · subst z
      refine .inr ⟨M.length, c, ?_, ?_⟩
      · rw [List.getElem?_append_right (Nat.le_refl _)]; simp
      · rw [h, List.getElem?_append_right (Nat.le_refl _)]; simp
theorem vw_new {p : Addr} {c : C} (h : M.length = μ.length) (hp : H p = none) : vw A (M ++ [p]) (μ ++ [some c]) (upd H p o) = vw A M μ H := by
  funext b
  unfold vw
  by_cases hb : hid A M μ b
  · rw [if_pos hb, if_pos ((hid_new h).mpr (.inl hb))]
  · rw [if_neg hb]
    by_cases e : b = p
    · subst e
      rw [if_pos ((hid_new h).mpr (.inr rfl)), hp]
      rfl
    · rw [if_neg fun z => (((hid_new h).mp z).elim hb e), upd_ne e]
theorem MOk.new {c : C} {p : Addr} (h : MOk K A M H μ) (hp : H p = none) (hc : CT K (vw A M μ H) M p o c) : MOk K A (M ++ [p]) (upd H p o) (μ ++ [some c]) := by
  have ev := vw_new (A := A) (o := o) (c := c) h.len hp
  have nn : ∀ a, H a ≠ none → upd H p o a ≠ none := fun a hn => by
    rw [upd_ne fun z => hn (by rw [z]; exact hp)]
    exact hn
  have np : p ∉ M := fun m => h.al p m hp
  refine ⟨by simp [h.len], ?_, fun a m => ?_, fun a m => ?_, fun a m => nn a (h.aA a m), h.tb.ex (Ex.new hp), fun a u m z => ?_, fun j b d h1 h2 => ?_⟩
  · rw [List.nodup_append]
    refine ⟨h.nd, by simp, fun a m b mb z => ?_⟩
    have : b = p := by simpa using mb
    subst this
    subst z
    exact np m
  · rcases List.mem_append.mp m with m | m
    · exact h.nA a m
    · have : a = p := by simpa using m
      subst this
      exact fun z => h.aA a z hp
  · rcases List.mem_append.mp m with m | m
    · exact nn a (h.al a m)
    · have : a = p := by simpa using m
      subst this
      rw [upd_same]
      intro z
      cases z
  · by_cases w : a = p
    · subst w
      rw [upd_same] at z
      cases z
      exact hc.noTb
    · rw [upd_ne w] at z
      refine h.aT a u (m.imp id fun m => ?_) z
      rcases List.mem_append.mp m with m | m
      · exact m
      · exact absurd (by simpa using m) w
  · rw [ev]
    by_cases hj : j < M.length
    · rw [List.getElem?_append_left hj] at h1
      rw [List.getElem?_append_left (by have := h.len; omega)] at h2
      obtain ⟨u, q1, q2⟩ := h.ct j b d h1 h2
      refine ⟨u, ?_, q2.mono (Ex.refl _) pre_snoc⟩
      rw [upd_ne fun z => np (by rw [← z]; exact List.mem_of_getElem? h1)]
      exact q1
    · have hj2 : j = M.length := by
        have := (List.getElem?_eq_some_iff.mp h1).1
        simp at this
        omega
      subst hj2
      rw [List.getElem?_append_right (Nat.le_refl _)] at h1
      rw [h.len, List.getElem?_append_right (Nat.le_refl _)] at h2
      simp at h1 h2
      subst h1 h2
      exact ⟨o, upd_same, hc.mono (Ex.refl _) pre_snoc⟩
theorem Eff.new {c : C} {p : Addr} (h : MOk K A M H μ) (hp : H p = none) : Eff A M μ H (M ++ [p]) (μ ++ [some c]) (upd H p o) :=
  ⟨pre_snoc, fun a u ha e => by rw [upd_ne (ne_of_none e hp)]; exact e, by rw [vw_new h.len hp]; exact Ex.refl _⟩
end view
end Pd

namespace Pd
open PySem L2
open Evl (Ex)
section judgements
variable (K : PySem.W.Frag)
def AX (te : TE) (Γ : G) (μ : Mu) (R : W → Mu → Prop) : Prop := ∀ (A : Addr → Prop) (M : List Addr) (σ : L2.St) (H : Hp), Cn K A M σ H Γ μ → ∀ Q : VK,
  (∀ M' H' v w μ', MOk K A M' H' μ' → Eff A M μ H M' μ' H' → VR K (vw A M' μ' H') M' v w → R w μ' → Q v H') → te σ H Q
def AXA (ta : TA) (Γ : G) (μ : Mu) (R : List W → Mu → Prop) : Prop := ∀ (A : Addr → Prop) (M : List Addr) (σ : L2.St) (H : Hp), Cn K A M σ H Γ μ → ∀ Q : List V → Hp → Prop,
  (∀ M' H' vs ws μ', MOk K A M' H' μ' → Eff A M μ H M' μ' H' → VRs K (vw A M' μ' H') M' vs ws → R ws μ' → Q vs H') → ta σ H Q
def AXT (tt : TT) (Γ : G) (μ : Mu) (R : Bool → Mu → Prop) : Prop := ∀ (A : Addr → Prop) (M : List Addr) (σ : L2.St) (H : Hp), Cn K A M σ H Γ μ → ∀ Q : Bool → Hp → Prop,
  (∀ M' H' b μ', MOk K A M' H' μ' → Eff A M μ H M' μ' H' → R b μ' → Q b H') → tt σ H Q
def AXO (to : TO) (Γ : G) (μ : Mu) (R : Option Int → Mu → Prop) : Prop := ∀ (A : Addr → Prop) (M : List Addr) (σ : L2.St) (H : Hp), Cn K A M σ H Γ μ → ∀ Q : Option Int → Hp → Prop,
  (∀ M' H' b μ', MOk K A M' H' μ' → Eff A M μ H M' μ' H' → R b μ' → Q b H') → to σ H Q
def AO (r : R2) (x y : W) (μ : Mu) (R : W → Mu → Prop) : Prop := ∀ (A : Addr → Prop) (M : List Addr) (H : Hp) (v u : V), MOk K A M H μ → VR K (vw A M μ H) M v x → VR K (vw A M μ H) M u y → ∀ Q : VK,
  (∀ M' H' z w μ', MOk K A M' H' μ' → Eff A M μ H M' μ' H' → VR K (vw A M' μ' H') M' z w → R w μ' → Q z H') → r v u H Q
def AU (r : V → Hp → VK → Prop) (x : W) (μ : Mu) (R : W → Mu → Prop) : Prop := ∀ (A : Addr → Prop) (M : List Addr) (H : Hp) (v : V), MOk K A M H μ → VR K (vw A M μ H) M v x → ∀ Q : VK,
  (∀ M' H' z w μ', MOk K A M' H' μ' → Eff A M μ H M' μ' H' → VR K (vw A M' μ' H') M' z w → R w μ' → Q z H') → r v H Q
def AC (r : List V → Hp → VK → Prop) (ws : List W) (μ : Mu) (R : W → Mu → Prop) : Prop := ∀ (A : Addr → Prop) (M : List Addr) (H : Hp) (vs : List V), MOk K A M H μ → VRs K (vw A M μ H) M vs ws → ∀ Q : VK,
  (∀ M' H' z w μ', MOk K A M' H' μ' → Eff A M μ H M' μ' H' → VR K (vw A M' μ' H') M' z w → R w μ' → Q z H') → r vs H Q
def AM (r : V → List V → Hp → VK → Prop) (x : W) (ws : List W) (μ : Mu) (R : W → Mu → Prop) : Prop := ∀ (A : Addr → Prop) (M : List Addr) (H : Hp) (v : V) (vs : List V), MOk K A M H μ → VR K (vw A M μ H) M v x → VRs K (vw A M μ H) M vs ws → ∀ Q : VK,
  (∀ M' H' z w μ', MOk K A M' H' μ' → Eff A M μ H M' μ' H' → VR K (vw A M' μ' H') M' z w → R w μ' → Q z H') → r v vs H Q
def AG (g : TG) (w : W) (Γ : G) (μ : Mu) (R : G → Mu → Prop) : Prop := ∀ (A : Addr → Prop) (M : List Addr) (σ : L2.St) (H : Hp) (v : V), Cn K A M σ H Γ μ → VR K (vw A M μ H) M v w → ∀ Q : L2.St → Hp → Prop,
  (∀ M' σ' H' Γ' μ', Cn K A M' σ' H' Γ' μ' → Eff A M μ H M' μ' H' → R Γ' μ' → Q σ' H') → g v σ H Q
def AGs (g : TGs) (ws : List W) (Γ : G) (μ : Mu) (R : G → Mu → Prop) : Prop := ∀ (A : Addr → Prop) (M : List Addr) (σ : L2.St) (H : Hp) (vs : List V), Cn K A M σ H Γ μ → VRs K (vw A M μ H) M vs ws → ∀ Q : L2.St → Hp → Prop,
  (∀ M' σ' H' Γ' μ', Cn K A M' σ' H' Γ' μ' → Eff A M μ H M' μ' H' → R Γ' μ' → Q σ' H') → g vs σ H Q
structure AEn where
  nx : G → Mu → Prop
  rt : W → Mu → Prop
  bk : G → Mu → Prop := fun _ _ => False
  ct : G → Mu → Prop := fun _ _ => False
  xw : L2.WX := fun _ _ _ _ => False
  xc : PySem.Str → W → G → Mu → Prop := fun _ _ _ _ => False
/-- the class of errors that the text calls x -/
def clA (x : PySem.Str) (a : Addr) : Prop := PySem.W.nsIn K PySem.mainGlobals x = some (some (.ref a))
/-- the wish about errors, by the errors' names and values; the error's dict stands as the last cell -/
def XW (A : Addr → Prop) (M : List Addr) (μ : Mu) (H : Hp) (xw : L2.WX) (xc : PySem.Str → W → G → Mu → Prop) : Prop := ∀ M' σ' H' Γ' x a d w μ', clA K x a → Cn K A (M' ++ [d]) σ' H' Γ' (μ' ++ [some (.xd d w)]) →
  Eff A M μ H (M' ++ [d]) (μ' ++ [some (.xd d w)]) H' → xc x w Γ' μ' → xw (.ref a) (some d) σ' H'
structure Hd (A : Addr → Prop) (M : List Addr) (μ : Mu) (H : Hp) (D : AEn) (E : Ends) : Prop where
  nx : ∀ M' σ' H' Γ' μ', Cn K A M' σ' H' Γ' μ' → Eff A M μ H M' μ' H' → D.nx Γ' μ' → E.nx σ' H'
  rt : ∀ M' H' v w μ', MOk K A M' H' μ' → Eff A M μ H M' μ' H' → VR K (vw A M' μ' H') M' v w → D.rt w μ' → E.rt v H'
  bk : ∀ M' σ' H' Γ' μ', Cn K A M' σ' H' Γ' μ' → Eff A M μ H M' μ' H' → D.bk Γ' μ' → E.bk σ' H'
  ct : ∀ M' σ' H' Γ' μ', Cn K A M' σ' H' Γ' μ' → Eff A M μ H M' μ' H' → D.ct Γ' μ' → E.ct σ' H'
  xx : XW K A M μ H D.xw D.xc
def AS (t : TS) (D : AEn) (Γ : G) (μ : Mu) : Prop := ∀ (A : Addr → Prop) (M : List Addr) (σ : L2.St) (H : Hp), Cn K A M σ H Γ μ → ∀ E : Ends, Hd K A M μ H D E → t E σ H
end judgements
section
variable {K : PySem.W.Frag} {A : Addr → Prop} {M M' : List Addr} {μ μ' : Mu} {H H' : Hp} {D : AEn} {E : Ends} {Γ : G}
theorem XW.after {xw : L2.WX} {xc : PySem.Str → W → G → Mu → Prop} (h : XW K A M μ H xw xc) (e : Eff A M μ H M' μ' H') : XW K A M' μ' H' xw xc := fun _ _ _ _ _ _ _ _ _ h1 h2 h3 h4 => h _ _ _ _ _ _ _ _ _ h1 h2 (e.trans h3) h4
theorem Hd.after (h : Hd K A M μ H D E) (e : Eff A M μ H M' μ' H') : Hd K A M' μ' H' D E :=
  ⟨fun _ _ _ _ _ c e' => h.nx _ _ _ _ _ c (e.trans e'), fun _ _ _ _ _ m e' => h.rt _ _ _ _ _ m (e.trans e'), fun _ _ _ _ _ c e' => h.bk _ _ _ _ _ c (e.trans e'), fun _ _ _ _ _ c e' => h.ct _ _ _ _ _ c (e.trans e'), h.xx.after e⟩

/-! ### data as a whole: what a value comes to with the cells as they stand -/
mutual
inductive Rs (μ : Mu) : W → PyData → Prop
  | d (x : PyData) : Rs μ (.d x) x
  | m {k : Nat} {ws : List W} {xs : List PyData} : μ[k]? = some (some (.lst ws)) → Rss μ ws xs → Rs μ (.m k) (.list xs)
  | t {ws : List W} {xs : List PyData} : Rss μ ws xs → Rs μ (.t ws) (.tuple xs)
  | f {ws : List W} {xs : List PyData} : Rss μ ws xs → Rs μ (.f ws) (.list xs)
inductive Rss (μ : Mu) : List W → List PyData → Prop
  | nil : Rss μ [] []
  | cons {w : W} {x : PyData} {ws : List W} {xs : List PyData} : Rs μ w x → Rss μ ws xs → Rss μ (w :: ws) (x :: xs)
end
theorem Rss.ds : ∀ xs : List PyData, Rss μ (xs.map W.d) xs
  | [] => .nil
  | x :: xs => .cons (.d x) (Rss.ds xs)
mutual
theorem Rs.dp (mo : MOk K A M H μ) : ∀ {w : W} {x : PyData} {v : V}, Rs μ w x → VR K (vw A M μ H) M v w → Dp K H v x
  | _, _, _, .d x, h => by
    cases h with
    | d h => exact (dp_mono vw_le h).dp
  | _, _, _, .m h1 h2, h => by
    cases h with
    | m hm =>
      obtain ⟨o, e, c⟩ := mo.ct _ _ _ hm h1
      obtain ⟨vs, rfl, r⟩ := c
      exact .lst (SqL.of e) (Rss.dp mo h2 r)
  | _, _, _, .t h1, h => by
    cases h with
    | t hs r => exact .tup (Evl.ex_t vw_le hs) (Rss.dp mo h1 r)
  | _, _, _, .f h1, h => by
    cases h with
    | f hs r => exact .lst (Evl.ex_l vw_le hs) (Rss.dp mo h1 r)
theorem Rss.dp (mo : MOk K A M H μ) : ∀ {ws : List W} {xs : List PyData} {vs : List V}, Rss μ ws xs → VRs K (vw A M μ H) M vs ws → DpAll K H vs xs
  | _, _, _, .nil, h => by cases h; exact .nil
  | _, _, _, .cons h1 h2, h => by
    cases h with
    | cons r1 r2 => exact .cons (Rs.dp mo h1 r1) (Rss.dp mo h2 r2)
end
/-- a list's items; a tuple's -/
inductive LW (μ : Mu) : W → List W → Prop
  | d (xs : List PyData) : LW μ (.d (.list xs)) (xs.map W.d)
  | m {k : Nat} {ws : List W} : μ[k]? = some (some (.lst ws)) → LW μ (.m k) ws
  | f (ws : List W) : LW μ (.f ws) ws
/-- .. of a list that was made here -/
inductive LN (μ : Mu) : W → List W → Prop
  | d (xs : List PyData) : LN μ (.d (.list xs)) (xs.map W.d)
  | m {k : Nat} {ws : List W} : μ[k]? = some (some (.lst ws)) → LN μ (.m k) ws
inductive TW : W → List W → Prop
  | d (xs : List PyData) : TW (.d (.tuple xs)) (xs.map W.d)
  | t (ws : List W) : TW (.t ws) ws
theorem LW.get (mo : MOk K A M H μ) {v : V} {w : W} {ws : List W} (r : VR K (vw A M μ H) M v w) (h : LW μ w ws) : ∃ a vs, v = .ref a ∧ SqL K H a vs ∧ VRs K (vw A M μ H) M vs ws := by
  cases h with
  | d xs =>
    cases r with
    | d r =>
      cases r with
      | lst h1 h2 => exact ⟨_, _, rfl, SqL.of (vw_le _ _ h1), VRs.of_dp h2⟩
  | m hk =>
    cases r with
    | m hm =>
      obtain ⟨o, e, vs, rfl, r⟩ := mo.ct _ _ _ hm hk
      exact ⟨_, vs, rfl, SqL.of e, r⟩
  | f ws =>
    cases r with
    | f h1 h2 => exact ⟨_, _, rfl, Evl.ex_l vw_le h1, h2⟩
theorem LN.get (mo : MOk K A M H μ) {v : V} {w : W} {ws : List W} (r : VR K (vw A M μ H) M v w) (h : LN μ w ws) : ∃ a vs, v = .ref a ∧ H a = some (.lst vs) ∧ VRs K (vw A M μ H) M vs ws := by
  cases h with
  | d xs =>
    cases r with
    | d r =>
      cases r with
      | lst h1 h2 => exact ⟨_, _, rfl, vw_le _ _ h1, VRs.of_dp h2⟩
  | m hk =>
    cases r with
    | m hm =>
      obtain ⟨o, e, vs, rfl, r⟩ := mo.ct _ _ _ hm hk
      exact ⟨_, vs, rfl, e, r⟩
theorem TW.get {v : V} {w : W} {ws : List W} (r : VR K (vw A M μ H) M v w) (h : TW w ws) : ∃ a vs, v = .ref a ∧ SqT K (vw A M μ H) a vs ∧ VRs K (vw A M μ H) M vs ws := by
  cases h with
  | d xs =>
    cases r with
    | d r =>
      cases r with
      | tup h1 h2 => exact ⟨_, _, rfl, h1, VRs.of_dp h2⟩
  | t ws =>
    cases r with
    | t h1 h2 => exact ⟨_, _, rfl, h1, h2⟩
theorem map_d_inj : ∀ {xs ys : List PyData}, xs.map W.d = ys.map W.d → xs = ys
  | [], [], _ => rfl
  | [], _ :: _, h => by cases h
  | _ :: _, [], h => by cases h
  | x :: xs, y :: ys, h => by
    rw [List.map_cons, List.map_cons] at h
    injection h with h1 h2
    injection h1 with h1
    rw [h1, map_d_inj h2]
/-- scalars -/
theorem vr_int {v : V} {i : Int} {Hv : Hp} (h : VR K Hv M v (.d (.int i))) : v = .int i := by
  cases h with
  | d h => cases h; rfl
theorem vr_bool {v : V} {b : Bool} {Hv : Hp} (h : VR K Hv M v (.d (.bool b))) : v = .bl b := by
  cases h with
  | d h => cases h; rfl
theorem vr_str {v : V} {x : PySem.Str} {Hv : Hp} (h : VR K Hv M v (.d (.str x))) : v = .str x := by
  cases h with
  | d h => cases h; rfl
theorem vr_none {v : V} {Hv : Hp} (h : VR K Hv M v (.d .none)) : v = .non := by
  cases h with
  | d h => cases h; rfl
theorem vrs_int : ∀ {vs : List V} {ns : List Int} {Hv : Hp}, VRs K Hv M vs (ns.map fun n => W.d (.int n)) → vs = ns.map V.int
  | _, [], _, h => by cases h; rfl
  | _, n :: ns, _, h => by
    cases h with
    | cons h t => rw [vr_int h, vrs_int t]; rfl
theorem vrs_bool : ∀ {vs : List V} {ns : List Bool} {Hv : Hp}, VRs K Hv M vs (ns.map fun n => W.d (.bool n)) → vs = ns.map V.bl
  | _, [], _, h => by cases h; rfl
  | _, n :: ns, _, h => by
    cases h with
    | cons h t => rw [vr_bool h, vrs_bool t]; rfl

/-! ### a new list, a new tuple: plain data, or a new cell -/
def NL (ws : List W) (μ : Mu) (R : W → Mu → Prop) : Prop := (∃ xs, ws = xs.map W.d ∧ R (.d (.list xs)) μ) ∨ R (.m μ.length) (μ ++ [some (.lst ws)])
def NT (ws : List W) (μ : Mu) (R : W → Mu → Prop) : Prop := (∃ xs, ws = xs.map W.d ∧ R (.d (.tuple xs)) μ) ∨ R (.t ws) μ
theorem NL.d {xs : List PyData} {ws : List W} {R : W → Mu → Prop} (h : R (.d (.list xs)) μ) (e : ws = xs.map W.d := by first | rfl | simp) : NL ws μ R := .inl ⟨xs, e, h⟩
theorem NL.m {ws : List W} {R : W → Mu → Prop} (h : R (.m μ.length) (μ ++ [some (.lst ws)])) : NL ws μ R := .inr h
theorem NT.d {xs : List PyData} {ws : List W} {R : W → Mu → Prop} (h : R (.d (.tuple xs)) μ) (e : ws = xs.map W.d := by first | rfl | simp) : NT ws μ R := .inl ⟨xs, e, h⟩
theorem NT.t {ws : List W} {R : W → Mu → Prop} (h : R (.t ws) μ) : NT ws μ R := .inr h
theorem NL.use {ws : List W} {R : W → Mu → Prop} {vs : List V} {p : Addr} (h : NL ws μ R) (mo : MOk K A M H μ) (r : VRs K (vw A M μ H) M vs ws) (hp : H p = none) :
    ∃ M' μ' w, MOk K A M' (upd H p (.lst vs)) μ' ∧ Eff A M μ H M' μ' (upd H p (.lst vs)) ∧ VR K (vw A M' μ' (upd H p (.lst vs))) M' (.ref p) w ∧ R w μ' := by
  have e : Ex H (upd H p (.lst vs)) := Ex.new hp
  rcases h with ⟨xs, rfl, h⟩ | h
  · exact ⟨M, μ, _, mo.ex e, Eff.of_ex e,   .d (.lst (vw_of (mo.ne_hid hp) upd_same) (dpa_mono (vw_ex e) r.dp)), h⟩
  · refine ⟨M ++ [p], _, _, mo.new (c := .lst ws) hp ⟨vs, rfl, r⟩, Eff.new mo hp, .m ?_, h⟩
    rw [← mo.len, List.getElem?_append_right (Nat.le_refl _)]
    simp
theorem NT.use {ws : List W} {R : W → Mu → Prop} {vs : List V} {p : Addr} (h : NT ws μ R) (mo : MOk K A M H μ) (r : VRs K (vw A M μ H) M vs ws) (hp : H p = none) :
    ∃ w, MOk K A M (upd H p (.tup vs)) μ ∧ Eff A M μ H M μ (upd H p (.tup vs)) ∧ VR K (vw A M μ (upd H p (.tup vs))) M (.ref p) w ∧ R w μ := by
  have e : Ex H (upd H p (.tup vs)) := Ex.new hp
  have hs : SqT K (vw A M μ (upd H p (.tup vs))) p vs := SqT.of (vw_of (mo.ne_hid hp) upd_same)
  rcases h with ⟨xs, rfl, h⟩ | h
  · exact ⟨_, mo.ex e, Eff.of_ex e, .d (.tup hs (dpa_mono (vw_ex e) r.dp)), h⟩
  · exact ⟨_, mo.ex e, Eff.of_ex e, .t hs (r.mono (vw_ex e) (Pre.refl _)), h⟩
end

/-! ### expressions -/
section
variable {K : PySem.W.Frag} {Γ : G} {μ : Mu} {R : W → Mu → Prop} {ta tb te : TE} {t u : TT} {r : R2}
theorem ax_var {i : Nat} {w : W} (h : Γ[i]? = some (some w)) (k : R w μ) : AX K (tVar i) Γ μ R := fun A M σ H c Q q =>
  let ⟨v, e, r⟩ := c.gr.2 i w h
  ⟨v, e, q M H v w μ c.mo Eff.refl r k⟩
theorem ax_int {i : Int} (k : R (.d (.int i)) μ) : AX K (tC (.int i)) Γ μ R := fun A M σ H c Q q => q M H _ _ μ c.mo Eff.refl (.d (.int i)) k
theorem ax_bl {b : Bool} (k : R (.d (.bool b)) μ) : AX K (tC (.bl b)) Γ μ R := fun A M σ H c Q q => q M H _ _ μ c.mo Eff.refl (.d (.bl b)) k
theorem ax_str {x : PySem.Str} (k : R (.d (.str x)) μ) : AX K (tC (.str x)) Γ μ R := fun A M σ H c Q q => q M H _ _ μ c.mo Eff.refl (.d (.str x)) k
theorem ax_cV {v : V} (k : R (.k v) μ) : AX K (tC v) Γ μ R := fun A M σ H c Q q => q M H _ _ μ c.mo Eff.refl (.k v) k
theorem ax_non (k : R (.d .none) μ) : AX K (tC .non) Γ μ R := fun A M σ H c Q q => q M H _ _ μ c.mo Eff.refl (.d .non) k
theorem ax_op (h : AX K ta Γ μ fun x μ1 => AX K tb Γ μ1 fun y μ2 => AO K r x y μ2 R) : AX K (tOp r ta tb) Γ μ R := fun A M σ H c Q q =>
  h A M σ H c _ fun M1 H1 v x μ1 mo1 e1 r1 h1 => h1 A M1 σ H1 (c.eff e1 mo1) _ fun M2 H2 u y μ2 mo2 e2 r2 h2 =>
    h2 A M2 H2 v u mo2 (r1.mono e2.ex e2.pre) r2 Q fun M3 H3 z w μ3 mo3 e3 r3 hR => q M3 H3 z w μ3 mo3 ((e1.trans e2).trans e3) r3 hR
theorem ax_un {r : V → Hp → VK → Prop} (h : AX K ta Γ μ fun x μ1 => AU K r x μ1 R) : AX K (tUn r ta) Γ μ R := fun A M σ H c Q q =>
  h A M σ H c _ fun M1 H1 v x μ1 mo1 e1 r1 h1 => h1 A M1 H1 v mo1 r1 Q fun M3 H3 z w μ3 mo3 e3 r3 hR => q M3 H3 z w μ3 mo3 (e1.trans e3) r3 hR
theorem ax_weak {R' : W → Mu → Prop} (h : AX K te Γ μ R) (k : ∀ w μ', R w μ' → R' w μ') : AX K te Γ μ R' := fun A M σ H c Q q =>
  h A M σ H c Q fun M1 H1 v w μ1 mo e r hr => q M1 H1 v w μ1 mo e r (k _ _ hr)
/-! two ints, and the like -/
theorem ao_I0 {g : Int → Int → V} {d : PyData} {i j : Int} (hd : ∀ Hv, DQ K Hv (g i j) d) (k : R (.d d) μ) : AO K (rI0 g) (.d (.int i)) (.d (.int j)) μ R := fun A M H v u mo rv ru Q q => by
  rw [vr_int rv, vr_int ru]
  exact ⟨i, j, rfl, rfl, q M H _ _ μ mo Eff.refl (.d (hd _)) k⟩
theorem ao_I {P : Int → Int → Prop} {g : Int → Int → V} {d : PyData} {i j : Int} (hd : ∀ Hv, DQ K Hv (g i j) d) (hc : P i j) (k : R (.d d) μ) : AO K (rI P g) (.d (.int i)) (.d (.int j)) μ R := fun A M H v u mo rv ru Q q => by
  rw [vr_int rv, vr_int ru]
  exact ⟨i, j, rfl, rfl, hc, q M H _ _ μ mo Eff.refl (.d (hd _)) k⟩
theorem ao_iI {g : Int → Int → Int} {i j : Int} (k : R (.d (.int (g i j))) μ) : AO K (rI0 fun i j => .int (g i j)) (.d (.int i)) (.d (.int j)) μ R := ao_I0 (fun _ => .int _) k
theorem ao_iB {g : Int → Int → Bool} {i j : Int} (k : R (.d (.bool (g i j))) μ) : AO K (rI0 fun i j => .bl (g i j)) (.d (.int i)) (.d (.int j)) μ R := ao_I0 (fun _ => .bl _) k
theorem ao_cI {P : Int → Int → Prop} {g : Int → Int → Int} {i j : Int} (hc : P i j) (k : R (.d (.int (g i j))) μ) : AO K (rI P fun i j => .int (g i j)) (.d (.int i)) (.d (.int j)) μ R := ao_I (fun _ => .int _) hc k
theorem au_neg {i : Int} (k : R (.d (.int (-i))) μ) : AU K (rU fun i => .int (-i)) (.d (.int i)) μ R := fun A M H v mo rv Q q => by
  rw [vr_int rv]
  exact ⟨i, rfl, q M H _ _ μ mo Eff.refl (.d (.int _)) k⟩
/-- == and != of scalars -/
def sV : PyData → V
  | .bool b => .bl b
  | .int i => .int i
  | .str x => .str x
  | _ => .non
def isS : PyData → Bool
  | .none => true
  | .bool _ => true
  | .int _ => true
  | .str _ => true
  | _ => false
theorem vr_s {v : V} {x : PyData} {Hv : Hp} {M : List Addr} (h : VR K Hv M v (.d x)) (hx : isS x = true) : v = sV x := by
  cases h with
  | d h => cases h <;> first | rfl | cases hx
theorem ao_eq {x y : PyData} (hx : isS x = true) (hy : isS y = true) (hs : scal (sV x) (sV y) = true) (k : R (.d (.bool (decide (sV x = sV y)))) μ) : AO K rEq (.d x) (.d y) μ R := fun A M H v u mo rv ru Q q => by
  rw [vr_s rv hx, vr_s ru hy]
  exact ⟨hs, q M H _ _ μ mo Eff.refl (.d (.bl _)) k⟩
theorem ao_ne {x y : PyData} (hx : isS x = true) (hy : isS y = true) (hs : scal (sV x) (sV y) = true) (k : R (.d (.bool (!decide (sV x = sV y)))) μ) : AO K rNe (.d x) (.d y) μ R := fun A M H v u mo rv ru Q q => by
  rw [vr_s rv hx, vr_s ru hy]
  exact ⟨hs, q M H _ _ μ mo Eff.refl (.d (.bl _)) k⟩
theorem dec_V {i j : Int} : decide (V.int i = V.int j) = decide (i = j) := by
  by_cases h : i = j
  · subst h; simp
  · rw [decide_eq_false h, decide_eq_false fun z => h (V.int.inj z)]
theorem dec_Vb {i j : Bool} : decide (V.bl i = V.bl j) = decide (i = j) := by cases i <;> cases j <;> rfl
theorem dec_Vs {i j : PySem.Str} : decide (V.str i = V.str j) = decide (i = j) := by
  by_cases h : i = j
  · subst h; simp
  · rw [decide_eq_false h, decide_eq_false fun z => h (V.str.inj z)]
theorem ao_eqI {i j : Int} (k : R (.d (.bool (decide (i = j)))) μ) : AO K rEq (.d (.int i)) (.d (.int j)) μ R := ao_eq rfl rfl rfl (by show R (.d (.bool (decide (V.int i = V.int j)))) μ; rw [dec_V]; exact k)
theorem ao_neI {i j : Int} (k : R (.d (.bool (!decide (i = j)))) μ) : AO K rNe (.d (.int i)) (.d (.int j)) μ R := ao_ne rfl rfl rfl (by show R (.d (.bool (!decide (V.int i = V.int j)))) μ; rw [dec_V]; exact k)
theorem ao_eqB {i j : Bool} (k : R (.d (.bool (decide (i = j)))) μ) : AO K rEq (.d (.bool i)) (.d (.bool j)) μ R := ao_eq rfl rfl rfl (by show R (.d (.bool (decide (V.bl i = V.bl j)))) μ; rw [dec_Vb]; exact k)
theorem ao_neB {i j : Bool} (k : R (.d (.bool (!decide (i = j)))) μ) : AO K rNe (.d (.bool i)) (.d (.bool j)) μ R := ao_ne rfl rfl rfl (by show R (.d (.bool (!decide (V.bl i = V.bl j)))) μ; rw [dec_Vb]; exact k)
theorem ao_eqS {i j : PySem.Str} (k : R (.d (.bool (decide (i = j)))) μ) : AO K rEq (.d (.str i)) (.d (.str j)) μ R := ao_eq rfl rfl rfl (by show R (.d (.bool (decide (V.str i = V.str j)))) μ; rw [dec_Vs]; exact k)
theorem ao_neS {i j : PySem.Str} (k : R (.d (.bool (!decide (i = j)))) μ) : AO K rNe (.d (.str i)) (.d (.str j)) μ R := ao_ne rfl rfl rfl (by show R (.d (.bool (!decide (V.str i = V.str j)))) μ; rw [dec_Vs]; exact k)
/-- == and != of data -/
theorem ao_eqD {x y : W} {d e : PyData} (hx : Rs μ x d) (hy : Rs μ y e) (sd : SeqAt.shaped d = true) (se : SeqAt.shaped e = true) (k : R (.d (.bool (PyData.eqv d e))) μ) : AO K (rEqD K) x y μ R := fun A M H v u mo rv ru Q q =>
  ⟨d, e, hx.dp mo rv, hy.dp mo ru, sd, se, q M H _ _ μ mo Eff.refl (.d (.bl _)) k⟩
theorem ao_neD {x y : W} {d e : PyData} (hx : Rs μ x d) (hy : Rs μ y e) (sd : SeqAt.shaped d = true) (se : SeqAt.shaped e = true) (k : R (.d (.bool (!PyData.eqv d e))) μ) : AO K (rNeD K) x y μ R := fun A M H v u mo rv ru Q q =>
  ⟨d, e, hx.dp mo rv, hy.dp mo ru, sd, se, q M H _ _ μ mo Eff.refl (.d (.bl _)) k⟩
/-- is None -/
def isNon : W → Bool
  | .d .none => true
  | .k v => decide (v = .non)
  | _ => false
theorem vr_isN {v : V} {w : W} {Hv : Hp} {M : List Addr} (h : VR K Hv M v w) : decide (v = .non) = isNon w := by
  cases h with
  | d h => cases h <;> rfl
  | m h => rfl
  | t h1 h2 => rfl
  | f h1 h2 => rfl
  | k v => rfl
theorem ax_isN (h : AX K ta Γ μ fun x μ1 => R (.d (.bool (isNon x))) μ1) : AX K (tIsN ta) Γ μ R := fun A M σ H c Q q =>
  h A M σ H c _ fun M1 H1 v x μ1 mo1 e1 r1 h1 => by
    show Q (.bl (decide (v = .non))) H1
    rw [vr_isN r1]
    exact q M1 H1 _ _ μ1 mo1 e1 (.d (.bl _)) h1
theorem ax_notN (h : AX K ta Γ μ fun x μ1 => R (.d (.bool (!isNon x))) μ1) : AX K (tNotN ta) Γ μ R := fun A M σ H c Q q =>
  h A M σ H c _ fun M1 H1 v x μ1 mo1 e1 r1 h1 => by
    show Q (.bl (!decide (v = .non))) H1
    rw [vr_isN r1]
    exact q M1 H1 _ _ μ1 mo1 e1 (.d (.bl _)) h1
/-! tests -/
section
variable {RT : Bool → Mu → Prop}
theorem at_test (h : AX K te Γ μ fun w μ1 => ∃ b, w = .d (.bool b) ∧ RT b μ1) : AXT K (tTest te) Γ μ RT := fun A M σ H c Q q =>
  h A M σ H c _ fun M1 H1 v w μ1 mo1 e1 r1 ⟨b, hb, hR⟩ => by
    subst hb
    exact ⟨b, vr_bool r1, q M1 H1 b μ1 mo1 e1 hR⟩
theorem at_B (h : AX K te Γ μ fun w μ1 => ∃ b, w = .d (.bool b) ∧ RT b μ1) : AXT K (tB te) Γ μ RT := fun A M σ H c Q q =>
  h A M σ H c _ fun M1 H1 v w μ1 mo1 e1 r1 ⟨b, hb, hR⟩ => by
    subst hb
    exact ⟨b, vr_bool r1, q M1 H1 b μ1 mo1 e1 hR⟩
theorem at_and (h : AXT K t Γ μ fun a μ1 => if a = true then AXT K u Γ μ1 RT else RT false μ1) : AXT K (tAnd t u) Γ μ RT := fun A M σ H c Q q =>
  h A M σ H c _ fun M1 H1 a μ1 mo1 e1 h1 => by
    cases a with
    | true =>
      show u σ H1 Q
      exact h1 A M1 σ H1 (c.eff e1 mo1) Q fun M2 H2 b μ2 mo2 e2 h2 => q M2 H2 b μ2 mo2 (e1.trans e2) h2
    | false => exact q M1 H1 false μ1 mo1 e1 h1
theorem at_or (h : AXT K t Γ μ fun a μ1 => if a = true then RT true μ1 else AXT K u Γ μ1 RT) : AXT K (tOr t u) Γ μ RT := fun A M σ H c Q q =>
  h A M σ H c _ fun M1 H1 a μ1 mo1 e1 h1 => by
    cases a with
    | false =>
      show u σ H1 Q
      exact h1 A M1 σ H1 (c.eff e1 mo1) Q fun M2 H2 b μ2 mo2 e2 h2 => q M2 H2 b μ2 mo2 (e1.trans e2) h2
    | true => exact q M1 H1 true μ1 mo1 e1 h1
theorem at_not (h : AXT K t Γ μ fun a μ1 => RT (!a) μ1) : AXT K (tNot t) Γ μ RT := fun A M σ H c Q q =>
  h A M σ H c _ fun M1 H1 a μ1 mo1 e1 h1 => q M1 H1 (!a) μ1 mo1 e1 h1
theorem at_yes (h : RT true μ) : AXT K tYes Γ μ RT := fun A M σ H c Q q => q M H true μ c.mo Eff.refl h
theorem at_weak {RT' : Bool → Mu → Prop} (h : AXT K t Γ μ RT) (k : ∀ w μ', RT w μ' → RT' w μ') : AXT K t Γ μ RT' := fun A M σ H c Q q =>
  h A M σ H c Q fun M1 H1 w μ1 mo e hr => q M1 H1 w μ1 mo e (k _ _ hr)
end
theorem ax_andV (h : AX K ta Γ μ fun x μ1 => ∃ b, x = .d (.bool b) ∧ if b = true then AX K tb Γ μ1 R else R (.d (.bool false)) μ1) : AX K (tAndV ta tb) Γ μ R := fun A M σ H c Q q =>
  h A M σ H c _ fun M1 H1 v x μ1 mo1 e1 r1 ⟨b, hb, h1⟩ => by
    subst hb
    refine ⟨b, vr_bool r1, ?_⟩
    cases b with
    | true =>
      show tb σ H1 Q
      exact h1 A M1 σ H1 (c.eff e1 mo1) Q fun M2 H2 z w μ2 mo2 e2 r2 h2 => q M2 H2 z w μ2 mo2 (e1.trans e2) r2 h2
    | false => exact q M1 H1 _ _ μ1 mo1 e1 (.d (.bl false)) h1
theorem ax_orV (h : AX K ta Γ μ fun x μ1 => ∃ b, x = .d (.bool b) ∧ if b = true then R (.d (.bool true)) μ1 else AX K tb Γ μ1 R) : AX K (tOrV ta tb) Γ μ R := fun A M σ H c Q q =>
  h A M σ H c _ fun M1 H1 v x μ1 mo1 e1 r1 ⟨b, hb, h1⟩ => by
    subst hb
    refine ⟨b, vr_bool r1, ?_⟩
    cases b with
    | false =>
      show tb σ H1 Q
      exact h1 A M1 σ H1 (c.eff e1 mo1) Q fun M2 H2 z w μ2 mo2 e2 r2 h2 => q M2 H2 z w μ2 mo2 (e1.trans e2) r2 h2
    | true => exact q M1 H1 _ _ μ1 mo1 e1 (.d (.bl true)) h1
theorem ax_notV (h : AX K ta Γ μ fun x μ1 => ∃ b, x = .d (.bool b) ∧ R (.d (.bool (!b))) μ1) : AX K (tNotV ta) Γ μ R := fun A M σ H c Q q =>
  h A M σ H c _ fun M1 H1 v x μ1 mo1 e1 r1 ⟨b, hb, h1⟩ => by
    subst hb
    exact ⟨b, vr_bool r1, q M1 H1 _ _ μ1 mo1 e1 (.d (.bl _)) h1⟩
theorem ax_if (h : AXT K t Γ μ fun a μ1 => if a = true then AX K ta Γ μ1 R else AX K tb Γ μ1 R) : AX K (tIf t ta tb) Γ μ R := fun A M σ H c Q q =>
  h A M σ H c _ fun M1 H1 a μ1 mo1 e1 h1 => by
    cases a with
    | true =>
      show ta σ H1 Q
      exact h1 A M1 σ H1 (c.eff e1 mo1) Q fun M2 H2 z w μ2 mo2 e2 r2 h2 => q M2 H2 z w μ2 mo2 (e1.trans e2) r2 h2
    | false =>
      show tb σ H1 Q
      exact h1 A M1 σ H1 (c.eff e1 mo1) Q fun M2 H2 z w μ2 mo2 e2 r2 h2 => q M2 H2 z w μ2 mo2 (e1.trans e2) r2 h2
/-! arguments -/
section
variable {RA : List W → Mu → Prop} {tr : TA}
theorem aa_nil (k : RA [] μ) : AXA K tNil Γ μ RA := fun A M σ H c Q q => q M H _ _ μ c.mo Eff.refl .nil k
theorem aa_cons (h : AX K ta Γ μ fun x μ1 => AXA K tr Γ μ1 fun ws μ2 => RA (x :: ws) μ2) : AXA K (tCons ta tr) Γ μ RA := fun A M σ H c Q q =>
  h A M σ H c _ fun M1 H1 v x μ1 mo1 e1 r1 h1 => h1 A M1 σ H1 (c.eff e1 mo1) _ fun M2 H2 vs ws μ2 mo2 e2 r2 h2 =>
    q M2 H2 (v :: vs) (x :: ws) μ2 mo2 (e1.trans e2) (.cons (r1.mono e2.ex e2.pre) r2) h2
end
theorem ax_tup {tr : TA} (h : AXA K tr Γ μ fun ws μ1 => ws.length ≤ sizeLine ∧ NT ws μ1 R) : AX K (tTup tr) Γ μ R := fun A M σ H c Q q =>
  h A M σ H c _ fun M1 H1 vs ws μ1 mo1 e1 r1 ⟨hl, hn⟩ => ⟨by rw [r1.length]; exact hl, fun p hp => by
    obtain ⟨w, m2, e2, r2, hR⟩ := hn.use mo1 r1 hp
    exact q M1 _ _ w μ1 m2 (e1.trans e2) r2 hR⟩
theorem ax_lst {tr : TA} (h : AXA K tr Γ μ fun ws μ1 => ws.length ≤ sizeLine ∧ NL ws μ1 R) : AX K (tLst tr) Γ μ R := fun A M σ H c Q q =>
  h A M σ H c _ fun M1 H1 vs ws μ1 mo1 e1 r1 ⟨hl, hn⟩ => ⟨by rw [r1.length]; exact hl, fun p hp => by
    obtain ⟨M2, μ2, w, m2, e2, r2, hR⟩ := hn.use mo1 r1 hp
    exact q M2 _ _ w μ2 m2 (e1.trans e2) r2 hR⟩
theorem ax_cb {r : List V → Hp → VK → Prop} {tr : TA} (h : AXA K tr Γ μ fun ws μ1 => AC K r ws μ1 R) : AX K (tCB r tr) Γ μ R := fun A M σ H c Q q =>
  h A M σ H c _ fun M1 H1 vs ws μ1 mo1 e1 r1 h1 => h1 A M1 H1 vs mo1 r1 Q fun M3 H3 z w μ3 mo3 e3 r3 hR => q M3 H3 z w μ3 mo3 (e1.trans e3) r3 hR
/-- a method of a built-in type -/
def tyW (T : String) (μ : Mu) : W → Prop
  | .m k => T = "list" ∧ ∃ ws, μ[k]? = some (some (.lst ws))
  | .d (.list _) => T = "list"
  | .f _ => T = "list"
  | .d (.str _) => T = "str"
  | .d (.int _) => T = "int"
  | _ => False
end
end Pd

namespace Pd
open PySem L2
open Evl (Ex)
section
variable {K : PySem.W.Frag} {A : Addr → Prop} {M : List Addr} {H : Hp} {Γ : G} {μ : Mu} {R : W → Mu → Prop} {ta tb te : TE} {t u : TT} {r : R2}
theorem tyW_ok {T : String} {w : W} {v : V} (mo : MOk K A M H μ) (rv : VR K (vw A M μ H) M v w) (h : tyW T μ w) : tyV K T v H := by
  cases rv with
  | d rv =>
    cases rv with
    | non => cases h
    | bl _ => cases h
    | int _ => exact h
    | str _ => exact h
    | lst h1 h2 => exact .inl ⟨h, _, SqL.of (vw_le _ _ h1)⟩
    | tup _ _ => cases h
  | m hm =>
    obtain ⟨e, ws, hk⟩ := h
    obtain ⟨o, e2, vs, rfl, _⟩ := mo.ct _ _ _ hm hk
    exact .inl ⟨e, _, SqL.of e2⟩
  | t _ _ => cases h
  | f h1 h2 => exact .inl ⟨h, _, Evl.ex_l vw_le h1⟩
  | k v => cases h
theorem ax_bm {T : String} {rm : V → List V → Hp → VK → Prop} {tr : TA} (h : AX K ta Γ μ fun x μ1 => tyW T μ1 x ∧ AXA K tr Γ μ1 fun ws μ2 => AM K rm x ws μ2 R) : AX K (tBM K T rm ta tr) Γ μ R := fun A M σ H c Q q =>
  h A M σ H c _ fun M1 H1 v x μ1 mo1 e1 r1 ⟨ty, h1⟩ => ⟨tyW_ok mo1 r1 ty, h1 A M1 σ H1 (c.eff e1 mo1) _ fun M2 H2 vs ws μ2 mo2 e2 r2 h2 =>
    h2 A M2 H2 v vs mo2 (r1.mono e2.ex e2.pre) r2 Q fun M3 H3 z w μ3 mo3 e3 r3 hR => q M3 H3 z w μ3 mo3 ((e1.trans e2).trans e3) r3 hR⟩
theorem ax_bm0 {T : String} {rm : V → List V → Hp → VK → Prop} (h : AX K ta Γ μ fun x μ1 => tyW T μ1 x ∧ AM K rm x [] μ1 R) : AX K (tBM0 K T rm ta) Γ μ R := fun A M σ H c Q q =>
  h A M σ H c _ fun M1 H1 v x μ1 mo1 e1 r1 ⟨ty, h1⟩ => ⟨tyW_ok mo1 r1 ty, h1 A M1 H1 v [] mo1 r1 .nil Q fun M3 H3 z w μ3 mo3 e3 r3 hR => q M3 H3 z w μ3 mo3 (e1.trans e3) r3 hR⟩
/-! lists that change -/
theorem cell_get {k : Nat} {ws : List W} {v : V} (mo : MOk K A M H μ) (rv : VR K (vw A M μ H) M v (.m k)) (hk : μ[k]? = some (some (.lst ws))) : ∃ a vs, v = .ref a ∧ M[k]? = some a ∧ H a = some (.lst vs) ∧ VRs K (vw A M μ H) M vs ws := by
  cases rv with
  | m hm =>
    obtain ⟨o, e, vs, rfl, r⟩ := mo.ct _ _ _ hm hk
    exact ⟨_, vs, rfl, hm, e, r⟩
theorem am_append {k : Nat} {ws : List W} {w : W} (hk : μ[k]? = some (some (.lst ws))) (hl : ws.length < sizeLine) (q : R (.d .none) (μ.set k (some (.lst (ws ++ [w]))))) : AM K rAppend (.m k) [w] μ R := fun A M H v vs mo rv rs Q h => by
  obtain ⟨a, us, rfl, hm, e, ru⟩ := cell_get mo rv hk
  cases rs with
  | cons rw rn =>
    cases rn
    refine ⟨a, us, _, rfl, rfl, e, by rw [ru.length]; exact hl, ?_⟩
    have mo' : MOk K A M (upd H a (.lst (us ++ [_]))) (μ.set k (some (.lst (ws ++ [w])))) := mo.write hm hk ⟨_, rfl, ru.snoc rw⟩
    exact h M _ _ _ _ mo' (Eff.write mo hm hk) (.d .non) q
theorem am_pop {k : Nat} {ws : List W} {w : W} (hk : μ[k]? = some (some (.lst ws))) (hw : ws[ws.length - 1]? = some w) (q : R w (μ.set k (some (.lst ws.dropLast)))) : AM K rPop (.m k) [] μ R := fun A M H v vs mo rv rs Q h => by
  obtain ⟨a, us, rfl, hm, e, ru⟩ := cell_get mo rv hk
  cases rs
  obtain ⟨y, hy, ry⟩ := ru.getW hw
  refine ⟨a, us, y, rfl, rfl, e, by rw [ru.length]; exact hy, ?_⟩
  have mo' : MOk K A M (upd H a (.lst us.dropLast)) (μ.set k (some (.lst ws.dropLast))) := mo.write hm hk ⟨_, rfl, ru.dropLast⟩
  have e' : Eff A M μ H M (μ.set k (some (.lst ws.dropLast))) (upd H a (.lst us.dropLast)) := Eff.write mo hm hk
  exact h M _ _ _ _ mo' e' (ry.mono e'.ex e'.pre) q
theorem am_popAt {k : Nat} {ws : List W} {w : W} {i : Int} {j : Nat} (hk : μ[k]? = some (some (.lst ws))) (hi : -(2 ^ 63) ≤ i ∧ i < 2 ^ 63) (hj : seqIndex? i ws.length = some j) (hw : ws[j]? = some w) (q : R w (μ.set k (some (.lst (ws.eraseIdx j))))) : AM K rPopAt (.m k) [.d (.int i)] μ R := fun A M H v vs mo rv rs Q h => by
  obtain ⟨a, us, rfl, hm, e, ru⟩ := cell_get mo rv hk
  cases rs with
  | cons rw rn =>
    cases rn
    rw [vr_int rw]
    obtain ⟨y, hy, ry⟩ := ru.getW hw
    refine ⟨a, us, i, j, y, rfl, rfl, e, hi.1, hi.2, by rw [ru.length]; exact hj, hy, ?_⟩
    have mo' : MOk K A M (upd H a (.lst (us.eraseIdx j))) (μ.set k (some (.lst (ws.eraseIdx j)))) := mo.write hm hk ⟨_, rfl, ru.eraseIdx j⟩
    have e' : Eff A M μ H M (μ.set k (some (.lst (ws.eraseIdx j)))) (upd H a (.lst (us.eraseIdx j))) := Eff.write mo hm hk
    exact h M _ _ _ _ mo' e' (ry.mono e'.ex e'.pre) q
theorem am_extend {k : Nat} {ws zs : List W} {w : W} (hk : μ[k]? = some (some (.lst ws))) (hw : LN μ w zs) (hl : ws.length + zs.length ≤ sizeLine) (q : R (.d .none) (μ.set k (some (.lst (ws ++ zs))))) : AM K rExtend (.m k) [w] μ R := fun A M H v vs mo rv rs Q h => by
  obtain ⟨a, us, rfl, hm, e, ru⟩ := cell_get mo rv hk
  cases rs with
  | cons rw rn =>
    cases rn
    obtain ⟨b, ys, rfl, eb, rb⟩ := hw.get mo rw
    refine ⟨a, b, us, ys, rfl, rfl, e, eb, by rw [ru.length, rb.length]; exact hl, ?_⟩
    have mo' : MOk K A M (upd H a (.lst (us ++ ys))) (μ.set k (some (.lst (ws ++ zs)))) := mo.write hm hk ⟨_, rfl, ru.append rb⟩
    exact h M _ _ _ _ mo' (Eff.write mo hm hk) (.d .non) q
/-! items, slices, sums of lists -/
theorem atI_map {ws : List W} {vs : List V} {i : Int} {w : W} {Hv : Hp} (ru : VRs K Hv M vs ws) (h : atI ws i = some w) : ∃ v, atI vs i = some v ∧ VR K Hv M v w := by
  unfold atI at h ⊢
  rw [ru.length]
  cases e : ixN ws.length i with
  | none => rw [e] at h; cases h
  | some j =>
    rw [e] at h
    exact ru.getW h
theorem ao_ixL {x z : W} {ws : List W} {i : Int} (hx : LW μ x ws) (hz : atI ws i = some z) (q : R z μ) : AO K (rIxL K) x (.d (.int i)) μ R := fun A M H v u mo rv ru Q h => by
  obtain ⟨a, vs, rfl, hs, rs⟩ := hx.get mo rv
  rw [vr_int ru]
  obtain ⟨y, hy, ry⟩ := atI_map rs hz
  exact ⟨a, vs, i, y, rfl, rfl, hs, hy, h M H y z μ mo Eff.refl ry q⟩
theorem ao_ixT {x z : W} {ws : List W} {i : Int} (hx : TW x ws) (hz : atI ws i = some z) (q : R z μ) : AO K (rIxT K) x (.d (.int i)) μ R := fun A M H v u mo rv ru Q h => by
  obtain ⟨a, vs, rfl, hs, rs⟩ := hx.get rv
  rw [vr_int ru]
  obtain ⟨y, hy, ry⟩ := atI_map rs hz
  exact ⟨a, vs, i, y, rfl, rfl, Evl.ex_t vw_le hs, hy, h M H y z μ mo Eff.refl ry q⟩
theorem ao_ixS {x : PySem.Str} {i : Int} {c : Nat} (hl : x.length ≤ sizeLine) (hc : atI x.cps.toList i = some c) (q : R (.d (.str ⟨#[c]⟩)) μ) : AO K rIxS (.d (.str x)) (.d (.int i)) μ R := fun A M H v u mo rv ru Q h => by
  rw [vr_int ru, vr_str rv]
  exact ⟨x, i, c, rfl, rfl, hl, hc, h M H _ _ μ mo Eff.refl (.d (.str _)) q⟩
theorem ao_cat {x y : W} {ws zs : List W} (hx : LN μ x ws) (hy : LN μ y zs) (hl : ws.length + zs.length ≤ sizeLine) (q : NL (ws ++ zs) μ R) : AO K rCat x y μ R := fun A M H v u mo rv ru Q h => by
  obtain ⟨a, vs, rfl, ha, ra⟩ := hx.get mo rv
  obtain ⟨b, us, rfl, hb, rb⟩ := hy.get mo ru
  refine ⟨a, b, vs, us, rfl, rfl, ha, hb, by rw [ra.length, rb.length]; exact hl, fun p hp => ?_⟩
  obtain ⟨M2, μ2, w, m2, e2, r2, hR⟩ := q.use mo (ra.append rb) hp
  exact h M2 _ _ w μ2 m2 e2 r2 hR
theorem vrs_rep {vs : List V} {ws : List W} {Hv : Hp} (h : VRs K Hv M vs ws) : ∀ n : Nat, VRs K Hv M (List.replicate n vs).flatten (List.replicate n ws).flatten
  | 0 => .nil
  | n + 1 => by
    rw [List.replicate_succ, List.replicate_succ, List.flatten_cons, List.flatten_cons]
    exact h.append (vrs_rep h n)
theorem ao_rep {x : W} {ws : List W} {k : Int} (hx : LN μ x ws) (hk : -(2 ^ 63) ≤ k ∧ k < 2 ^ 63) (hl : ws.length * k.toNat ≤ sizeLine) (q : NL (List.replicate k.toNat ws).flatten μ R) : AO K rRep x (.d (.int k)) μ R := fun A M H v u mo rv ru Q h => by
  obtain ⟨a, vs, rfl, ha, ra⟩ := hx.get mo rv
  rw [vr_int ru]
  refine ⟨a, k, vs, rfl, rfl, ha, hk.1, hk.2, by rw [ra.length]; exact hl, fun p hp => ?_⟩
  obtain ⟨M2, μ2, w, m2, e2, r2, hR⟩ := q.use mo (vrs_rep ra k.toNat) hp
  exact h M2 _ _ w μ2 m2 e2 r2 hR
def cutW (xs : List W) (lo hi : Option Int) : List W := (xs.drop (HT.sIx xs.length 0 lo)).take (HT.sIx xs.length xs.length hi - HT.sIx xs.length 0 lo)
theorem vrs_cut {vs : List V} {ws : List W} {Hv : Hp} (h : VRs K Hv M vs ws) (lo hi : Option Int) : VRs K Hv M (cutV vs lo hi) (cutW ws lo hi) := by
  unfold cutV cutW
  rw [h.length]
  exact (h.drop _).take _
section
variable {RO : Option Int → Mu → Prop}
theorem xo_no (q : RO none μ) : AXO K tNoPart Γ μ RO := fun A M σ H c Q h => h M H none μ c.mo Eff.refl q
theorem xo_some (h : AX K te Γ μ fun w μ1 => ∃ i, w = .d (.int i) ∧ RO (some i) μ1) : AXO K (tPart te) Γ μ RO := fun A M σ H c Q q =>
  h A M σ H c _ fun M1 H1 v w μ1 mo1 e1 r1 ⟨i, hi, hR⟩ => by
    subst hi
    exact ⟨i, vr_int r1, q M1 H1 (some i) μ1 mo1 e1 hR⟩
end
def ASl (K : PySem.W.Frag) (r : V → Option Int → Option Int → Hp → VK → Prop) (x : W) (lo hi : Option Int) (μ : Mu) (R : W → Mu → Prop) : Prop := AU K (fun v H Q => r v lo hi H Q) x μ R
theorem ax_sl {r : V → Option Int → Option Int → Hp → VK → Prop} {tl th : TO} (h : AX K te Γ μ fun x μ1 => AXO K tl Γ μ1 fun lo μ2 => AXO K th Γ μ2 fun hi μ3 => ASl K r x lo hi μ3 R) : AX K (tSl r te tl th) Γ μ R := fun A M σ H c Q q =>
  h A M σ H c _ fun M1 H1 v x μ1 mo1 e1 r1 h1 => h1 A M1 σ H1 (c.eff e1 mo1) _ fun M2 H2 lo μ2 mo2 e2 h2 => h2 A M2 σ H2 (c.eff (e1.trans e2) mo2) _ fun M3 H3 hi μ3 mo3 e3 h3 =>
    h3 A M3 H3 v mo3 (r1.mono (e2.trans e3).ex (e2.trans e3).pre) Q fun M4 H4 z w μ4 mo4 e4 r4 hR => q M4 H4 z w μ4 mo4 (((e1.trans e2).trans e3).trans e4) r4 hR
theorem as_slL {x : W} {ws : List W} {lo hi : Option Int} (hx : LW μ x ws) (q : NL (cutW ws lo hi) μ R) : ASl K (rSlL K) x lo hi μ R := fun A M H v mo rv Q h => by
  obtain ⟨a, vs, rfl, hs, rs⟩ := hx.get mo rv
  refine ⟨a, vs, rfl, hs, fun p hp => ?_⟩
  obtain ⟨M2, μ2, w, m2, e2, r2, hR⟩ := q.use mo (vrs_cut rs lo hi) hp
  exact h M2 _ _ w μ2 m2 e2 r2 hR
theorem as_slS {x : PySem.Str} {lo hi : Option Int} (hl : x.length ≤ sizeLine) (q : R (.d (.str (cutS x lo hi))) μ) : ASl K rSlS (.d (.str x)) lo hi μ R := fun A M H v mo rv Q h => by
  rw [vr_str rv]
  exact ⟨x, rfl, hl, h M H _ _ μ mo Eff.refl (.d (.str _)) q⟩
theorem ax_revL (h : AX K te Γ μ fun x μ1 => ∃ ws, LW μ1 x ws ∧ NL ws.reverse μ1 R) : AX K (tRevL K te) Γ μ R := fun A M σ H c Q q =>
  h A M σ H c _ fun M1 H1 v x μ1 mo1 e1 r1 ⟨ws, hx, hn⟩ => by
    obtain ⟨a, vs, rfl, hs, rs⟩ := hx.get mo1 r1
    refine ⟨a, vs, rfl, hs, fun p hp => ?_⟩
    obtain ⟨M2, μ2, w, m2, e2, r2, hR⟩ := hn.use mo1 rs.reverse hp
    exact q M2 _ _ w μ2 m2 (e1.trans e2) r2 hR
/-! built-ins by values -/
/-- a reading that wants a list's address and items -/
theorem ac_len {x : W} {ws : List W} (hx : LW μ x ws) (q : R (.d (.int ws.length)) μ) : AC K (fun xs H Q => ∃ p ys, xs = [.ref p] ∧ (SqL K H p ys ∨ SqT K H p ys) ∧ Q (.int ys.length) H) [x] μ R := fun A M H vs mo rs Q h => by
  cases rs with
  | cons rw rn =>
    cases rn
    obtain ⟨a, us, rfl, hs, ru⟩ := hx.get mo rw
    refine ⟨a, us, rfl, .inl hs, ?_⟩
    rw [ru.length]
    exact h M H _ _ μ mo Eff.refl (.d (.int _)) q
theorem ac_lenT {x : W} {ws : List W} (hx : TW x ws) (q : R (.d (.int ws.length)) μ) : AC K (fun xs H Q => ∃ p ys, xs = [.ref p] ∧ (SqL K H p ys ∨ SqT K H p ys) ∧ Q (.int ys.length) H) [x] μ R := fun A M H vs mo rs Q h => by
  cases rs with
  | cons rw rn =>
    cases rn
    obtain ⟨a, us, rfl, hs, ru⟩ := hx.get rw
    refine ⟨a, us, rfl, .inr (Evl.ex_t vw_le hs), ?_⟩
    rw [ru.length]
    exact h M H _ _ μ mo Eff.refl (.d (.int _)) q
theorem ac_list {x : W} {ws : List W} (hx : LW μ x ws) (q : NL ws μ R) : AC K (fun xs H Q => ∃ p ys, xs = [.ref p] ∧ (SqL K H p ys ∨ SqT K H p ys) ∧ ∀ l, H l = none → Q (.ref l) (upd H l (.lst ys))) [x] μ R := fun A M H vs mo rs Q h => by
  cases rs with
  | cons rw rn =>
    cases rn
    obtain ⟨a, us, rfl, hs, ru⟩ := hx.get mo rw
    refine ⟨a, us, rfl, .inl hs, fun p hp => ?_⟩
    obtain ⟨M2, μ2, w, m2, e2, r2, hR⟩ := q.use mo ru hp
    exact h M2 _ _ w μ2 m2 e2 r2 hR
theorem ac_listT {x : W} {ws : List W} (hx : TW x ws) (q : NL ws μ R) : AC K (fun xs H Q => ∃ p ys, xs = [.ref p] ∧ (SqL K H p ys ∨ SqT K H p ys) ∧ ∀ l, H l = none → Q (.ref l) (upd H l (.lst ys))) [x] μ R := fun A M H vs mo rs Q h => by
  cases rs with
  | cons rw rn =>
    cases rn
    obtain ⟨a, us, rfl, hs, ru⟩ := hx.get rw
    refine ⟨a, us, rfl, .inr (Evl.ex_t vw_le hs), fun p hp => ?_⟩
    obtain ⟨M2, μ2, w, m2, e2, r2, hR⟩ := q.use mo (ru) hp
    exact h M2 _ _ w μ2 m2 e2 r2 hR
theorem ac_tupleL {x : W} {ws : List W} (hx : LW μ x ws) (q : NT ws μ R) : AC K (fun xs H Q => ∃ p ys, xs = [.ref p] ∧ ((SqL K H p ys ∧ ∀ l, H l = none → Q (.ref l) (upd H l (.tup ys))) ∨ (SqT K H p ys ∧ Q (.ref p) H))) [x] μ R := fun A M H vs mo rs Q h => by
  cases rs with
  | cons rw rn =>
    cases rn
    obtain ⟨a, us, rfl, hs, ru⟩ := hx.get mo rw
    refine ⟨a, us, rfl, .inl ⟨hs, fun p hp => ?_⟩⟩
    obtain ⟨w, m2, e2, r2, hR⟩ := q.use mo ru hp
    exact h M _ _ w μ m2 e2 r2 hR
theorem ac_1 {g : Int → Int} {i : Int} (q : R (.d (.int (g i))) μ) : AC K (fun xs H Q => ∃ i, xs = [.int i] ∧ Q (.int (g i)) H) [.d (.int i)] μ R := fun A M H vs mo rs Q h => by
  cases rs with
  | cons rw rn =>
    cases rn
    exact ⟨i, by rw [vr_int rw], h M H _ _ μ mo Eff.refl (.d (.int _)) q⟩
theorem ac_2 {g : Int → Int → Int} {i j : Int} (q : R (.d (.int (g i j))) μ) : AC K (fun xs H Q => ∃ i j, xs = [.int i, .int j] ∧ Q (.int (g i j)) H) [.d (.int i), .d (.int j)] μ R := fun A M H vs mo rs Q h => by
  cases rs with
  | cons rw rn =>
    cases rn with
    | cons rw2 rn =>
      cases rn
      exact ⟨i, j, by rw [vr_int rw, vr_int rw2], h M H _ _ μ mo Eff.refl (.d (.int _)) q⟩
theorem ac_int {i : Int} (q : R (.d (.int i)) μ) : AC K (fun xs H Q => (∃ i, xs = [.int i] ∧ Q (.int i) H) ∨ ∃ k, xs = [.bl k] ∧ Q (.int (if k then 1 else 0)) H) [.d (.int i)] μ R := fun A M H vs mo rs Q h => by
  cases rs with
  | cons rw rn =>
    cases rn
    exact .inl ⟨i, by rw [vr_int rw], h M H _ _ μ mo Eff.refl (.d (.int _)) q⟩
theorem ac_intB {i : Bool} (q : R (.d (.int (if i then 1 else 0))) μ) : AC K (fun xs H Q => (∃ i, xs = [.int i] ∧ Q (.int i) H) ∨ ∃ k, xs = [.bl k] ∧ Q (.int (if k then 1 else 0)) H) [.d (.bool i)] μ R := fun A M H vs mo rs Q h => by
  cases rs with
  | cons rw rn =>
    cases rn
    exact .inr ⟨i, by rw [vr_bool rw], h M H _ _ μ mo Eff.refl (.d (.int _)) q⟩
theorem ac_sum {x : W} {ns : List Int} (hx : LW μ x (ns.map fun n => W.d (.int n))) (q : R (.d (.int ns.sum)) μ) : AC K (rSum K) [x] μ R := fun A M H vs mo rs Q h => by
  cases rs with
  | cons rw rn =>
    cases rn
    obtain ⟨a, us, rfl, hs, ru⟩ := hx.get mo rw
    rw [vrs_int ru] at hs
    exact ⟨a, ns, rfl, hs, h M H _ _ μ mo Eff.refl (.d (.int _)) q⟩
theorem ac_max {x : W} {ns : List Int} (hx : LW μ x (ns.map fun n => W.d (.int n))) (h0 : 0 < ns.length) (q : ∀ m, m ∈ ns → (∀ y, y ∈ ns → y ≤ m) → R (.d (.int m)) μ) : AC K (rMax K) [x] μ R := fun A M H vs mo rs Q h => by
  cases rs with
  | cons rw rn =>
    cases rn
    obtain ⟨a, us, rfl, hs, ru⟩ := hx.get mo rw
    rw [vrs_int ru] at hs
    exact ⟨a, ns, rfl, hs, h0, fun m m1 m2 => h M H _ _ μ mo Eff.refl (.d (.int _)) (q m m1 m2)⟩
theorem ac_min {x : W} {ns : List Int} (hx : LW μ x (ns.map fun n => W.d (.int n))) (h0 : 0 < ns.length) (q : ∀ m, m ∈ ns → (∀ y, y ∈ ns → m ≤ y) → R (.d (.int m)) μ) : AC K (rMin K) [x] μ R := fun A M H vs mo rs Q h => by
  cases rs with
  | cons rw rn =>
    cases rn
    obtain ⟨a, us, rfl, hs, ru⟩ := hx.get mo rw
    rw [vrs_int ru] at hs
    exact ⟨a, ns, rfl, hs, h0, fun m m1 m2 => h M H _ _ μ mo Eff.refl (.d (.int _)) (q m m1 m2)⟩
theorem ac_all {x : W} {bs : List Bool} (hx : LW μ x (bs.map fun n => W.d (.bool n))) (q : R (.d (.bool (bs.all id))) μ) : AC K (rAll K) [x] μ R := fun A M H vs mo rs Q h => by
  cases rs with
  | cons rw rn =>
    cases rn
    obtain ⟨a, us, rfl, hs, ru⟩ := hx.get mo rw
    rw [vrs_bool ru] at hs
    exact ⟨a, bs, rfl, hs, h M H _ _ μ mo Eff.refl (.d (.bl _)) q⟩
end
/-! ### targets, statements -/
section
variable {K : PySem.W.Frag} {A : Addr → Prop} {M M' : List Addr} {H H' : Hp} {Γ : G} {μ μ' : Mu} {ta te tl : TE} {c : TT} {t u tb : TS} {g : TG} {D : AEn}
theorem ag_name {i : Nat} {w : W} {R : G → Mu → Prop} (q : R (Γ.set i (some w)) μ) : AG K (gName i) w Γ μ R := fun A M σ H v c rv Q h => h M _ H _ μ ⟨c.mo, c.gr.set rv⟩ Eff.refl q
theorem ags_nil {R : G → Mu → Prop} (q : R Γ μ) : AGs K gNil [] Γ μ R := fun A M σ H vs c rs Q h => by
  cases rs
  exact ⟨rfl, h M σ H Γ μ c Eff.refl q⟩
theorem ags_cons {g : TG} {gs : TGs} {w : W} {ws : List W} {R : G → Mu → Prop} (h : AG K g w Γ μ fun Γ1 μ1 => AGs K gs ws Γ1 μ1 R) : AGs K (gCons g gs) (w :: ws) Γ μ R := fun A M σ H vs c rs Q q => by
  cases rs with
  | cons r1 r2 =>
    refine ⟨_, _, rfl, h A M σ H _ c r1 _ fun M1 σ1 H1 Γ1 μ1 c1 e1 h1 => ?_⟩
    exact h1 A M1 σ1 H1 _ c1 (r2.mono e1.ex e1.pre) Q fun M2 σ2 H2 Γ2 μ2 c2 e2 h2 => q M2 σ2 H2 Γ2 μ2 c2 (e1.trans e2) h2
theorem ag_tup {gs : TGs} {n : Nat} {w : W} {ws : List W} {R : G → Mu → Prop} (hw : TW w ws) (hn : ws.length = n) (h : AGs K gs ws Γ μ R) : AG K (gTup K n gs) w Γ μ R := fun A M σ H v c rv Q q => by
  obtain ⟨a, vs, rfl, hs, rs⟩ := hw.get rv
  exact ⟨a, vs, rfl, Evl.ex_t vw_le hs, by rw [rs.length]; exact hn, h A M σ H vs c rs Q q⟩
theorem as_asg (h : AX K te Γ μ fun w μ1 => AG K g w Γ μ1 D.nx) : AS K (tAsg te g) D Γ μ := fun A M σ H cn E hd =>
  h A M σ H cn _ fun M1 H1 v w μ1 mo1 e1 r1 h1 => h1 A M1 σ H1 v (cn.eff e1 mo1) r1 _ fun M2 σ2 H2 Γ2 μ2 c2 e2 h2 => hd.nx M2 σ2 H2 Γ2 μ2 c2 (e1.trans e2) h2
theorem as_par {i j : Nat} {tr : TA} (h : AXA K tr Γ μ fun ws μ1 => ∃ x y, ws = [x, y] ∧ D.nx ((Γ.set i (some x)).set j (some y)) μ1) : AS K (tPar i j tr) D Γ μ := fun A M σ H cn E hd =>
  h A M σ H cn _ fun M1 H1 vs ws μ1 mo1 e1 r1 ⟨x, y, hw, h1⟩ => by
    subst hw
    cases r1 with
    | cons ra r2 =>
      cases r2 with
      | cons rb r3 =>
        cases r3
        exact ⟨_, _, rfl, hd.nx M1 _ H1 _ μ1 ⟨mo1, ((cn.gr.mono e1.ex e1.pre).set ra).set rb⟩ e1 h1⟩
theorem as_par3 {i j l : Nat} {tr : TA} (h : AXA K tr Γ μ fun ws μ1 => ∃ x y z, ws = [x, y, z] ∧ D.nx (((Γ.set i (some x)).set j (some y)).set l (some z)) μ1) : AS K (tPar3 i j l tr) D Γ μ := fun A M σ H cn E hd =>
  h A M σ H cn _ fun M1 H1 vs ws μ1 mo1 e1 r1 ⟨x, y, z, hw, h1⟩ => by
    subst hw
    cases r1 with
    | cons ra r2 =>
      cases r2 with
      | cons rb r3 =>
        cases r3 with
        | cons rc r4 =>
          cases r4
          exact ⟨_, _, _, rfl, hd.nx M1 _ H1 _ μ1 ⟨mo1, (((cn.gr.mono e1.ex e1.pre).set ra).set rb).set rc⟩ e1 h1⟩
theorem as_seq (h : AS K t { D with nx := fun Γ1 μ1 => AS K u D Γ1 μ1 } Γ μ) : AS K (tSeq t u) D Γ μ := fun A M σ H cn E hd =>
  h A M σ H cn { E with nx := u E } ⟨fun M1 σ1 H1 Γ1 μ1 c1 e1 h1 => h1 A M1 σ1 H1 c1 E (hd.after e1), hd.rt, hd.bk, hd.ct, hd.xx⟩
theorem as_next (h : D.nx Γ μ) : AS K tNext D Γ μ := fun A M σ H cn E hd => hd.nx M σ H Γ μ cn Eff.refl h
theorem as_break (h : D.bk Γ μ) : AS K tBreak D Γ μ := fun A M σ H cn E hd => hd.bk M σ H Γ μ cn Eff.refl h
theorem as_cont (h : D.ct Γ μ) : AS K tCont D Γ μ := fun A M σ H cn E hd => hd.ct M σ H Γ μ cn Eff.refl h
theorem as_drop (h : AX K te Γ μ fun _ μ1 => D.nx Γ μ1) : AS K (tDrop te) D Γ μ := fun A M σ H cn E hd =>
  h A M σ H cn _ fun M1 H1 v w μ1 mo1 e1 r1 h1 => hd.nx M1 σ H1 Γ μ1 (cn.eff e1 mo1) e1 h1
theorem as_ret (h : AX K te Γ μ D.rt) : AS K (tRet te) D Γ μ := fun A M σ H cn E hd => h A M σ H cn _ fun M1 H1 v w μ1 mo1 e1 r1 h1 => hd.rt M1 H1 v w μ1 mo1 e1 r1 h1
theorem as_retN (h : D.rt (.d .none) μ) : AS K tRetN D Γ μ := fun A M σ H cn E hd => hd.rt M H _ _ μ cn.mo Eff.refl (.d .non) h
theorem as_if (h : AXT K c Γ μ fun b μ1 => if b = true then AS K t D Γ μ1 else AS K u D Γ μ1) : AS K (tIfS c t u) D Γ μ := fun A M σ H cn E hd =>
  h A M σ H cn _ fun M1 H1 b μ1 mo1 e1 h1 => by
    cases b with
    | true => exact h1 A M1 σ H1 (cn.eff e1 mo1) E (hd.after e1)
    | false => exact h1 A M1 σ H1 (cn.eff e1 mo1) E (hd.after e1)
theorem as_aug {i : Nat} {x : W} {f : Int → Int → Int} {a : Int} (hx : Γ[i]? = some (some (.d (.int a)))) (h : AX K te Γ μ fun w μ1 => ∃ b, w = .d (.int b) ∧ D.nx (Γ.set i (some (.d (.int (f a b))))) μ1) : AS K (tAug i te (ipI f)) D Γ μ := fun A M σ H cn E hd => by
  obtain ⟨v, e, r⟩ := cn.gr.2 i _ hx
  refine ⟨v, e, h A M σ H cn _ fun M1 H1 u w μ1 mo1 e1 r1 ⟨b, hw, h1⟩ => ?_⟩
  subst hw
  exact ⟨a, b, vr_int r, vr_int r1, hd.nx M1 _ H1 _ μ1 ⟨mo1, (cn.gr.mono e1.ex e1.pre).set (.d (.int _))⟩ e1 h1⟩
/-- an operator's rule as an in-place one -/
theorem as_augR {i : Nat} {x : W} {r : R2} (hx : Γ[i]? = some (some x)) (h : AX K te Γ μ fun w μ1 => AO K r x w μ1 fun z μ2 => D.nx (Γ.set i (some z)) μ2) : AS K (tAug i te r) D Γ μ := fun A M σ H cn E hd => by
  obtain ⟨v, e, rx⟩ := cn.gr.2 i _ hx
  refine ⟨v, e, h A M σ H cn _ fun M1 H1 u w μ1 mo1 e1 r1 h1 => ?_⟩
  exact h1 A M1 H1 v u mo1 (rx.mono e1.ex e1.pre) r1 _ fun M2 H2 z w2 μ2 mo2 e2 r2 h2 => hd.nx M2 _ H2 _ μ2 ⟨mo2, (cn.gr.mono (e1.trans e2).ex (e1.trans e2).pre).set r2⟩ (e1.trans e2) h2
/-- xs[i] = e -/
def ASet (K : PySem.W.Frag) (ts : TSet) (o i w : W) (μ : Mu) (R : Mu → Prop) : Prop := ∀ (A : Addr → Prop) (M : List Addr) (H : Hp) (x y v : V), MOk K A M H μ → VR K (vw A M μ H) M x o → VR K (vw A M μ H) M y i → VR K (vw A M μ H) M v w → ∀ Q : Hp → Prop,
  (∀ M' H' μ', MOk K A M' H' μ' → Eff A M μ H M' μ' H' → R μ' → Q H') → ts x y v H Q
theorem ag_sub {to ti : TE} {ts : TSet} {w : W} {R : G → Mu → Prop} (h : AX K to Γ μ fun o μ1 => AX K ti Γ μ1 fun i μ2 => ASet K ts o i w μ2 fun μ3 => R Γ μ3) : AG K (gSub to ti ts) w Γ μ R := fun A M σ H v cn rv Q q =>
  h A M σ H cn _ fun M1 H1 x o μ1 mo1 e1 r1 h1 => h1 A M1 σ H1 (cn.eff e1 mo1) _ fun M2 H2 y i μ2 mo2 e2 r2 h2 =>
    h2 A M2 H2 x y v mo2 (r1.mono e2.ex e2.pre) r2 (rv.mono (e1.trans e2).ex (e1.trans e2).pre) _ fun M3 H3 μ3 mo3 e3 h3 => q M3 σ H3 Γ μ3 (cn.eff ((e1.trans e2).trans e3) mo3) ((e1.trans e2).trans e3) h3
theorem aset_L {k j : Nat} {ws : List W} {i : Int} {w : W} {R : Mu → Prop} (hk : μ[k]? = some (some (.lst ws))) (hj : ixN ws.length i = some j) (q : R (μ.set k (some (.lst (ws.set j w))))) : ASet K rSetL (.m k) (.d (.int i)) w μ R := fun A M H x y v mo rx ry rv Q h => by
  obtain ⟨a, us, rfl, hm, e, ru⟩ := cell_get mo rx hk
  rw [vr_int ry]
  refine ⟨a, us, i, j, rfl, rfl, e, by rw [ru.length]; exact hj, ?_⟩
  have mo' : MOk K A M (upd H a (.lst (us.set j v))) (μ.set k (some (.lst (ws.set j w)))) := mo.write hm hk ⟨_, rfl, VRs.set rv j ru⟩
  exact h M _ _ mo' (Eff.write mo hm hk) q
end
end Pd

namespace Pd
open PySem L2
open Evl (Ex)
/-! ### what is walked -/
def ItOk (K : PySem.W.Frag) (J : It) (Hv : Hp) (M1 : List Addr) (items : List W) (S : Mu → Prop) : Prop := ∀ (A' : Addr → Prop) (M' : List Addr) (H' : Hp) (μ' : Mu), MOk K A' M' H' μ' → Ex Hv (vw A' M' μ' H') → Pre M1 M' → S μ' → ∀ i,
  (∀ w, items[i]? = some w → J.go i H' ∧ ∀ x H2, J.yld i H' x H2 → Ex H' H2 ∧ VR K (vw A' M' μ' H2) M' x w) ∧ (items[i]? = none → J.stop i H')
def AI (K : PySem.W.Frag) (wi : TI) (Γ : G) (μ : Mu) (R : List W → (Mu → Prop) → Mu → Prop) : Prop := ∀ (A : Addr → Prop) (M : List Addr) (σ : L2.St) (H : Hp), Cn K A M σ H Γ μ → ∀ Q : It → Hp → Prop,
  (∀ M' H' J items S μ', MOk K A M' H' μ' → Eff A M μ H M' μ' H' → ItOk K J (vw A M' μ' H') M' items S → R items S μ' → Q J H') → wi σ H Q
section
variable {K : PySem.W.Frag} {Γ : G} {μ : Mu} {tl te : TE} {ta : TA} {R : List W → (Mu → Prop) → Mu → Prop}
theorem ai_list (h : AX K tl Γ μ fun w μ1 => ∃ ws, LW μ1 w ws ∧ R ws (fun μ' => LW μ' w ws) μ1) : AI K (iList K tl) Γ μ R := fun A M σ H c Q q =>
  h A M σ H c _ fun M1 H1 v w μ1 mo1 e1 r1 ⟨ws, hl, hR⟩ => by
    obtain ⟨a, vs, rfl, hs, rs⟩ := hl.get mo1 r1
    refine ⟨a, rfl, ⟨vs, hs⟩, q M1 H1 _ ws _ μ1 mo1 e1 (fun A' M' H' μ' mo' ex pr hS i => ?_) hR⟩
    obtain ⟨a2, us, ea, hu, ru⟩ := LW.get mo' (r1.mono ex pr) hS
    cases ea
    refine ⟨fun w' hw => ?_, fun hn => ⟨us, hu, ?_⟩⟩
    · obtain ⟨y, hy, ry⟩ := ru.getW hw
      refine ⟨⟨us, y, hu, hy⟩, fun x H2 hx => ?_⟩
      obtain ⟨rfl, hx⟩ := hx
      have : y = x := Option.some.inj (hy.symm.trans (hx us hu))
      subst this
      exact ⟨Ex.refl _, ry⟩
    · rw [ru.length]
      exact List.getElem?_eq_none_iff.mp hn
theorem ai_tup (h : AX K tl Γ μ fun w μ1 => ∃ ws, TW w ws ∧ R ws (fun _ => True) μ1) : AI K (iTup K tl) Γ μ R := fun A M σ H c Q q =>
  h A M σ H c _ fun M1 H1 v w μ1 mo1 e1 r1 ⟨ws, hl, hR⟩ => by
    obtain ⟨a, vs, rfl, hs, rs⟩ := hl.get r1
    refine ⟨a, rfl, ⟨vs, Evl.ex_t vw_le hs⟩, q M1 H1 _ ws _ μ1 mo1 e1 (fun A' M' H' μ' mo' ex pr hS i => ?_) hR⟩
    have hu : SqT K H' a vs := Evl.ex_t vw_le (Evl.ex_t ex hs)
    have ru := rs.mono ex pr
    refine ⟨fun w' hw => ?_, fun hn => ⟨vs, hu, ?_⟩⟩
    · obtain ⟨y, hy, ry⟩ := ru.getW hw
      refine ⟨⟨vs, y, hu, hy⟩, fun x H2 hx => ?_⟩
      obtain ⟨rfl, hx⟩ := hx
      have : y = x := Option.some.inj (hy.symm.trans (hx vs hu))
      subst this
      exact ⟨Ex.refl _, ry⟩
    · rw [ru.length]
      exact List.getElem?_eq_none_iff.mp hn
theorem it_rng (lo : Int) (n : Nat) (Hv : Hp) (M1 : List Addr) : ItOk K (Itr lo n) Hv M1 ((List.range n).map fun (i : Nat) => W.d (.int (lo + i))) (fun _ => True) := fun A' M' H' μ' mo' ex pr hS i => by
  by_cases hi : i < n
  · have e : ((List.range n).map fun (i : Nat) => W.d (.int (lo + i)))[i]? = some (W.d (.int (lo + i))) := by
      rw [List.getElem?_map, List.getElem?_range hi]
      rfl
    refine ⟨fun w hw => ⟨hi, fun x H2 hx => ?_⟩, fun hn => by rw [e] at hn; cases hn⟩
    obtain ⟨rfl, rfl⟩ := hx
    rw [e] at hw
    cases hw
    exact ⟨Ex.refl _, .d (.int _)⟩
  · have e : ((List.range n).map fun (i : Nat) => W.d (.int (lo + i)))[i]? = none := by
      rw [List.getElem?_map, List.getElem?_eq_none_iff.mpr (by rw [List.length_range]; omega)]
      rfl
    exact ⟨fun w hw => (by rw [e] at hw; cases hw), fun _ => Nat.le_of_not_lt hi⟩
theorem ai_rng1 (h : AXA K ta Γ μ fun ws μ1 => ∃ j : Int, ws = [.d (.int j)] ∧ (-(2 ^ 62) ≤ j ∧ j < 2 ^ 62) ∧ R ((List.range j.toNat).map fun (i : Nat) => W.d (.int (0 + i))) (fun _ => True) μ1) : AI K (iRng1 ta) Γ μ R := fun A M σ H c Q q =>
  h A M σ H c _ fun M1 H1 vs ws μ1 mo1 e1 r1 ⟨j, hj, ⟨b1, b2⟩, hR⟩ => by
    subst hj
    cases r1 with
    | cons ra rn =>
      cases rn
      exact ⟨j, by rw [vr_int ra], b1, b2, q M1 H1 _ _ _ μ1 mo1 e1 (it_rng 0 j.toNat _ _) hR⟩
theorem ai_rng2 (h : AXA K ta Γ μ fun ws μ1 => ∃ i j : Int, ws = [.d (.int i), .d (.int j)] ∧ (-(2 ^ 62) ≤ i ∧ i < 2 ^ 62 ∧ -(2 ^ 62) ≤ j ∧ j < 2 ^ 62) ∧ R ((List.range (j - i).toNat).map fun (k : Nat) => W.d (.int (i + k))) (fun _ => True) μ1) : AI K (iRng2 ta) Γ μ R := fun A M σ H c Q q =>
  h A M σ H c _ fun M1 H1 vs ws μ1 mo1 e1 r1 ⟨i, j, hj, b, hR⟩ => by
    subst hj
    cases r1 with
    | cons ra rn =>
      cases rn with
      | cons rb rn =>
        cases rn
        exact ⟨i, j, by rw [vr_int ra, vr_int rb], b, q M1 H1 _ _ _ μ1 mo1 e1 (it_rng i (j - i).toNat _ _) hR⟩
theorem ai_str (h : AX K te Γ μ fun w μ1 => ∃ x : PySem.Str, w = .d (.str x) ∧ R (x.cps.toList.map fun c => W.d (.str ⟨#[c]⟩)) (fun _ => True) μ1) : AI K (iStr te) Γ μ R := fun A M σ H c Q q =>
  h A M σ H c _ fun M1 H1 v w μ1 mo1 e1 r1 ⟨x, hx, hR⟩ => by
    subst hx
    refine ⟨x, vr_str r1, q M1 H1 _ _ _ μ1 mo1 e1 (fun A' M' H' μ' mo' ex pr hS i => ?_) hR⟩
    have hz : x.cps.toList[i]? = x.cps[i]? := by simp
    refine ⟨fun w hw => ?_, fun hn => ?_⟩
    · rw [List.getElem?_map, hz] at hw
      cases hc : x.cps[i]? with
      | none => rw [hc] at hw; cases hw
      | some cc =>
        rw [hc] at hw
        cases hw
        refine ⟨(Array.getElem?_eq_some_iff.mp hc).1, fun y H2 hy => ?_⟩
        obtain ⟨rfl, c2, h2, rfl⟩ := hy
        rw [hc] at h2
        cases h2
        exact ⟨Ex.refl _, .d (.str _)⟩
    · rw [List.getElem?_map, hz] at hn
      have : x.cps[i]? = none := by
        cases hc : x.cps[i]? with
        | none => rfl
        | some cc => rw [hc] at hn; cases hn
      exact Array.getElem?_eq_none_iff.mp this
/-- a pair that was made on the way -/
def pairW : W → W → W
  | .d x, .d y => .d (.tuple [x, y])
  | a, b => .t [a, b]
theorem vr_pair {A : Addr → Prop} {M : List Addr} {H : Hp} {T : Addr} {x y : V} {a b : W} (mo : MOk K A M H μ) (hT : H T = none) (rx : VR K (vw A M μ H) M x a) (ry : VR K (vw A M μ H) M y b) : VR K (vw A M μ (upd H T (.tup [x, y]))) M (.ref T) (pairW a b) := by
  have hs : SqT K (vw A M μ (upd H T (.tup [x, y]))) T [x, y] := SqT.of (vw_of (mo.ne_hid hT) upd_same)
  have ex : Ex (vw A M μ H) (vw A M μ (upd H T (.tup [x, y]))) := vw_ex (Ex.new hT)
  have g : VRs K (vw A M μ (upd H T (.tup [x, y]))) M [x, y] [a, b] := .cons (rx.mono ex (Pre.refl _)) (.cons (ry.mono ex (Pre.refl _)) .nil)
  cases a with
  | d a =>
    cases b with
    | d b => exact .d (.tup hs (VRs.dp (ds := [a, b]) g))
    | m _ => exact .t hs g
    | t _ => exact .t hs g
    | f _ => exact .t hs g
    | k _ => exact .t hs g
  | m _ => exact .t hs g
  | t _ => exact .t hs g
  | f _ => exact .t hs g
  | k _ => exact .t hs g
theorem tw_pair (a b : W) : TW (pairW a b) [a, b] := by
  cases a with
  | d a =>
    cases b with
    | d b => exact .d [a, b]
    | m _ => exact .t _
    | t _ => exact .t _
    | f _ => exact .t _
    | k _ => exact .t _
  | m _ => exact .t _
  | t _ => exact .t _
  | f _ => exact .t _
  | k _ => exact .t _
theorem ai_enum (h : AXA K ta Γ μ fun ws μ1 => ∃ w zs, ws = [w] ∧ LW μ1 w zs ∧ R (zs.mapIdx fun i z => pairW (.d (.int (i : Nat))) z) (fun μ' => LW μ' w zs) μ1) : AI K (iEnum K ta) Γ μ R := fun A M σ H c Q q =>
  h A M σ H c _ fun M1 H1 vs ws μ1 mo1 e1 r1 ⟨w, zs, hw, hl, hR⟩ => by
    subst hw
    cases r1 with
    | cons ra rn =>
      cases rn
      obtain ⟨a, us, rfl, hs, rs⟩ := hl.get mo1 ra
      refine ⟨a, us, rfl, hs, q M1 H1 _ _ _ μ1 mo1 e1 (fun A' M' H' μ' mo' ex pr hS i => ?_) hR⟩
      obtain ⟨a2, us2, ea, hu, ru⟩ := LW.get mo' (ra.mono ex pr) hS
      cases ea
      refine ⟨fun w' hw => ?_, fun hn => ⟨us2, hu, ?_⟩⟩
      · rw [List.getElem?_mapIdx] at hw
        cases hz : zs[i]? with
        | none => rw [hz] at hw; cases hw
        | some z =>
          rw [hz] at hw
          cases hw
          obtain ⟨y, hy, ry⟩ := ru.getW hz
          refine ⟨⟨us2, y, hu, hy⟩, fun x H2 hx => ?_⟩
          obtain ⟨T, x2, rfl, hT, rfl, hx⟩ := hx
          have : y = x2 := Option.some.inj (hy.symm.trans (hx us2 hu))
          subst this
          exact ⟨Ex.new hT, vr_pair mo' hT (.d (.int _)) ry⟩
      · rw [List.getElem?_mapIdx] at hn
        have : zs[i]? = none := by
          cases hz : zs[i]? with
          | none => rfl
          | some z => rw [hz] at hn; cases hn
        rw [ru.length]
        exact List.getElem?_eq_none_iff.mp this
theorem ai_zip (h : AXA K ta Γ μ fun ws μ1 => ∃ w1 w2 xs ys, ws = [w1, w2] ∧ LW μ1 w1 xs ∧ LW μ1 w2 ys ∧ R (List.zipWith pairW xs ys) (fun μ' => LW μ' w1 xs ∧ LW μ' w2 ys) μ1) : AI K (iZip K ta) Γ μ R := fun A M σ H c Q q =>
  h A M σ H c _ fun M1 H1 vs ws μ1 mo1 e1 r1 ⟨w1, w2, zs, zs2, hw, hl1, hl2, hR⟩ => by
    subst hw
    cases r1 with
    | cons ra rn =>
      cases rn with
      | cons rb rn =>
        cases rn
        obtain ⟨a, us, rfl, hs, rs⟩ := hl1.get mo1 ra
        obtain ⟨b, us2, rfl, hs2, rs2⟩ := hl2.get mo1 rb
        refine ⟨a, b, us, us2, rfl, hs, hs2, q M1 H1 _ _ _ μ1 mo1 e1 (fun A' M' H' μ' mo' ex pr hS i => ?_) hR⟩
        obtain ⟨a2, u1, ea, hu, ru⟩ := LW.get mo' (ra.mono ex pr) hS.1
        cases ea
        obtain ⟨b2, u2, eb, hu2, ru2⟩ := LW.get mo' (rb.mono ex pr) hS.2
        cases eb
        refine ⟨fun w' hw => ?_, fun hn => ⟨u1, u2, hu, hu2, ?_⟩⟩
        · rw [List.getElem?_zipWith] at hw
          cases hz : zs[i]? with
          | none => rw [hz] at hw; cases hw
          | some z =>
            cases hz2 : zs2[i]? with
            | none => rw [hz, hz2] at hw; cases hw
            | some z2 =>
              rw [hz, hz2] at hw
              cases hw
              obtain ⟨y, hy, ry⟩ := ru.getW hz
              obtain ⟨y2, hy2, ry2⟩ := ru2.getW hz2
              refine ⟨⟨u1, u2, y, y2, hu, hu2, hy, hy2⟩, fun x H2 hx => ?_⟩
              obtain ⟨T, x2, x3, rfl, hT, rfl, hx, hx3⟩ := hx
              have : y = x2 := Option.some.inj (hy.symm.trans (hx u1 hu))
              subst this
              have : y2 = x3 := Option.some.inj (hy2.symm.trans (hx3 u2 hu2))
              subst this
              exact ⟨Ex.new hT, vr_pair mo' hT ry ry2⟩
        · rw [List.getElem?_zipWith] at hn
          rw [ru.length, ru2.length]
          by_cases h1 : i < zs.length
          · by_cases h2 : i < zs2.length
            · rw [List.getElem?_eq_getElem h1, List.getElem?_eq_getElem h2] at hn
              cases hn
            · exact .inr (by omega)
          · exact .inl (by omega)
theorem ai_rev (h : AXA K ta Γ μ fun ws μ1 => ∃ w zs, ws = [w] ∧ LW μ1 w zs ∧ R zs.reverse (fun μ' => LW μ' w zs) μ1) : AI K (iRev K ta) Γ μ R := fun A M σ H c Q q =>
  h A M σ H c _ fun M1 H1 vs ws μ1 mo1 e1 r1 ⟨w, zs, hw, hl, hR⟩ => by
    subst hw
    cases r1 with
    | cons ra rn =>
      cases rn
      obtain ⟨a, us, rfl, hs, rs⟩ := hl.get mo1 ra
      refine ⟨a, us, rfl, hs, q M1 H1 _ _ _ μ1 mo1 e1 (fun A' M' H' μ' mo' ex pr hS i => ?_) hR⟩
      obtain ⟨a2, us2, ea, hu, ru⟩ := LW.get mo' (ra.mono ex pr) hS
      cases ea
      have hl2 : us.length = zs.length := rs.length
      refine ⟨fun w' hw => ?_, fun hn => ?_⟩
      · have hi : i < zs.length := by
          have := (List.getElem?_eq_some_iff.mp hw).1
          simpa using this
        rw [List.getElem?_reverse hi] at hw
        obtain ⟨y, hy, ry⟩ := ru.getW hw
        refine ⟨⟨by omega, us2, y, hu, by rw [hl2]; exact hy⟩, fun x H2 hx => ?_⟩
        obtain ⟨rfl, hx⟩ := hx
        have hx2 := hx us2 hu
        rw [hl2] at hx2
        have : y = x := Option.some.inj (hy.symm.trans hx2)
        subst this
        exact ⟨Ex.refl _, ry⟩
      · have := List.getElem?_eq_none_iff.mp hn
        show us.length ≤ i
        rw [hl2]
        simpa using this
end
/-! ### loops -/
theorem take_snoc {α : Type} {ns : List α} {i : Nat} {x : α} (h : ns[i]? = some x) : ns.take (i + 1) = ns.take i ++ [x] := by
  rw [List.take_add_one, h]
  rfl
theorem split_at {α : Type} {ns : List α} {i : Nat} {x : α} (h : ns[i]? = some x) : ns = ns.take i ++ x :: ns.drop (i + 1) := by
  obtain ⟨hi, e⟩ := List.getElem?_eq_some_iff.mp h
  rw [← e, ← List.drop_eq_getElem_cons hi, List.take_append_drop]
theorem as_for {K : PySem.W.Frag} {Γ : G} {μ : Mu} {wi : TI} {g : TG} {tb : TS} {D : AEn} {α : Type} (f : α → W) (ns : List α) (I : List α → G → Mu → Prop)
    (h : AI K wi Γ μ fun items S μ1 => items = ns.map f ∧ (∀ pre Γ' μ', I pre Γ' μ' → S μ') ∧ I [] Γ μ1)
    (hs : ∀ pre x post Γ' μ', ns = pre ++ x :: post → I pre Γ' μ' → AG K g (f x) Γ' μ' fun Γ2 μ2 => AS K tb { D with nx := I (pre ++ [x]), ct := I (pre ++ [x]), bk := D.nx } Γ2 μ2)
    (hd : ∀ Γ' μ', I ns Γ' μ' → D.nx Γ' μ') : AS K (tFor wi g tb) D Γ μ := fun A M σ H cn E hE =>
  h A M σ H cn _ fun M1 H1 J items S μ1 mo1 e1 hJ ⟨hi, hS, h0⟩ => by
    subst hi
    refine ⟨fun i m σ' H' => ∃ M' Γ' μ', Cn K A M' σ' H' Γ' μ' ∧ Eff A M1 μ1 H1 M' μ' H' ∧ i ≤ ns.length ∧ m = ns.length - i ∧ I (ns.take i) Γ' μ',
      ⟨ns.length, M1, Γ, μ1, cn.eff e1 mo1, Eff.refl, Nat.zero_le _, rfl, h0⟩, fun i m σ' H' hW => ?_⟩
    obtain ⟨M', Γ', μ', c', e', hi, rfl, hI⟩ := hW
    have hit := hJ A M' H' μ' c'.mo e'.ex e'.pre (hS _ _ _ hI) i
    by_cases hlt : i < ns.length
    · have hx : ns[i]? = some ns[i] := List.getElem?_eq_getElem hlt
      have hw : (ns.map f)[i]? = some (f ns[i]) := by rw [List.getElem?_map, hx]; rfl
      obtain ⟨hgo, hy⟩ := hit.1 _ hw
      refine .inr ⟨hgo, fun σ2 H2 => ∃ M2 Γ2 μ2, Cn K A M2 σ2 H2 Γ2 μ2 ∧ Eff A M1 μ1 H1 M2 μ2 H2 ∧ I (ns.take (i + 1)) Γ2 μ2,
        fun σ2 H2 ⟨M2, Γ2, μ2, c2, e2, hI2⟩ => ⟨ns.length - (i + 1), by omega, M2, Γ2, μ2, c2, e2, hlt, rfl, hI2⟩, fun x H2 hyld => ?_⟩
      obtain ⟨ex2, rx⟩ := hy x H2 hyld
      have e2' : Eff A M' μ' H' M' μ' H2 := Eff.of_ex ex2
      refine hs (ns.take i) ns[i] (ns.drop (i + 1)) Γ' μ' (split_at hx) hI A M' σ' H2 x (c'.ex ex2) rx _ fun M3 σ3 H3 Γ3 μ3 c3 e3 h3 => ?_
      have e13 : Eff A M1 μ1 H1 M3 μ3 H3 := (e'.trans e2').trans e3
      refine h3 A M3 σ3 H3 c3 _ ⟨fun M4 σ4 H4 Γ4 μ4 c4 e4 h4 => ?_, fun M4 H4 v w μ4 m4 e4 r4 h4 => hE.rt M4 H4 v w μ4 m4 ((e1.trans e13).trans e4) r4 h4, fun M4 σ4 H4 Γ4 μ4 c4 e4 h4 => hE.nx M4 σ4 H4 Γ4 μ4 c4 ((e1.trans e13).trans e4) h4, fun M4 σ4 H4 Γ4 μ4 c4 e4 h4 => ?_, hE.xx.after (e1.trans e13)⟩
      · refine ⟨M4, Γ4, μ4, c4, e13.trans e4, ?_⟩
        rw [take_snoc hx]
        exact h4
      · refine ⟨M4, Γ4, μ4, c4, e13.trans e4, ?_⟩
        rw [take_snoc hx]
        exact h4
    · have hei : i = ns.length := by omega
      subst hei
      refine .inl ⟨hit.2 (by simp), ?_⟩
      rw [List.take_length] at hI
      exact hE.nx M' σ' H' Γ' μ' c' (e1.trans e') (hd Γ' μ' hI)
theorem as_while {K : PySem.W.Frag} {Γ : G} {μ : Mu} {c : TT} {tb : TS} {D : AEn} (I : Nat → G → Mu → Prop) (m0 : Nat) (h0 : I m0 Γ μ)
    (hs : ∀ m Γ' μ', I m Γ' μ' → AXT K c Γ' μ' fun b μ1 => if b = true then AS K tb { D with nx := fun Γ2 μ2 => ∃ m', m' < m ∧ I m' Γ2 μ2, ct := fun Γ2 μ2 => ∃ m', m' < m ∧ I m' Γ2 μ2, bk := D.nx } Γ' μ1 else D.nx Γ' μ1) : AS K (tWhile c tb) D Γ μ := fun A M σ H cn E hE => by
  refine ⟨fun m σ' H' => ∃ M' Γ' μ', Cn K A M' σ' H' Γ' μ' ∧ Eff A M μ H M' μ' H' ∧ I m Γ' μ', ⟨m0, M, Γ, μ, cn, Eff.refl, h0⟩, fun m σ' H' ⟨M', Γ', μ', c', e', hI⟩ => ?_⟩
  refine hs m Γ' μ' hI A M' σ' H' c' _ fun M1 H1 b μ1 mo1 e1 h1 => ?_
  cases b with
  | true =>
    refine ⟨fun σ2 H2 => ∃ m', m' < m ∧ ∃ M2 Γ2 μ2, Cn K A M2 σ2 H2 Γ2 μ2 ∧ Eff A M μ H M2 μ2 H2 ∧ I m' Γ2 μ2, fun σ2 H2 h => h, ?_⟩
    have e2 := e'.trans e1
    have hb : AS K tb { D with nx := fun Γ2 μ2 => ∃ m', m' < m ∧ I m' Γ2 μ2, ct := fun Γ2 μ2 => ∃ m', m' < m ∧ I m' Γ2 μ2, bk := D.nx } Γ' μ1 := h1
    refine hb A M1 σ' H1 (c'.eff e1 mo1) _ ⟨fun M4 σ4 H4 Γ4 μ4 c4 e4 ⟨m', hm, h4⟩ => ⟨m', hm, M4, Γ4, μ4, c4, e2.trans e4, h4⟩, fun M4 H4 v w μ4 m4 e4 r4 h4 => hE.rt M4 H4 v w μ4 m4 (e2.trans e4) r4 h4, fun M4 σ4 H4 Γ4 μ4 c4 e4 h4 => hE.nx M4 σ4 H4 Γ4 μ4 c4 (e2.trans e4) h4, fun M4 σ4 H4 Γ4 μ4 c4 e4 ⟨m', hm, h4⟩ => ⟨m', hm, M4, Γ4, μ4, c4, e2.trans e4, h4⟩, hE.xx.after e2⟩
  | false => exact hE.nx M1 σ' H1 Γ' μ1 (c'.eff e1 mo1) (e'.trans e1) h1
/-! ### comprehensions -/
def wipeG (Γ : G) (vs : List Nat) : G := vs.foldr (fun v g => g.set v none) Γ
def WipeOk (g : TG) (vs : List Nat) : Prop := ∀ x σ H Q, g x (wipe σ vs) H Q → g x (wipe σ vs) H fun σ' H' => wipe σ' vs = wipe σ vs ∧ Q σ' H'
theorem wipe_get (σ : L2.St) : ∀ (vs : List Nat) (i : Nat), (wipe σ vs)[i]? = if i ∈ vs then (if i < σ.length then some none else none) else σ[i]?
  | [], i => by simp [wipe]
  | v :: vs, i => by
    unfold wipe
    rw [List.getElem?_set, wipe_length, wipe_get σ vs i]
    by_cases h : v = i
    · subst h
      simp
    · have h2 : ¬ i = v := fun z => h z.symm
      simp [h, h2]
theorem wipe_set {σ : L2.St} {vs : List Nat} {σ' : L2.St} (hl : σ'.length = σ.length) (h : ∀ i, i ∉ vs → σ'[i]? = (wipe σ vs)[i]?) : wipe σ' vs = wipe σ vs := by
  apply List.ext_getElem?
  intro i
  rw [wipe_get σ' vs i, hl]
  by_cases hi : i ∈ vs
  · rw [if_pos hi, wipe_get, if_pos hi]
  · rw [if_neg hi, h i hi]
theorem wk_name {j : Nat} {vs : List Nat} (hj : j ∈ vs) : WipeOk (gName j) vs := fun x σ H Q q => ⟨wipe_set (by rw [List.length_set, wipe_length]) (fun i hi => by
  rw [List.getElem?_set, if_neg fun z => hi (by rw [← z]; exact hj)]), q⟩
/-- the same for a list of targets, from any σ that differs at vs alone -/
def WipeGs (gs : TGs) (vs : List Nat) : Prop := ∀ xs σ σ0 H Q, σ.length = σ0.length → (∀ i, i ∉ vs → σ[i]? = (wipe σ0 vs)[i]?) → gs xs σ H Q → gs xs σ H fun σ' H' => wipe σ' vs = wipe σ0 vs ∧ Q σ' H'
theorem wks_nil {vs : List Nat} : WipeGs gNil vs := fun xs σ σ0 H Q hl hs ⟨e, q⟩ => ⟨e, wipe_set hl hs, q⟩
theorem wks_cons {j : Nat} {gs : TGs} {vs : List Nat} (hj : j ∈ vs) (h : WipeGs gs vs) : WipeGs (gCons (gName j) gs) vs := fun xs σ σ0 H Q hl hs ⟨v, r, e, q⟩ => ⟨v, r, e, h r _ σ0 H Q (by rw [List.length_set]; exact hl) (fun i hi => by
  rw [List.getElem?_set, if_neg fun z => hi (by rw [← z]; exact hj)]
  exact hs i hi) q⟩
theorem wk_tup {K : PySem.W.Frag} {n : Nat} {gs : TGs} {vs : List Nat} (h : WipeGs gs vs) : WipeOk (gTup K n gs) vs := fun x σ H Q ⟨a, xs, e, hs, hl, q⟩ => ⟨a, xs, e, hs, hl, h xs _ σ H Q (wipe_length _ _) (fun _ _ => rfl) q⟩
def delH (H : Hp) (a : Addr) : Hp := fun b => if b = a then none else H b
theorem tabS_del {H : Hp} {P p : Addr} {q : PySem.Str} {o : HO} (t : LamX.TabS H P q) (hp : H p = some o) (n : NoTb o) : LamX.TabS (delH H p) P q := by
  have t' := tabS_upd (o' := .lst []) t hp n
  obtain ⟨ps, e1, e2, e3⟩ := t'
  have dn : ∀ {a : Addr} {u : HO}, upd H p (.lst []) a = some u → u ≠ .lst [] → delH H p a = some u := fun {a u} z w => by
    unfold delH
    by_cases e : a = p
    · subst e
      rw [upd_same] at z
      exact absurd (Option.some.inj z).symm w
    · rw [if_neg e]
      rwa [upd_ne e] at z
  exact ⟨ps, dn e1 (by intro z; cases z), e2, fun pos cv hc => let ⟨c, z1, z2⟩ := e3 pos cv hc; ⟨c, z1, dn z2 (by intro z; unfold LamX.CodeO at z; cases z)⟩⟩
theorem delH_upd {H : Hp} {a : Addr} {o : HO} (h : H a = some o) : upd (delH H a) a o = H := by
  funext b
  unfold upd delH
  by_cases e : b = a
  · subst e; rw [if_pos rfl, h]
  · rw [if_neg e, if_neg e]
def addA (A : Addr → Prop) (p : Addr) : Addr → Prop := fun a => A a ∨ a = p
theorem vw_add {A : Addr → Prop} {M : List Addr} {μ : Mu} {H : Hp} {p : Addr} : vw (addA A p) M μ H = vw A M μ (delH H p) := by
  funext b
  unfold vw delH
  have hh : hid (addA A p) M μ b ↔ hid A M μ b ∨ b = p := by
    constructor
    · rintro ((z | z) | z)
      · exact .inl (.inl z)
      · exact .inr z
      · exact .inl (.inr z)
    · rintro ((z | z) | z)
      · exact .inl (.inl z)
      · exact .inr z
      · exact .inl (.inr z)
  by_cases e : b = p
  · subst e
    rw [if_pos (hh.mpr (.inr rfl)), if_pos rfl]
    split <;> rfl
  · rw [if_neg e]
    by_cases hb : hid A M μ b
    · rw [if_pos hb, if_pos (hh.mpr (.inl hb))]
    · rw [if_neg hb, if_neg fun z => (hh.mp z).elim hb e]
theorem MOk.add {K : PySem.W.Frag} {A : Addr → Prop} {M : List Addr} {μ : Mu} {H : Hp} {p : Addr} {o : HO} (h : MOk K A M H μ) (hp : H p = none) (no : NoTb o := by first | exact noTb_lst | exact noTb_dK) : MOk K (addA A p) M (upd H p o) μ := by
  have np : p ∉ M := fun m => h.al p m hp
  have nn : ∀ a, H a ≠ none → upd H p o a ≠ none := fun a hn => by
    rw [upd_ne fun z => hn (by rw [z]; exact hp)]
    exact hn
  have ed : delH (upd H p o) p = H := by
    funext b
    unfold delH upd
    by_cases e : b = p
    · subst e; rw [if_pos rfl, hp]
    · rw [if_neg e, if_neg e]
  refine ⟨h.len, h.nd, fun a m z => z.elim (h.nA a m) fun z => np (by rw [← z]; exact m), fun a m => nn a (h.al a m), fun a m => m.elim (fun m => nn a (h.aA a m)) fun z => (by subst z; rw [upd_same]; intro q; cases q), h.tb.ex (Ex.new hp), fun a u m z => (by
    by_cases w : a = p
    · subst w; rw [upd_same] at z; cases z; exact no
    · rw [upd_ne w] at z; exact h.aT a u (m.imp (fun m => m.resolve_right w) id) z), fun k a c h1 h2 => ?_⟩
  obtain ⟨u, q1, q2⟩ := h.ct k a c h1 h2
  refine ⟨u, by rw [upd_ne (ne_of_none q1 hp)]; exact q1, ?_⟩
  rw [vw_add, ed]
  exact q2
theorem MOk.del {K : PySem.W.Frag} {A : Addr → Prop} {M : List Addr} {μ : Mu} {H : Hp} {p : Addr} (h : MOk K (addA A p) M H μ) (hA : ¬ A p) {op : HO} (hop : H p = some op) (no : NoTb op) : MOk K A M (delH H p) μ := by
  have np : p ∉ M := fun m => h.nA p m (.inr rfl)
  have dn : ∀ a, a ≠ p → delH H p a = H a := fun a e => by unfold delH; rw [if_neg e]
  refine ⟨h.len, h.nd, fun a m z => h.nA a m (.inl z), fun a m => by rw [dn a fun z => np (by rw [← z]; exact m)]; exact h.al a m, fun a z => by rw [dn a fun q => hA (by rw [← q]; exact z)]; exact h.aA a (.inl z), fun P q hP => tabS_del (h.tb P q hP) hop no, fun a u m z => h.aT a u (m.imp .inl id) (by rw [dn a fun q => m.elim (fun m => hA (by rw [← q]; exact m)) fun m => np (by rw [← q]; exact m)] at z; exact z), fun k a c h1 h2 => ?_⟩
  obtain ⟨u, q1, q2⟩ := h.ct k a c h1 h2
  refine ⟨u, by rw [dn a fun z => np (by rw [← z]; exact List.mem_of_getElem? h1)]; exact q1, ?_⟩
  rw [← vw_add]
  exact q2
theorem Eff.del {A : Addr → Prop} {M M' : List Addr} {μ μ' : Mu} {H H' : Hp} {p : Addr} {o : HO} (hp : H p = none) (h : Eff (addA A p) M μ (upd H p o) M' μ' H') : Eff A M μ H M' μ' (delH H' p) := by
  have ed : delH (upd H p o) p = H := by
    funext b
    unfold delH upd
    by_cases e : b = p
    · subst e; rw [if_pos rfl, hp]
    · rw [if_neg e, if_neg e]
  refine ⟨h.pre, fun a u ha e => ?_, ?_⟩
  · have ne : a ≠ p := ne_of_none e hp
    unfold delH
    rw [if_neg ne]
    exact h.own a u (.inl ha) (by rw [upd_ne ne]; exact e)
  · have := h.ex
    rw [vw_add, vw_add, ed] at this
    exact this
theorem delH_upd2 {H : Hp} {p : Addr} {o : HO} : delH (upd H p o) p = delH H p := by
  funext b
  unfold delH upd
  by_cases e : b = p
  · rw [if_pos e, if_pos e]
  · rw [if_neg e, if_neg e, if_neg e]
theorem delH_none {H : Hp} {p : Addr} (hp : H p = none) : delH H p = H := by
  funext b
  unfold delH
  by_cases e : b = p
  · subst e; rw [if_pos rfl, hp]
  · rw [if_neg e]
theorem Eff.del2 {A : Addr → Prop} {M M' : List Addr} {μ μ' : Mu} {H H' : Hp} {p : Addr} (h : Eff (addA A p) M μ H M' μ' H') : Eff A M μ (delH H p) M' μ' (delH H' p) := by
  refine ⟨h.pre, fun a u ha e => ?_, by have := h.ex; rw [vw_add, vw_add] at this; exact this⟩
  unfold delH at e ⊢
  by_cases ne : a = p
  · rw [if_pos ne] at e
    cases e
  · rw [if_neg ne] at e ⊢
    exact h.own a u (.inl ha) e
theorem GR.wipeG {K : PySem.W.Frag} {H : Hp} {M : List Addr} {σ : L2.St} {Γ : G} (h : GR K H M σ Γ) (vs : List Nat) : GR K H M (L2.wipe σ vs) (Pd.wipeG Γ vs) := h.wipe vs
theorem MOk.wr {K : PySem.W.Frag} {A : Addr → Prop} {M : List Addr} {μ : Mu} {H : Hp} {p : Addr} {o : HO} (h : MOk K (addA A p) M H μ) {op : HO} (hop : H p = some op) (nop : NoTb op) (no : NoTb o := by first | exact noTb_lst | exact noTb_dK) : MOk K (addA A p) M (upd H p o) μ := by
  have np : p ∉ M := fun m => h.nA p m (.inr rfl)
  have dn : ∀ a, H a ≠ none → upd H p o a ≠ none := fun a hn => by
    by_cases e : a = p
    · subst e; rw [upd_same]; intro z; cases z
    · rw [upd_ne e]; exact hn
  refine ⟨h.len, h.nd, h.nA, fun a m => dn a (h.al a m), fun a m => dn a (h.aA a m), h.tb.upd hop nop, fun a u m z => (by
    by_cases e : a = p
    · subst e; rw [upd_same] at z; cases z; exact no
    · rw [upd_ne e] at z; exact h.aT a u m z), fun k a c k1 k2 => ?_⟩
  obtain ⟨u, q1, q2⟩ := h.ct k a c k1 k2
  refine ⟨u, ?_, by rw [vw_add, delH_upd2, ← vw_add]; exact q2⟩
  rw [upd_ne fun z => np (by rw [← z]; exact List.mem_of_getElem? k1)]
  exact q1
/-- the state within a comprehension whose list stands at p -/
def LcI (K : PySem.W.Frag) (A : Addr → Prop) (M1 : List Addr) (μ1 : Mu) (H1 : Hp) (p : Addr) (P : List W → Mu → Prop) (H' : Hp) : Prop :=
  ∃ M' μ' us acc, H' p = some (.lst us) ∧ MOk K (addA A p) M' H' μ' ∧ Eff A M1 μ1 H1 M' μ' (delH H' p) ∧ VRs K (vw (addA A p) M' μ' H') M' us acc ∧ P acc μ'
theorem ax_lc {K : PySem.W.Frag} {Γ : G} {μ : Mu} {wi : TI} {g : TG} {tt : TT} {te : TE} {vs : List Nat} {R : W → Mu → Prop} {α : Type} (f : α → W) (ns : List α) (I : List α → List W → Mu → Prop) (hz : ns.length ≤ sizeLine) (hw : WipeOk g vs)
    (h : AI K wi Γ μ fun items S μ1 => items = ns.map f ∧ (∀ pre acc μ', I pre acc μ' → S μ') ∧ I [] [] μ1)
    (hs : ∀ pre x post acc μ', ns = pre ++ x :: post → acc.length ≤ pre.length → I pre acc μ' → AG K g (f x) (wipeG Γ vs) μ' fun Γ2 μ2 => AXT K tt Γ2 μ2 fun b μ3 => if b = true then AX K te Γ2 μ3 fun w μ4 => I (pre ++ [x]) (acc ++ [w]) μ4 else I (pre ++ [x]) acc μ3)
    (hd : ∀ acc μ', I ns acc μ' → NL acc μ' R) : AX K (tLc wi g tt te vs) Γ μ R := fun A M σ H cn Q q =>
  h A M σ H cn _ fun M1 H1 J items S μ1 mo1 e1 hJ ⟨hi, hS, h0⟩ => by
    subst hi
    intro p hp
    have hA : ¬ A p := fun z => mo1.aA p z hp
    refine ⟨fun i m H' => i ≤ ns.length ∧ m = ns.length - i ∧ LcI K A M1 μ1 H1 p (fun acc μ' => acc.length ≤ i ∧ I (ns.take i) acc μ') H',
      ⟨ns.length, Nat.zero_le _, rfl, M1, μ1, [], [], upd_same, mo1.add hp, by rw [delH_upd2, delH_none hp]; exact Eff.refl, .nil, Nat.le_refl _, h0⟩, fun i m H' hW => ?_⟩
    obtain ⟨hi, rfl, M', μ', us, acc, hu, mo', e', ru, hal, hI⟩ := hW
    have hex : Ex (vw A M1 μ1 H1) (vw (addA A p) M' μ' H') := by
      rw [vw_add]
      exact e'.ex
    have hit := hJ (addA A p) M' H' μ' mo' hex e'.pre (hS _ _ _ hI) i
    by_cases hlt : i < ns.length
    · have hx : ns[i]? = some ns[i] := List.getElem?_eq_getElem hlt
      have hw' : (ns.map f)[i]? = some (f ns[i]) := by rw [List.getElem?_map, hx]; rfl
      obtain ⟨hgo, hy⟩ := hit.1 _ hw'
      refine .inr ⟨hgo, LcI K A M1 μ1 H1 p (fun acc μ' => acc.length ≤ i + 1 ∧ I (ns.take (i + 1)) acc μ'), fun H2 h2 => ⟨ns.length - (i + 1), by omega, hlt, rfl, h2⟩, fun x H2 hyld => ?_⟩
      obtain ⟨ex2, rx⟩ := hy x H2 hyld
      have eH2 : Eff (addA A p) M' μ' H' M' μ' H2 := Eff.of_ex ex2
      have c0 : GR K (vw A M1 μ1 H1) M1 (wipe σ vs) (wipeG Γ vs) := (cn.gr.mono e1.ex e1.pre).wipeG vs
      have c2 : Cn K (addA A p) M' (wipe σ vs) H2 (wipeG Γ vs) μ' := ⟨mo'.ex ex2, (c0.mono hex e'.pre).mono (vw_ex ex2) (Pre.refl _)⟩
      have hlen : (ns.take i).length = i := by rw [List.length_take]; omega
      refine hw x σ H2 _ ?_
      refine hs (ns.take i) ns[i] (ns.drop (i + 1)) acc μ' (split_at hx) (by omega) hI (addA A p) M' (wipe σ vs) H2 x c2 rx _ fun M3 σ3 H3 Γ3 μ3 c3 e3 h3 => ?_
      refine h3 (addA A p) M3 σ3 H3 c3 _ fun M4 H4 b μ4 mo4 e4 h4 => ?_
      have eA : Eff (addA A p) M' μ' H' M4 μ4 H4 := (eH2.trans e3).trans e4
      have hu4 : H4 p = some (.lst us) := eA.own p _ (.inr rfl) hu
      cases b with
      | false =>
        refine ⟨M4, μ4, us, acc, hu4, mo4, e'.trans eA.del2, ru.mono eA.ex eA.pre, by omega, ?_⟩
        rw [take_snoc hx]
        exact h4
      | true =>
        refine h4 (addA A p) M4 σ3 H4 (c3.eff e4 mo4) _ fun M5 H5 y w μ5 mo5 e5 r5 h5 => ?_
        have eB : Eff (addA A p) M' μ' H' M5 μ5 H5 := eA.trans e5
        have hu5 : H5 p = some (.lst us) := eB.own p _ (.inr rfl) hu
        have rus : VRs K (vw (addA A p) M5 μ5 H5) M5 (us ++ [y]) (acc ++ [w]) := (ru.mono eB.ex eB.pre).snoc r5
        refine ⟨us, hu5, ?_, M5, μ5, us ++ [y], acc ++ [w], upd_same, mo5.wr hu5 noTb_lst, ?_, ?_, by simp; omega, ?_⟩
        · rw [ru.length]
          omega
        · rw [delH_upd2]
          exact e'.trans eB.del2
        · rw [vw_add, delH_upd2, ← vw_add]
          exact rus
        · rw [take_snoc hx]
          exact h5
    · have hei : i = ns.length := by omega
      subst hei
      refine .inl ⟨hit.2 (by simp), ?_⟩
      rw [List.take_length] at hI
      have md := mo'.del hA hu noTb_lst
      have rd : VRs K (vw A M' μ' (delH H' p)) M' us acc := by
        rw [← vw_add]
        exact ru
      obtain ⟨M2, μ2, w, m2, e2, r2, hR⟩ := (hd acc μ' hI).use md rd (show delH H' p p = none from if_pos rfl)
      rw [delH_upd hu] at m2 e2 r2
      exact q M2 H' _ w μ2 m2 ((e1.trans e').trans e2) r2 hR
/-! ### a cell that changes no more -/
theorem hid_dead {A : Addr → Prop} {M : List Addr} {μ : Mu} {k : Nat} {a : Addr} (h : hid A M (μ.set k none) a) : hid A M μ a := by
  rcases h with z | ⟨j, c, h1, h2⟩
  · exact .inl z
  · by_cases e : k = j
    · subst e
      rw [List.getElem?_set, if_pos rfl] at h2
      split at h2 <;> cases h2
    · rw [List.getElem?_set, if_neg e] at h2
      exact .inr ⟨j, c, h1, h2⟩
theorem vw_dead {A : Addr → Prop} {M : List Addr} {μ : Mu} {H : Hp} {k : Nat} : Ex (vw A M μ H) (vw A M (μ.set k none) H) := fun a o h => vw_of (fun z => (vw_some h).1 (hid_dead z)) (vw_some h).2 (vw_nt h)
theorem MOk.dead {K : PySem.W.Frag} {A : Addr → Prop} {M : List Addr} {μ : Mu} {H : Hp} (h : MOk K A M H μ) (k : Nat) : MOk K A M H (μ.set k none) := by
  refine ⟨by rw [List.length_set]; exact h.len, h.nd, h.nA, h.al, h.aA, h.tb, h.aT, fun j a c h1 h2 => ?_⟩
  by_cases e : k = j
  · subst e
    rw [List.getElem?_set, if_pos rfl] at h2
    split at h2 <;> cases h2
  · rw [List.getElem?_set, if_neg e] at h2
    obtain ⟨o, q1, q2⟩ := h.ct j a c h1 h2
    exact ⟨o, q1, q2.mono vw_dead (Pre.refl _)⟩
theorem Eff.dead {A : Addr → Prop} {M : List Addr} {μ : Mu} {H : Hp} (k : Nat) : Eff A M μ H M (μ.set k none) H := ⟨Pre.refl _, fun _ _ _ h => h, vw_dead⟩
theorem vr_dead {K : PySem.W.Frag} {A : Addr → Prop} {M : List Addr} {μ : Mu} {H : Hp} {k : Nat} {xs : List PyData} {v : V} (mo : MOk K A M H μ) (r : VR K (vw A M μ H) M v (.m k)) (hk : μ[k]? = some (some (.lst (xs.map W.d)))) : VR K (vw A M (μ.set k none) H) M v (.d (.list xs)) := by
  obtain ⟨a, vs, rfl, hm, e, ru⟩ := cell_get mo r hk
  refine .d (.lst (vw_of (fun z => ?_) e) (dpa_mono vw_dead ru.dp))
  rcases z with z | ⟨j, c, h1, h2⟩
  · exact mo.nA a (List.mem_of_getElem? hm) z
  · have hj : k = j := by
      have l1 := List.getElem?_eq_some_iff.mp hm
      have l2 := List.getElem?_eq_some_iff.mp h1
      exact (List.getElem_inj mo.nd).mp (l1.2.trans l2.2.symm)
    subst hj
    rw [List.getElem?_set, if_pos rfl] at h2
    split at h2 <;> cases h2
/-- the name is read and its list changes no more -/
theorem ax_varF {K : PySem.W.Frag} {Γ : G} {μ : Mu} {R : W → Mu → Prop} {i k : Nat} {xs : List PyData} (h : Γ[i]? = some (some (.m k))) (hk : μ[k]? = some (some (.lst (xs.map W.d)))) (q : R (.d (.list xs)) (μ.set k none)) : AX K (tVar i) Γ μ R := fun A M σ H c Q hq => by
  obtain ⟨v, e, r⟩ := c.gr.2 i _ h
  exact ⟨v, e, hq M H v _ _ (c.mo.dead k) (Eff.dead k) (vr_dead c.mo r hk) q⟩
/-- the same as a step between statements -/
theorem as_freeze {K : PySem.W.Frag} {Γ : G} {μ : Mu} {t : TS} {D : AEn} (i k : Nat) (xs : List PyData) (h : Γ[i]? = some (some (.m k))) (hk : μ[k]? = some (some (.lst (xs.map W.d)))) (q : AS K t D (Γ.set i (some (.d (.list xs)))) (μ.set k none)) : AS K t D Γ μ := fun A M σ H c E hE => by
  obtain ⟨v, e, r⟩ := c.gr.2 i _ h
  have g1 : GR K (vw A M (μ.set k none) H) M (σ.set i (some v)) (Γ.set i (some (.d (.list xs)))) := (c.gr.mono vw_dead (Pre.refl _)).set (vr_dead c.mo r hk)
  have es : σ.set i (some v) = σ := by
    apply List.ext_getElem?
    intro j
    rw [List.getElem?_set]
    by_cases hj : i = j
    · subst hj
      rw [if_pos rfl, if_pos (List.getElem?_eq_some_iff.mp e).1, e]
    · rw [if_neg hj]
  rw [es] at g1
  exact q A M σ H ⟨c.mo.dead k, g1⟩ E (hE.after (Eff.dead k))
/-- a name is forgotten -/
theorem as_forget {K : PySem.W.Frag} {Γ : G} {μ : Mu} {t : TS} {D : AEn} (Γ' : G) (hl : Γ'.length = Γ.length) (h : ∀ (i : Nat) w, Γ'[i]? = some (some w) → Γ[i]? = some (some w)) (q : AS K t D Γ' μ) : AS K t D Γ μ := fun A M σ H c E hE =>
  q A M σ H ⟨c.mo, by rw [c.gr.1, hl], fun i w e => c.gr.2 i w (h i w e)⟩ E hE
theorem as_weak {K : PySem.W.Frag} {Γ : G} {μ : Mu} {t : TS} {D D' : AEn} (h : AS K t D Γ μ) (n : ∀ g m, D.nx g m → D'.nx g m) (r : ∀ w m, D.rt w m → D'.rt w m) (b : ∀ g m, D.bk g m → D'.bk g m) (c : ∀ g m, D.ct g m → D'.ct g m) (xe : D.xw = D'.xw := by rfl) (xi : ∀ x w g m, D.xc x w g m → D'.xc x w g m := by exact fun _ _ _ _ z => z) : AS K t D' Γ μ := fun A M σ H cn E hE =>
  h A M σ H cn E ⟨fun _ _ _ _ _ x e z => hE.nx _ _ _ _ _ x e (n _ _ z), fun _ _ _ _ _ x e y z => hE.rt _ _ _ _ _ x e y (r _ _ z), fun _ _ _ _ _ x e z => hE.bk _ _ _ _ _ x e (b _ _ z), fun _ _ _ _ _ x e z => hE.ct _ _ _ _ _ x e (c _ _ z), by
    rw [xe]
    exact fun _ _ _ _ _ _ _ _ _ h1 h2 h3 h4 => hE.xx _ _ _ _ _ _ _ _ _ h1 h2 h3 (xi _ _ _ _ h4)⟩
/-- a statement, what holds behind it, the rest from there -/
theorem as_cut {K : PySem.W.Frag} {Γ : G} {μ : Mu} {t u : TS} {D : AEn} (Mid : G → Mu → Prop) (h : AS K t { D with nx := Mid } Γ μ) (k : ∀ Γ1 μ1, Mid Γ1 μ1 → AS K u D Γ1 μ1) : AS K (tSeq t u) D Γ μ := as_seq (as_weak h k (fun _ _ z => z) (fun _ _ z => z) (fun _ _ z => z))
/-! ### calls -/
abbrev FS := List W → Mu → (W → Mu → Prop) → Prop
def spD (K : PySem.W.Frag) (F : FS) : Sp := fun vs H Q _ => ∃ (A : Addr → Prop) (M : List Addr) (μ : Mu) (ws : List W) (R : W → Mu → Prop), MOk K A M H μ ∧ VRs K (vw A M μ H) M vs ws ∧ F ws μ R ∧
  ∀ M' H' v w μ', MOk K A M' H' μ' → Eff A M μ H M' μ' H' → VR K (vw A M' μ' H') M' v w → R w μ' → Q v H'
section
variable {K : PySem.W.Frag} {Γ : G} {μ : Mu} {R : W → Mu → Prop} {ta tk : TA}
theorem ax_call {F : FS} {E : XK} (h : AXA K ta Γ μ fun ws μ1 => F ws μ1 R) : AX K (tCall (spD K F) [] E ta) Γ μ R := fun A M σ H c Q q =>
  h A M σ H c _ fun M1 H1 vs ws μ1 mo1 e1 r1 h1 => by
    show spD K F (vs ++ []) H1 Q E
    rw [List.append_nil]
    exact ⟨A, M1, μ1, ws, R, mo1, r1, h1, fun M' H' v w μ' mo' e' r' hR => q M' H' v w μ' mo' (e1.trans e') r' hR⟩
/-- keywords: ix tells the parameters' order among positional values and keywords' values -/
def perm {α : Type} (ix : List Nat) (l : List α) : List α := ix.filterMap (l[·]?)
theorem vrs_perm {H : Hp} {M : List Addr} {vs : List V} {ws : List W} (h : VRs K H M vs ws) : ∀ ix : List Nat, VRs K H M (perm ix vs) (perm ix ws)
  | [] => .nil
  | i :: ix => by
    unfold perm
    rw [List.filterMap_cons, List.filterMap_cons]
    cases e : ws[i]? with
    | none =>
      have : vs[i]? = none := by
        rw [List.getElem?_eq_none_iff, h.length]
        exact List.getElem?_eq_none_iff.mp e
      rw [this]
      exact vrs_perm h ix
    | some w =>
      obtain ⟨v, hv, r⟩ := h.getW e
      rw [hv]
      exact .cons r (vrs_perm h ix)
theorem vals_perm {vs : List V} {us : List Value} (h : Vals vs us) : ∀ ix : List Nat, Vals (perm ix vs) (perm ix us)
  | [] => .nil
  | i :: ix => by
    unfold perm
    rw [List.filterMap_cons, List.filterMap_cons]
    cases e : vs[i]? with
    | none =>
      rw [h.none_of e]
      exact vals_perm h ix
    | some v =>
      obtain ⟨u, hu, r⟩ := h.get e
      rw [hu]
      exact .cons r (vals_perm h ix)
theorem ax_callN {F : FS} {E : XK} {n m : Nat} {ix : List Nat} (h : AXA K ta Γ μ fun ws μ1 => ws.length = n ∧ AXA K tk Γ μ1 fun us μ2 => us.length = m ∧ F (perm ix (ws ++ us)) μ2 R) : AX K (tCallN n m (spD K F) (fun vs zs => perm ix (vs ++ zs)) E ta tk) Γ μ R := fun A M σ H c Q q =>
  h A M σ H c _ fun M1 H1 vs ws μ1 mo1 e1 r1 ⟨l1, h1⟩ => h1 A M1 σ H1 (c.eff e1 mo1) _ fun M2 H2 zs us μ2 mo2 e2 r2 ⟨l2, h2⟩ =>
    ⟨r1.length.trans l1, r2.length.trans l2, A, M2, μ2, _, R, mo2, vrs_perm ((r1.mono e2.ex e2.pre).append r2) ix, h2, fun M' H' v w μ' mo' e' r' hR => q M' H' v w μ' mo' ((e1.trans e2).trans e') r' hR⟩
end
def stG (N : List PySem.Str) (ws : List W) : G := ws.map some ++ List.replicate (N.length - ws.length) none
theorem gr_start {K : PySem.W.Frag} {H : Hp} {M : List Addr} {N : List PySem.Str} {vs : List V} {ws : List W} (h : VRs K H M vs ws) : GR K H M (L2.start N vs) (stG N ws) := by
  have hl := h.length
  refine ⟨by simp [L2.start, stG, hl], fun i w e => ?_⟩
  unfold stG at e
  unfold L2.start
  by_cases hi : i < ws.length
  · rw [List.getElem?_append_left (by simpa using hi), List.getElem?_map] at e
    cases hw : ws[i]? with
    | none => rw [hw] at e; cases e
    | some w' =>
      rw [hw] at e
      have : w' = w := by simpa using e
      subst this
      obtain ⟨v, hv, r⟩ := h.getW hw
      exact ⟨v, by rw [List.getElem?_append_left (by simp; omega), List.getElem?_map, hv]; rfl, r⟩
  · rw [List.getElem?_append_right (by simp; omega), List.getElem?_replicate] at e
    split at e <;> cases e
/-- THE RULE for a def -/
theorem fn_ok {P : PySem.Program} {w : PySem.World} {K : PySem.W.Frag} {mg : PySem.Str → Option PySem.Value} {base : PySem.Heap} {x qual : PySem.Str} {st : PySem.Stmt} {f : Addr} {fd : PySem.FuncData} {N ps : List PySem.Str} {k : Nat} {F : FS} (Fu : Fun K x qual st f fd) (S : FnScope N ps (defScope st)) (len : ∀ ws μ R, F ws μ R → ws.length = ps.length)
    (hbody : ∀ (cdv : PySem.Value) (A : PySem.Around) (outer : List PySem.Env) (s : PySem.Shared) (H : Hp) (E : XK), Room k (A.deeper (PyProof.Rows.envOfC qual (defScope st) s.heap.objs.size f cdv)) →
      ∃ t, PSs (cxOf CX0 P w K mg base N qual (defScope st) f cdv A outer s H E).nox (defBody st) t ∧ ∀ ws μ R, F ws μ R → AS K t { nx := fun _ μ' => R (.d .none) μ', rt := R } (stG N ws) μ) : FnOk P w K mg base CX0 (k + 1) f fd ps (spD K F) := by
  refine Fu.ok S (fun vs H Q E h => ?_) (fun cdv A outer s H vs Q E hr h => ?_)
  · obtain ⟨A, M, μ, ws, R, mo, r, h, _⟩ := h
    rw [r.length]
    exact len ws μ R h
  · obtain ⟨t, ht, hs⟩ := hbody cdv A outer s H E hr
    obtain ⟨A, M, μ, ws, R, mo, r, h, q⟩ := h
    refine ⟨t, ht, hs ws μ R h A M _ H ⟨mo, gr_start r⟩ _ ⟨fun M' σ' H' Γ' μ' c e h => q M' H' _ _ μ' c.mo e (.d .non) h, fun M' H' v w μ' mo' e' r' h => q M' H' v w μ' mo' e' r' h, fun _ _ _ _ _ _ _ h => h.elim, fun _ _ _ _ _ _ _ h => h.elim, fun _ _ _ _ _ _ _ _ _ _ _ _ h => h.elim⟩⟩
end Pd

/-! unions: one rule for each operator, whatever its operands -/
namespace Pd
open PySem PySem.Spec PyProof.Rows L2
open Evl (Ex)
theorem orR {X : Cx} {f : Value → Value → Sem Value} {r r' : R2} (h : OpR X f r) (h' : OpR X f r') : OpR X f (fun x y H Q => r x y H Q ∨ r' x y H Q) := by
  intro pins s σ H x y v u Q I rx ry q
  rcases q with q | q
  · exact h pins s σ H x y v u Q I rx ry q
  · exact h' pins s σ H x y v u Q I rx ry q
theorem orC {X : Cx} {f : Value} {r r' : List V → Hp → VK → Prop} (h : CallR X f r) (h' : CallR X f r') : CallR X f (fun xs H Q => r xs H Q ∨ r' xs H Q) := by
  intro pins s σ H xs us Q I rx q
  rcases q with q | q
  · exact h pins s σ H xs us Q I rx q
  · exact h' pins s σ H xs us Q I rx q
theorem orI {X : Cx} {tg e : Expr} {w w' : TI} (h : PI X tg e w) (h' : PI X tg e w') : PI X tg e (fun σ H R => w σ H R ∨ w' σ H R) := ⟨fun pins s σ H R I q => by
  rcases q with q | q
  · exact h.run pins s σ H R I q
  · exact h'.run pins s σ H R I q⟩
def COp (i j : Int) : Prop := 0 ≤ j ∧ (Builtin.Int.intBits i : Int) * j ≤ 2 ^ 27
section
variable {X : Cx}
theorem op_powX : OpR X (binaryOp .Pow) (rI COp fun i j => .int (i ^ j.toNat)) := opI fun _ _ _ _ _ _ _ hc q => pow_int hc.1 hc.2 q
/-- + -/
def rAddI : R2 := rI0 fun i j => .int (i + j)
def rAddS : R2 := fun x y H Q => ∃ i j, x = .str i ∧ y = .str j ∧ i.length + j.length ≤ sizeLine ∧ Q (.str (i ++ j)) H
def rAddU (K : PySem.W.Frag) : R2 := fun x y H Q => rAddI x y H Q ∨ (rCat x y H Q ∨ (rCatA K x y H Q ∨ rAddS x y H Q))
theorem op_addU : OpR X (binaryOp .Add) (rAddU X.K) := orR op_add (orR op_cat (orR op_catA op_add_str))
theorem iop_addU : OpR X (inplaceOp .Add) (fun x y H Q => rAddI x y H Q ∨ rAddS x y H Q) := orR iop_add iop_add_str
def rSubI : R2 := rI0 fun i j => .int (i - j)
theorem op_subU : OpR X (binaryOp .Sub) rSubI := op_sub
theorem iop_subU : OpR X (inplaceOp .Sub) rSubI := iop_sub
def rMulI : R2 := rI CMul fun i j => .int (i * j)
def rMulX : R2 := rI CMulX fun i j => .int (i * j)
def rMulU : R2 := fun x y H Q => rMulI x y H Q ∨ (rMulX x y H Q ∨ rRep x y H Q)
theorem op_mulU : OpR X (binaryOp .Mult) rMulU := orR op_mul (orR op_mulX op_rep)
theorem iop_mulU : OpR X (inplaceOp .Mult) rMulI := iop_mul
def rDivI : R2 := rI CDivW fun i j => .int (i / j)
theorem op_divU : OpR X (binaryOp .FloorDiv) rDivI := op_fdivW
theorem iop_divU : OpR X (inplaceOp .FloorDiv) (rI CDiv fun i j => .int (i / j)) := iop_fdiv
def rModI : R2 := rI (fun _ j => 0 < j) fun i j => .int (i % j)
theorem op_modU : OpR X (binaryOp .Mod) rModI := op_mod
def rPowI : R2 := rI COp fun i j => .int (i ^ j.toNat)
theorem op_powU : OpR X (binaryOp .Pow) rPowI := op_powX
/-- == -/
def rEqU (K : PySem.W.Frag) : R2 := fun x y H Q => rEq x y H Q ∨ rEqD K x y H Q
def rNeU (K : PySem.W.Frag) : R2 := fun x y H Q => rNe x y H Q ∨ rNeD K x y H Q
theorem op_eqU (hu : X.A.units + 64 < cLine) : OpR X (compareOp .Eq) (rEqU X.K) := orR op_eq (op_eqD hu)
theorem op_neU (hu : X.A.units + 64 < cLine) : OpR X (compareOp .NotEq) (rNeU X.K) := orR op_ne (op_neD hu)
def rLtI : R2 := rI0 fun i j => .bl (decide (i < j))
def rLeI : R2 := rI0 fun i j => .bl (decide (i ≤ j))
def rGtI : R2 := rI0 fun i j => .bl (decide (j < i))
def rGeI : R2 := rI0 fun i j => .bl (decide (j ≤ i))
def rLtS : R2 := fun x y H Q => ∃ i j, x = .str i ∧ y = .str j ∧ Q (.bl (decide (i.cps.toList < j.cps.toList))) H
def rLtU : R2 := fun x y H Q => rLtI x y H Q ∨ rLtS x y H Q
theorem op_ltU : OpR X (compareOp .Lt) rLtU := orR op_lt op_lt_str
theorem op_leU : OpR X (compareOp .LtE) rLeI := op_le
theorem op_gtU : OpR X (compareOp .Gt) rGtI := op_gt
theorem op_geU : OpR X (compareOp .GtE) rGeI := op_ge
def rInS (neg : Bool) : R2 := fun x y H Q => ∃ i j, x = .str i ∧ y = .str j ∧ Q (.bl (if neg then !(!(Builtin.Str.occurrences j i 0 j.length 1).isEmpty) else !(Builtin.Str.occurrences j i 0 j.length 1).isEmpty)) H
def rInU (K : PySem.W.Frag) (neg : Bool) : R2 := fun x y H Q => rIn K neg x y H Q ∨ rInS neg x y H Q
theorem op_inU : OpR X (compareOp .In) (rInU X.K false) := orR op_in_seq op_in_str
theorem op_niU : OpR X (compareOp .NotIn) (rInU X.K true) := orR op_notIn_seq op_notin_str
/-- None, or a bool beside a bool -/
def rIsU (neg : Bool) : R2 := fun x y H Q => (y = .non ∧ Q (.bl (if neg then !decide (x = .non) else decide (x = .non))) H) ∨ (∃ a b : Bool, x = .bl a ∧ y = .bl b ∧ Q (.bl (if neg then !decide (a = b) else decide (a = b))) H)
theorem op_isU : OpR X (compareOp .Is) (rIsU false) := orR op_isN op_isBl
theorem op_isnU : OpR X (compareOp .IsNot) (rIsU true) := orR op_notN op_notBl
def iSeq (K : PySem.W.Frag) (te : TE) : TI := fun σ H R => iList K te σ H R ∨ (iTup K te σ H R ∨ iStr te σ H R)
theorem pi_seq {tg e : Expr} {te : TE} (he : PE X e te) : PI X tg e (iSeq X.K te) := orI (pi_list he) (orI (pi_tup he) (pi_str he))
def rSlU (K : PySem.W.Frag) : V → Option Int → Option Int → Hp → VK → Prop := fun x l u H Q => rSlL K x l u H Q ∨ (rSlA K x l u H Q ∨ rSlS x l u H Q)
theorem sl_U : SlR X (rSlU X.K) := SlR.or sl_list (SlR.or sl_tupA sl_str)
def tTru (K : PySem.W.Frag) (ta : TE) : TT := fun σ H Q => ta σ H fun x H' => ∃ k, TruV K x H' k ∧ Q k H'
theorem pt_tru {a : Expr} {ta : TE} (ha : PE X a ta) (he : ∀ whole, isTrue a X.env whole = (do let v ← whole; standAt a.pos; holding [v] (truthy v)) := by intro _; rfl) : PT X a (tTru X.K ta) := pt_truth ha he
def rLenU (K : PySem.W.Frag) : List V → Hp → VK → Prop := fun xs H Q => ∃ x n, xs = [x] ∧ LenV K x H n ∧ Q (.int n) H
theorem call_lenU : CallR X (.builtin "len") (rLenU X.K) := call_len
def rListU (K : PySem.W.Frag) : List V → Hp → VK → Prop := fun xs H Q => ∃ p ys, xs = [.ref p] ∧ (SqL K H p ys ∨ SqT K H p ys) ∧ ∀ l, H l = none → Q (.ref l) (upd H l (.lst ys))
theorem call_listU : CallR X (.type "list") (rListU X.K) := call_list_of
def rTupU (K : PySem.W.Frag) : List V → Hp → VK → Prop := fun xs H Q => ∃ p ys, xs = [.ref p] ∧ ((SqL K H p ys ∧ ∀ l, H l = none → Q (.ref l) (upd H l (.tup ys))) ∨ (SqT K H p ys ∧ Q (.ref p) H))
theorem call_tupU : CallR X (.type "tuple") (rTupU X.K) := call_tuple_of
def rIntU : List V → Hp → VK → Prop := fun xs H Q => (∃ i, xs = [.int i] ∧ Q (.int i) H) ∨ ∃ k, xs = [.bl k] ∧ Q (.int (if k then 1 else 0)) H
theorem call_intU : CallR X (.type "int") rIntU := call_int1
def rAbsU : List V → Hp → VK → Prop := fun xs H Q => ∃ i, xs = [.int i] ∧ Q (.int (if i < 0 then -i else i)) H
theorem call_absU : CallR X (.builtin "abs") rAbsU := call_abs
def rMax2 : List V → Hp → VK → Prop := fun xs H Q => ∃ i j, xs = [.int i, .int j] ∧ Q (.int (if j > i then j else i)) H
def rMin2 : List V → Hp → VK → Prop := fun xs H Q => ∃ i j, xs = [.int i, .int j] ∧ Q (.int (if j < i then j else i)) H
def rMaxU (K : PySem.W.Frag) : List V → Hp → VK → Prop := fun xs H Q => rMax2 xs H Q ∨ rMax K xs H Q
def rMinU (K : PySem.W.Frag) : List V → Hp → VK → Prop := fun xs H Q => rMin2 xs H Q ∨ rMin K xs H Q
theorem call_maxU (hc : X.calm = true) : CallR X (.builtin "max") (rMaxU X.K) := orC (call_max2 hc) (cr_max hc)
theorem call_minU (hc : X.calm = true) : CallR X (.builtin "min") (rMinU X.K) := orC (call_min2 hc) (cr_min hc)
def rPopU : V → List V → Hp → VK → Prop := fun x vs H Q => rPop x vs H Q ∨ rPopAt x vs H Q
theorem mt_popU : MtM X "list.pop" rPopU := by
  intro pins s σ H x xs v us Q I rx rs q
  rcases q with q | q
  · exact mt_pop pins s σ H x xs v us Q I rx rs q
  · exact mt_popAt pins s σ H x xs v us Q I rx rs q
/-- a call with keywords alone -/
theorem pe_callN0 {CX : CXT} {k : Nat} {f : Addr} {fd : FuncData} {ps ks : List Str} {sp : Sp} {x : Str} {E : XK} {kws : List Keyword} {tk : TA} {p pos : Pos} {g : List Value → List Value → List Value} {gV : List V → List V → List V} (F : FnOk X.prog X.w X.K X.mg X.base CX k f fd ps sp) (hr : Room k X.A) (hg : Gl X x) (hm : X.mg x = some (.ref f)) (hk : PySem.W.keepIn X.K (.ref f) = true) (hb : KBn X.K fd ps 0 ks g gV) (hx : Passes CX X E)
    (hkw : PK X kws tk) (hall : (backToKw pos (keywordEach kws X.env)).all (·.1.isSome) = true := by rfl) (hks : (backToKw pos (keywordEach kws X.env)).filterMap (·.1) = ks := by rfl)
    (hdb : (x == ("__debug__" : Str)) = false := by decide)
    (hpl : ((backTo pos (starEach [] X.env)).any (·.1) || (backToKw pos (keywordEach kws X.env)).any (·.1.isNone)) = false := by rfl) :
    PE X (.Call (.Name x p) [] kws pos) (tCallN 0 ks.length sp gV E tNil tk) := by
  refine ⟨fun pins s σ H Q I h => ?_⟩
  refine wpAny_Call_Name_kw (ld_glob I hg hm ?_ hdb)
  refine PySem.W.callWith_KW0 (h₀ := X.base) I.ok.mod.kin hk hall (thn (hkw.run pos pins s σ H _ I h) fun ws s2 ⟨zs, H2, I2, rz, l1, l2, q2⟩ => ⟨I2.kIn, ?_⟩) hpl
  rw [hks]
  exact run_fnN F hr hb hx I2 .nil rz l1 l2 q2
end
/-! ### what they ask -/
section
variable {K : PySem.W.Frag} {Γ : G} {μ : Mu} {R : W → Mu → Prop} {ta tb te : TE}
theorem ao_l {r r' : R2} {x y : W} (h : AO K r x y μ R) : AO K (fun x y H Q => r x y H Q ∨ r' x y H Q) x y μ R := fun A M H v u mo rv ru Q q => .inl (h A M H v u mo rv ru Q q)
theorem ao_r {r r' : R2} {x y : W} (h : AO K r' x y μ R) : AO K (fun x y H Q => r x y H Q ∨ r' x y H Q) x y μ R := fun A M H v u mo rv ru Q q => .inr (h A M H v u mo rv ru Q q)
theorem ac_l {r r' : List V → Hp → VK → Prop} {xs : List W} (h : AC K r xs μ R) : AC K (fun xs H Q => r xs H Q ∨ r' xs H Q) xs μ R := fun A M H v mo rv Q q => .inl (h A M H v mo rv Q q)
theorem ac_r {r r' : List V → Hp → VK → Prop} {xs : List W} (h : AC K r' xs μ R) : AC K (fun xs H Q => r xs H Q ∨ r' xs H Q) xs μ R := fun A M H v mo rv Q q => .inr (h A M H v mo rv Q q)
theorem am_l {r r' : V → List V → Hp → VK → Prop} {x : W} {xs : List W} (h : AM K r x xs μ R) : AM K (fun x xs H Q => r x xs H Q ∨ r' x xs H Q) x xs μ R := fun A M H v vs mo rv rs Q q => .inl (h A M H v vs mo rv rs Q q)
theorem am_r {r r' : V → List V → Hp → VK → Prop} {x : W} {xs : List W} (h : AM K r' x xs μ R) : AM K (fun x xs H Q => r x xs H Q ∨ r' x xs H Q) x xs μ R := fun A M H v vs mo rv rs Q q => .inr (h A M H v vs mo rv rs Q q)
theorem ai_l {w w' : TI} {RI : List W → (Mu → Prop) → Mu → Prop} (h : AI K w Γ μ RI) : AI K (fun σ H R => w σ H R ∨ w' σ H R) Γ μ RI := fun A M σ H c Q q => .inl (h A M σ H c Q q)
theorem ai_r {w w' : TI} {RI : List W → (Mu → Prop) → Mu → Prop} (h : AI K w' Γ μ RI) : AI K (fun σ H R => w σ H R ∨ w' σ H R) Γ μ RI := fun A M σ H c Q q => .inr (h A M σ H c Q q)
theorem asl_l {r r' : V → Option Int → Option Int → Hp → VK → Prop} {x : W} {lo hi : Option Int} (h : ASl K r x lo hi μ R) : ASl K (fun x l u H Q => r x l u H Q ∨ r' x l u H Q) x lo hi μ R := fun A M H v mo rv Q q => .inl (h A M H v mo rv Q q)
theorem asl_r {r r' : V → Option Int → Option Int → Hp → VK → Prop} {x : W} {lo hi : Option Int} (h : ASl K r' x lo hi μ R) : ASl K (fun x l u H Q => r x l u H Q ∨ r' x l u H Q) x lo hi μ R := fun A M H v mo rv Q q => .inr (h A M H v mo rv Q q)
/-! +, -, *, //, %, ** -/
theorem o_addI {i j : Int} (k : R (.d (.int (i + j))) μ) : AO K (rAddU K) (.d (.int i)) (.d (.int j)) μ R := ao_l (ao_iI (g := fun i j => i + j) k)
theorem o_addL {x y : W} {ws zs : List W} (hx : LN μ x ws) (hy : LN μ y zs) (hl : ws.length + zs.length ≤ sizeLine) (q : NL (ws ++ zs) μ R) : AO K (rAddU K) x y μ R := ao_r (ao_l (ao_cat hx hy hl q))
theorem ao_addS {x y : PySem.Str} (hl : x.length + y.length ≤ sizeLine) (q : R (.d (.str (x ++ y))) μ) : AO K rAddS (.d (.str x)) (.d (.str y)) μ R := fun A M H v u mo rv ru Q h => by
  rw [vr_str rv, vr_str ru]
  exact ⟨x, y, rfl, rfl, hl, h M H _ _ μ mo Eff.refl (.d (.str _)) q⟩
theorem o_addS {x y : PySem.Str} (hl : x.length + y.length ≤ sizeLine) (q : R (.d (.str (x ++ y))) μ) : AO K (rAddU K) (.d (.str x)) (.d (.str y)) μ R := ao_r (ao_r (ao_r (ao_addS hl q)))
theorem NT.same {ws : List W} {R : W → Mu → Prop} {a : Addr} {vs : List V} (q : NT ws μ R) (mo : MOk K A M H μ) (ha : SqT K (vw A M μ H) a vs) (rs : VRs K (vw A M μ H) M vs ws) {Q : VK}
    (h : ∀ M' H' v w μ', MOk K A M' H' μ' → Eff A M μ H M' μ' H' → VR K (vw A M' μ' H') M' v w → R w μ' → Q v H') : Q (.ref a) H := by
  rcases q with ⟨xs, rfl, hR⟩ | hR
  · exact h M H _ _ μ mo Eff.refl (.d (.tup ha rs.dp)) hR
  · exact h M H _ _ μ mo Eff.refl (.t ha rs) hR
theorem o_addT {x y : W} {ws zs : List W} (hx : TW x ws) (hy : TW y zs) (hl : ws.length + zs.length ≤ sizeLine) (q : NT (ws ++ zs) μ R) : AO K (rAddU K) x y μ R := ao_r (ao_r (ao_l fun A M H v u mo rv ru Q h => by
  obtain ⟨a, vs, rfl, ha, ra⟩ := hx.get rv
  obtain ⟨b, us, rfl, hb, rb⟩ := hy.get ru
  refine ⟨a, b, vs, us, rfl, rfl, Evl.ex_t vw_le ha, Evl.ex_t vw_le hb, by rw [ra.length, rb.length]; exact hl, fun z => ?_, fun _ z => ?_, fun _ _ p hp => ?_⟩
  · subst z
    cases ra
    exact q.same mo hb rb h
  · subst z
    cases rb
    rw [List.append_nil] at q
    exact q.same mo ha ra h
  · obtain ⟨w, m2, e2, r2, hR⟩ := q.use mo (ra.append rb) hp
    exact h M _ _ w μ m2 e2 r2 hR))
theorem o_subI {i j : Int} (k : R (.d (.int (i - j))) μ) : AO K rSubI (.d (.int i)) (.d (.int j)) μ R := ao_iI (g := fun i j => i - j) k
theorem o_mulI {i j : Int} (hc : CMul i j) (k : R (.d (.int (i * j))) μ) : AO K rMulU (.d (.int i)) (.d (.int j)) μ R := ao_l (ao_cI (g := fun i j => i * j) hc k)
theorem o_mulX {i j : Int} (hc : CMulX i j) (k : R (.d (.int (i * j))) μ) : AO K rMulU (.d (.int i)) (.d (.int j)) μ R := ao_r (ao_l (ao_cI (g := fun i j => i * j) hc k))
theorem o_rep {x : W} {ws : List W} {k : Int} (hx : LN μ x ws) (hk : -(2 ^ 63) ≤ k ∧ k < 2 ^ 63) (hl : ws.length * k.toNat ≤ sizeLine) (q : NL (List.replicate k.toNat ws).flatten μ R) : AO K rMulU x (.d (.int k)) μ R := ao_r (ao_r (ao_rep hx hk hl q))
theorem o_divI {i j : Int} (hc : CDivW i j) (k : R (.d (.int (i / j))) μ) : AO K rDivI (.d (.int i)) (.d (.int j)) μ R := ao_cI (g := fun i j => i / j) hc k
theorem o_modI {i j : Int} (hc : 0 < j) (k : R (.d (.int (i % j))) μ) : AO K rModI (.d (.int i)) (.d (.int j)) μ R := ao_cI (P := fun _ j => 0 < j) (g := fun i j => i % j) hc k
theorem o_powI {i j : Int} (hc : COp i j) (k : R (.d (.int (i ^ j.toNat))) μ) : AO K rPowI (.d (.int i)) (.d (.int j)) μ R := ao_cI (g := fun i j => i ^ j.toNat) hc k
theorem o_ltI {i j : Int} (k : R (.d (.bool (decide (i < j)))) μ) : AO K rLtU (.d (.int i)) (.d (.int j)) μ R := ao_l (ao_iB (g := fun i j => decide (i < j)) k)
theorem o_leI {i j : Int} (k : R (.d (.bool (decide (i ≤ j)))) μ) : AO K rLeI (.d (.int i)) (.d (.int j)) μ R := ao_iB (g := fun i j => decide (i ≤ j)) k
theorem o_gtI {i j : Int} (k : R (.d (.bool (decide (j < i)))) μ) : AO K rGtI (.d (.int i)) (.d (.int j)) μ R := ao_iB (g := fun i j => decide (j < i)) k
theorem o_geI {i j : Int} (k : R (.d (.bool (decide (j ≤ i)))) μ) : AO K rGeI (.d (.int i)) (.d (.int j)) μ R := ao_iB (g := fun i j => decide (j ≤ i)) k
theorem o_eqI {i j : Int} (k : R (.d (.bool (decide (i = j)))) μ) : AO K (rEqU K) (.d (.int i)) (.d (.int j)) μ R := ao_l (ao_eqI k)
theorem o_neI {i j : Int} (k : R (.d (.bool (!decide (i = j)))) μ) : AO K (rNeU K) (.d (.int i)) (.d (.int j)) μ R := ao_l (ao_neI k)
theorem o_eqB {i j : Bool} (k : R (.d (.bool (decide (i = j)))) μ) : AO K (rEqU K) (.d (.bool i)) (.d (.bool j)) μ R := ao_l (ao_eqB k)
theorem o_neB {i j : Bool} (k : R (.d (.bool (!decide (i = j)))) μ) : AO K (rNeU K) (.d (.bool i)) (.d (.bool j)) μ R := ao_l (ao_neB k)
theorem o_eqS {i j : PySem.Str} (k : R (.d (.bool (decide (i = j)))) μ) : AO K (rEqU K) (.d (.str i)) (.d (.str j)) μ R := ao_l (ao_eqS k)
theorem o_neS {i j : PySem.Str} (k : R (.d (.bool (!decide (i = j)))) μ) : AO K (rNeU K) (.d (.str i)) (.d (.str j)) μ R := ao_l (ao_neS k)
theorem o_eqD {x y : W} {d e : PyData} (hx : Rs μ x d) (hy : Rs μ y e) (sd : SeqAt.shaped d = true) (se : SeqAt.shaped e = true) (k : R (.d (.bool (PyData.eqv d e))) μ) : AO K (rEqU K) x y μ R := ao_r (ao_eqD hx hy sd se k)
theorem o_neD {x y : W} {d e : PyData} (hx : Rs μ x d) (hy : Rs μ y e) (sd : SeqAt.shaped d = true) (se : SeqAt.shaped e = true) (k : R (.d (.bool (!PyData.eqv d e))) μ) : AO K (rNeU K) x y μ R := ao_r (ao_neD hx hy sd se k)
theorem o_is {x : W} {neg : Bool} (k : R (.d (.bool (if neg then !isNon x else isNon x))) μ) : AO K (rIsU neg) x (.d .none) μ R := fun A M H v u mo rv ru Q h => by
  rw [vr_none ru]
  refine .inl ⟨rfl, ?_⟩
  rw [vr_isN rv]
  exact h M H _ _ μ mo Eff.refl (.d (.bl _)) k
theorem o_isB {a b neg : Bool} (k : R (.d (.bool (if neg then !decide (a = b) else decide (a = b)))) μ) : AO K (rIsU neg) (.d (.bool a)) (.d (.bool b)) μ R := fun A M H v u mo rv ru Q h => by
  rw [vr_bool rv, vr_bool ru]
  exact .inr ⟨a, b, rfl, rfl, h M H _ _ μ mo Eff.refl (.d (.bl _)) k⟩
/-! items -/
theorem o_ixL {x z : W} {ws : List W} {i : Int} (hx : LW μ x ws) (hz : atI ws i = some z) (q : R z μ) : AO K (rIx K) x (.d (.int i)) μ R := ao_l (ao_ixL hx hz q)
theorem o_ixT {x z : W} {ws : List W} {i : Int} (hx : TW x ws) (hz : atI ws i = some z) (q : R z μ) : AO K (rIx K) x (.d (.int i)) μ R := ao_r (ao_l (ao_ixT hx hz q))
theorem o_ixS {x : PySem.Str} {i : Int} {c : Nat} (hl : x.length ≤ sizeLine) (hc : atI x.cps.toList i = some c) (q : R (.d (.str ⟨#[c]⟩)) μ) : AO K (rIx K) (.d (.str x)) (.d (.int i)) μ R := ao_r (ao_r (ao_ixS hl hc q))
theorem o_slL {x : W} {ws : List W} {lo hi : Option Int} (hx : LW μ x ws) (q : NL (cutW ws lo hi) μ R) : ASl K (rSlU K) x lo hi μ R := asl_l (as_slL hx q)
theorem o_slS {x : PySem.Str} {lo hi : Option Int} (hl : x.length ≤ sizeLine) (q : R (.d (.str (cutS x lo hi))) μ) : ASl K (rSlU K) (.d (.str x)) lo hi μ R := asl_r (asl_r (as_slS hl q))
/-! truth -/
inductive TrW (μ : Mu) : W → Bool → Prop
  | non : TrW μ (.d .none) false
  | bl (b : Bool) : TrW μ (.d (.bool b)) b
  | int (i : Int) : TrW μ (.d (.int i)) (i != 0)
  | str (x : PySem.Str) (h : x.length ≤ sizeLine) : TrW μ (.d (.str x)) ((x.length : Int) != 0)
  | lst {w : W} {ws : List W} (h : LW μ w ws) : TrW μ w (!ws.isEmpty)
  | tup {w : W} {ws : List W} (h : TW w ws) : TrW μ w (!ws.isEmpty)
theorem vrs_empty {Hv : Hp} {M : List Addr} {vs : List V} {ws : List W} (h : VRs K Hv M vs ws) : vs.isEmpty = ws.isEmpty := by cases h <;> rfl
theorem TrW.ok {A : Addr → Prop} {M : List Addr} {H : Hp} {w : W} {v : V} {b : Bool} (mo : MOk K A M H μ) (r : VR K (vw A M μ H) M v w) (h : TrW μ w b) : TruV K v H b := by
  cases h with
  | non => rw [vr_none r]; rfl
  | bl b => rw [vr_bool r]; rfl
  | int i => rw [vr_int r]; rfl
  | str x hl => rw [vr_str r]; exact ⟨hl, rfl⟩
  | lst hl =>
    obtain ⟨a, vs, rfl, hs, rs⟩ := hl.get mo r
    exact .inl ⟨vs, hs, by rw [vrs_empty rs]⟩
  | tup hl =>
    obtain ⟨a, vs, rfl, hs, rs⟩ := hl.get r
    exact .inr (.inl ⟨vs, Evl.ex_t vw_le hs, by rw [vrs_empty rs]⟩)
theorem at_tru {RT : Bool → Mu → Prop} (h : AX K te Γ μ fun w μ1 => ∃ b, TrW μ1 w b ∧ RT b μ1) : AXT K (tTru K te) Γ μ RT := fun A M σ H c Q q =>
  h A M σ H c _ fun M1 H1 v w μ1 mo1 e1 r1 ⟨b, hb, hR⟩ => ⟨b, hb.ok mo1 r1, q M1 H1 b μ1 mo1 e1 hR⟩
theorem at_truB {RT : Bool → Mu → Prop} (h : AX K te Γ μ fun w μ1 => ∃ b, w = .d (.bool b) ∧ RT b μ1) : AXT K (tTru K te) Γ μ RT := at_tru (ax_weak h fun w μ' ⟨b, e, r⟩ => ⟨b, by rw [e]; exact .bl b, r⟩)
theorem ax_andT (h : AX K ta Γ μ fun x μ1 => ∃ b, TrW μ1 x b ∧ if b = true then AX K tb Γ μ1 R else R x μ1) : AX K (tAndT K ta tb) Γ μ R := fun A M σ H c Q q =>
  h A M σ H c _ fun M1 H1 v x μ1 mo1 e1 r1 ⟨b, hb, h1⟩ => by
    refine ⟨b, hb.ok mo1 r1, ?_⟩
    cases b with
    | true =>
      show tb σ H1 Q
      exact h1 A M1 σ H1 (c.eff e1 mo1) Q fun M2 H2 z w μ2 mo2 e2 r2 h2 => q M2 H2 z w μ2 mo2 (e1.trans e2) r2 h2
    | false => exact q M1 H1 _ _ μ1 mo1 e1 r1 h1
theorem ax_orT (h : AX K ta Γ μ fun x μ1 => ∃ b, TrW μ1 x b ∧ if b = true then R x μ1 else AX K tb Γ μ1 R) : AX K (tOrT K ta tb) Γ μ R := fun A M σ H c Q q =>
  h A M σ H c _ fun M1 H1 v x μ1 mo1 e1 r1 ⟨b, hb, h1⟩ => by
    refine ⟨b, hb.ok mo1 r1, ?_⟩
    cases b with
    | false =>
      show tb σ H1 Q
      exact h1 A M1 σ H1 (c.eff e1 mo1) Q fun M2 H2 z w μ2 mo2 e2 r2 h2 => q M2 H2 z w μ2 mo2 (e1.trans e2) r2 h2
    | true => exact q M1 H1 _ _ μ1 mo1 e1 r1 h1
theorem ax_notT (h : AX K ta Γ μ fun x μ1 => ∃ b, TrW μ1 x b ∧ R (.d (.bool (!b))) μ1) : AX K (tNotT K ta) Γ μ R := fun A M σ H c Q q =>
  h A M σ H c _ fun M1 H1 v x μ1 mo1 e1 r1 ⟨b, hb, h1⟩ => ⟨b, hb.ok mo1 r1, q M1 H1 _ _ μ1 mo1 e1 (.d (.bl _)) h1⟩
theorem ax_chain {r r' : R2} {tc : TE} (h : AX K ta Γ μ fun x μ1 => AX K tb Γ μ1 fun y μ2 => AO K r x y μ2 fun z μ3 => ∃ b, z = .d (.bool b) ∧ if b = true then AX K tc Γ μ3 fun u μ4 => AO K r' y u μ4 R else R (.d (.bool false)) μ3) : AX K (tChain r r' ta tb tc) Γ μ R := fun A M σ H c Q q =>
  h A M σ H c _ fun M1 H1 v x μ1 mo1 e1 r1 h1 => h1 A M1 σ H1 (c.eff e1 mo1) _ fun M2 H2 u y μ2 mo2 e2 r2 h2 => h2 A M2 H2 v u mo2 (r1.mono e2.ex e2.pre) r2 _ fun M3 H3 z w μ3 mo3 e3 r3 ⟨b, hb, h3⟩ => by
    subst hb
    have e13 := (e1.trans e2).trans e3
    refine ⟨b, vr_bool r3, ?_⟩
    cases b with
    | true => exact h3 A M3 σ H3 (c.eff e13 mo3) _ fun M4 H4 u4 w4 μ4 mo4 e4 r4 h4 => h4 A M4 H4 u u4 mo4 (r2.mono (e3.trans e4).ex (e3.trans e4).pre) r4 Q fun M5 H5 z5 w5 μ5 mo5 e5 r5 h5 => q M5 H5 z5 w5 μ5 mo5 ((e13.trans e4).trans e5) r5 h5
    | false => exact q M3 H3 _ _ μ3 mo3 e13 (.d (.bl _)) h3
/-! calls of built-ins -/
theorem c_lenL {x : W} {ws : List W} (hx : LW μ x ws) (q : R (.d (.int ws.length)) μ) : AC K (rLenU K) [x] μ R := fun A M H vs mo rs Q h => by
  cases rs with
  | cons rw rn =>
    cases rn
    obtain ⟨a, us, rfl, hs, ru⟩ := hx.get mo rw
    refine ⟨_, _, rfl, .inl ⟨us, hs, rfl⟩, ?_⟩
    rw [ru.length]
    exact h M H _ _ μ mo Eff.refl (.d (.int _)) q
theorem c_lenT {x : W} {ws : List W} (hx : TW x ws) (q : R (.d (.int ws.length)) μ) : AC K (rLenU K) [x] μ R := fun A M H vs mo rs Q h => by
  cases rs with
  | cons rw rn =>
    cases rn
    obtain ⟨a, us, rfl, hs, ru⟩ := hx.get rw
    refine ⟨_, _, rfl, .inr ⟨us, Evl.ex_t vw_le hs, rfl⟩, ?_⟩
    rw [ru.length]
    exact h M H _ _ μ mo Eff.refl (.d (.int _)) q
theorem c_lenS {x : PySem.Str} (hl : x.length ≤ sizeLine) (q : R (.d (.int x.length)) μ) : AC K (rLenU K) [.d (.str x)] μ R := fun A M H vs mo rs Q h => by
  cases rs with
  | cons rw rn =>
    cases rn
    rw [vr_str rw]
    exact ⟨_, x.length, rfl, ⟨hl, rfl⟩, h M H _ _ μ mo Eff.refl (.d (.int _)) q⟩
theorem c_int {i : Int} (q : R (.d (.int i)) μ) : AC K rIntU [.d (.int i)] μ R := ac_int q
theorem c_intB {i : Bool} (q : R (.d (.int (if i then 1 else 0))) μ) : AC K rIntU [.d (.bool i)] μ R := ac_intB q
theorem c_abs {i : Int} (q : R (.d (.int (if i < 0 then -i else i))) μ) : AC K rAbsU [.d (.int i)] μ R := ac_1 (g := fun i => if i < 0 then -i else i) q
theorem c_max2 {i j : Int} (q : R (.d (.int (max i j))) μ) : AC K (rMaxU K) [.d (.int i), .d (.int j)] μ R := ac_l (ac_2 (g := fun i j => if j > i then j else i) (by
  have e : (if j > i then j else i) = max i j := by omega
  show R (.d (.int (if j > i then j else i))) μ
  rw [e]
  exact q))
theorem c_min2 {i j : Int} (q : R (.d (.int (min i j))) μ) : AC K (rMinU K) [.d (.int i), .d (.int j)] μ R := ac_l (ac_2 (g := fun i j => if j < i then j else i) (by
  have e : (if j < i then j else i) = min i j := by omega
  show R (.d (.int (if j < i then j else i))) μ
  rw [e]
  exact q))
theorem c_maxL {x : W} {ns : List Int} (hx : LW μ x (ns.map fun n => W.d (.int n))) (h0 : 0 < ns.length) (q : ∀ m, m ∈ ns → (∀ y, y ∈ ns → y ≤ m) → R (.d (.int m)) μ) : AC K (rMaxU K) [x] μ R := ac_r (ac_max hx h0 q)
theorem c_minL {x : W} {ns : List Int} (hx : LW μ x (ns.map fun n => W.d (.int n))) (h0 : 0 < ns.length) (q : ∀ m, m ∈ ns → (∀ y, y ∈ ns → m ≤ y) → R (.d (.int m)) μ) : AC K (rMinU K) [x] μ R := ac_r (ac_min hx h0 q)
theorem c_listL {x : W} {ws : List W} (hx : LW μ x ws) (q : NL ws μ R) : AC K (rListU K) [x] μ R := ac_list hx q
theorem c_listT {x : W} {ws : List W} (hx : TW x ws) (q : NL ws μ R) : AC K (rListU K) [x] μ R := ac_listT hx q
theorem c_tupL {x : W} {ws : List W} (hx : LW μ x ws) (q : NT ws μ R) : AC K (rTupU K) [x] μ R := ac_tupleL hx q
/-- isinstance of data against a built-in class -/
def tyD : PyData → String
  | .none => "NoneType"
  | .bool _ => "bool"
  | .int _ => "int"
  | .str _ => "str"
  | .list _ => "list"
  | .tuple _ => "tuple"
  | .dict _ => "dict"
inductive TyW (μ : Mu) : W → String → Prop
  | d (x : PyData) : TyW μ (.d x) (tyD x)
  | m {k : Nat} {ws : List W} (h : μ[k]? = some (some (.lst ws))) : TyW μ (.m k) "list"
  | t (ws : List W) : TyW μ (.t ws) "tuple"
  | f (ws : List W) : TyW μ (.f ws) "list"
theorem tyx_t {H : Hp} {a : Addr} {xs : List V} (h : SqT K H a xs) : TyX K H (.ref a) (.type "tuple") := by
  rcases h with (h | ⟨o, h⟩) | ⟨o, its, n, h, hc, _⟩
  · exact .base (.tup h)
  · exact .fTuple h
  · exact .kTuple h hc
theorem tyx_l {H : Hp} {a : Addr} {xs : List V} (h : SqL K H a xs) : TyX K H (.ref a) (.type "list") := by
  rcases h with (h | ⟨o, h⟩) | ⟨o, its, n, h, hc, _⟩
  · exact .base (.lst h)
  · exact .base (.frz h)
  · exact .kList h hc
theorem TyW.ok {A : Addr → Prop} {M : List Addr} {H : Hp} {w : W} {v : V} {T : String} (mo : MOk K A M H μ) (r : VR K (vw A M μ H) M v w) (h : TyW μ w T) : TyX K H v (.type T) := by
  cases h with
  | d x =>
    cases r with
    | d r =>
      cases r with
      | non => exact .base .non
      | bl b => exact .base (.bl b)
      | int i => exact .base (.int i)
      | str x => exact .base (.str x)
      | lst h1 h2 => exact .base (.lst (vw_le _ _ h1))
      | tup h1 h2 => exact tyx_t (Evl.ex_t vw_le h1)
  | m hk =>
    obtain ⟨a, vs, rfl, hm, e, ru⟩ := cell_get mo r hk
    exact .base (.lst e)
  | t ws =>
    cases r with
    | t h1 h2 => exact tyx_t (Evl.ex_t vw_le h1)
  | f ws =>
    cases r with
    | f h1 h2 => exact tyx_l (Evl.ex_l vw_le h1)
theorem vr_k {v u : V} {Hv : Hp} {M : List Addr} (h : VR K Hv M v (.k u)) : v = u := by cases h; rfl
theorem c_isi {w : W} {S T : String} {b : Bool} (hw : TyW μ w S) (hk : kitB S T = some b) (q : R (.d (.bool b)) μ) : AC K (rIsi K) [w, .k (.ty T)] μ R := fun A M H vs mo rs Q h => by
  cases rs with
  | cons ra rn =>
    cases rn with
    | cons rb rn =>
      cases rn
      rw [vr_k rb]
      exact ⟨_, _, _, _, b, rfl, .ty T, hw.ok mo ra, kit_ty hk, h M H _ _ μ mo Eff.refl (.d (.bl _)) q⟩
end
/-! ### defs by their promises -/
/-- the module's x is a def that keeps F -/
def Has (P : Program) (w : World) (K : PySem.W.Frag) (mg : Str → Option Value) (base : Heap) (x : Str) (ps : List Str) (k : Nat) (F : FS) : Prop :=
  ∃ f fd, FnOk P w K mg base CX0 k f fd ps (spD K F) ∧ mg x = some (.ref f) ∧ PySem.W.keepIn K (.ref f) = true ∧ Binds K fd ps []
/-- .. and may be called with n values and the keywords ks -/
def HasK (P : Program) (w : World) (K : PySem.W.Frag) (mg : Str → Option Value) (base : Heap) (x : Str) (ps : List Str) (k : Nat) (F : FS) (n : Nat) (ks : List Str) (ix : List Nat) : Prop :=
  ∃ f fd, FnOk P w K mg base CX0 k f fd ps (spD K F) ∧ mg x = some (.ref f) ∧ PySem.W.keepIn K (.ref f) = true ∧ KBn K fd ps n ks (fun us ws => perm ix (us ++ ws)) (fun vs zs => perm ix (vs ++ zs))
section
variable {X : Cx} {x : Str} {ps ks : List Str} {k n m : Nat} {F : FS} {e : Expr} {es : List Expr} {ta tk : TA} {p pos : Pos} {kws : List Keyword} {ix : List Nat}
theorem pe_has (h : Has X.prog X.w X.K X.mg X.base x ps k F) (hr : Room k X.A) (ha : PA X (e :: es) ta) (hg : Gl X x := by rfl) (hd : (x == ("__debug__" : Str)) = false := by decide)
    (he : starEach (e :: es) X.env = (false, eval e X.env) :: starEach es X.env := by rfl) (hpl : (backTo pos (starEach es X.env)).any (·.1) = false := by rfl) : PE X (.Call (.Name x p) (e :: es) [] pos) (tCall (spD X.K F) [] E0 ta) := by
  obtain ⟨f, fd, G, hmg, kp, b⟩ := h
  exact pe_call G hr hg hmg kp b .nil pass0 ha hd he hpl
theorem pe_hasN (h : HasK X.prog X.w X.K X.mg X.base x ps k F n ks ix) (hr : Room k X.A) (ha : PA X (e :: es) ta) (hk : PK X kws tk) (hm : ks.length = m := by rfl) (hg : Gl X x := by rfl)
    (hall : (backToKw pos (keywordEach kws X.env)).all (·.1.isSome) = true := by rfl) (hks : (backToKw pos (keywordEach kws X.env)).filterMap (·.1) = ks := by rfl) (hdb : (x == ("__debug__" : Str)) = false := by decide)
    (he : starEach (e :: es) X.env = (false, eval e X.env) :: starEach es X.env := by rfl) (hpl : ((backTo pos (starEach (e :: es) X.env)).any (·.1) || (backToKw pos (keywordEach kws X.env)).any (·.1.isNone)) = false := by rfl) :
    PE X (.Call (.Name x p) (e :: es) kws pos) (tCallN n m (spD X.K F) (fun vs zs => perm ix (vs ++ zs)) E0 ta tk) := by
  subst hm
  obtain ⟨f, fd, G, hmg, kp, b⟩ := h
  exact pe_callN G hr hg hmg kp b pass0 ha hk hall hks hdb he hpl
theorem pe_hasN0 (h : HasK X.prog X.w X.K X.mg X.base x ps k F 0 ks ix) (hr : Room k X.A) (hk : PK X kws tk) (hm : ks.length = m := by rfl) (hg : Gl X x := by rfl)
    (hall : (backToKw pos (keywordEach kws X.env)).all (·.1.isSome) = true := by rfl) (hks : (backToKw pos (keywordEach kws X.env)).filterMap (·.1) = ks := by rfl) (hdb : (x == ("__debug__" : Str)) = false := by decide)
    (hpl : ((backTo pos (starEach [] X.env)).any (·.1) || (backToKw pos (keywordEach kws X.env)).any (·.1.isNone)) = false := by rfl) :
    PE X (.Call (.Name x p) [] kws pos) (tCallN 0 m (spD X.K F) (fun vs zs => perm ix (vs ++ zs)) E0 tNil tk) := by
  subst hm
  obtain ⟨f, fd, G, hmg, kp, b⟩ := h
  exact pe_callN0 G hr hg hmg kp b pass0 hk hall hks hdb hpl
end
theorem has_of {P : Program} {w : World} {K : PySem.W.Frag} {mg : Str → Option Value} {base : Heap} {x qual : Str} {st : Stmt} {f : Addr} {fd : FuncData} {ps : List Str} {k : Nat} {F : FS} (Fu : Fun K x qual st f fd) (m : mg x = some (.ref f)) (G : FnOk P w K mg base CX0 k f fd ps (spD K F))
    (h : ∀ (kV doc pm : Value) (an : Option Addr) (cdv ct : Value) (us : List Value), us.length = ps.length → bindArgs (PySem.W.fnOf x qual (defArgs st) (defBody st) (defScope st) .none kV doc pm an cdv ct) ⟨us, []⟩ = pure (ps.zip us)) : Has P w K mg base x ps k F := ⟨f, fd, G, m, Fu.kp, Fu.binds h⟩
theorem hask_of {P : Program} {w : World} {K : PySem.W.Frag} {mg : Str → Option Value} {base : Heap} {x qual : Str} {st : Stmt} {f : Addr} {fd : FuncData} {ps : List Str} {k : Nat} {F : FS} (Fu : Fun K x qual st f fd) (m : mg x = some (.ref f)) (G : FnOk P w K mg base CX0 k f fd ps (spD K F)) (n : Nat) (ks : List Str) (ix : List Nat)
    (h : ∀ (kV doc pm : Value) (an : Option Addr) (cdv ct : Value) (us ws : List Value), us.length = n → ws.length = ks.length → bindArgs (PySem.W.fnOf x qual (defArgs st) (defBody st) (defScope st) .none kV doc pm an cdv ct) ⟨us, ks.zip ws⟩ = pure (ps.zip (perm ix (us ++ ws)))) : HasK P w K mg base x ps k F n ks ix := by
  obtain ⟨oc, od, kV, doc, pm, an, cdv, ct, osl, rfl, lk, hcd⟩ := Fu.ex
  exact ⟨f, _, G, m, Fu.kp, fun s us ws _ h1 h2 => .of_eq (h kV doc pm an cdv ct us ws h1 h2), fun h1 h2 => vals_perm (h1.append h2) ix⟩
end Pd

/-! cells of one's own are left behind: what is handed out is plain data -/
namespace Pd
open PySem L2
open Evl (Ex)
mutual
inductive Rn (n : Nat) (μ : Mu) : W → PyData → Prop
  | d (x : PyData) : Rn n μ (.d x) x
  | m {k : Nat} {ws : List W} {xs : List PyData} : n ≤ k → μ[k]? = some (some (.lst ws)) → Rns n μ ws xs → Rn n μ (.m k) (.list xs)
  | t {ws : List W} {xs : List PyData} : Rns n μ ws xs → Rn n μ (.t ws) (.tuple xs)
inductive Rns (n : Nat) (μ : Mu) : List W → List PyData → Prop
  | nil : Rns n μ [] []
  | cons {w : W} {x : PyData} {ws : List W} {xs : List PyData} : Rn n μ w x → Rns n μ ws xs → Rns n μ (w :: ws) (x :: xs)
end
theorem Rns.ds {n : Nat} {μ : Mu} : ∀ xs : List PyData, Rns n μ (xs.map W.d) xs
  | [] => .nil
  | x :: xs => .cons (.d x) (Rns.ds xs)
theorem Rns.mp {n : Nat} {μ : Mu} {α : Type} (f : α → PyData) : ∀ xs : List α, Rns n μ (xs.map fun x => W.d (f x)) (xs.map f)
  | [] => .nil
  | x :: xs => .cons (.d (f x)) (Rns.mp f xs)
def DataC : C → Prop
  | .lst ws => ∃ xs : List PyData, ws = xs.map W.d
  | .xd _ _ => False
  | .er _ _ => True
  | .dk _ => False
  | .fk _ _ _ => False
section
variable {K : PySem.W.Frag} {A : Addr → Prop} {M M1 : List Addr} {H H1 : Hp} {μ μ1 μ' : Mu} {cs : Mu}
mutual
theorem vr_cut {Hv H0 : Hp} {n : Nat} (hn : M.length = n) : ∀ {w : W} {v v0 : V}, VR K Hv M1 v w → VR K H0 M v0 w → VR K Hv (M1.take n) v w
  | .d x, _, _, h, _ => by cases h with | d h => exact .d h
  | .m k, _, _, h, g => by
    cases h with
    | m h =>
      cases g with
      | m g =>
        refine .m ?_
        rw [List.getElem?_take, if_pos (by rw [← hn]; exact (List.getElem?_eq_some_iff.mp g).1)]
        exact h
  | .t ws, _, _, h, g => by
    cases h with
    | t h1 h2 =>
      cases g with
      | t g1 g2 => exact .t h1 (vrs_cutM hn h2 g2)
  | .f ws, _, _, h, g => by
    cases h with
    | f h1 h2 =>
      cases g with
      | f g1 g2 => exact .f h1 (vrs_cutM hn h2 g2)
  | .k v, _, _, h, _ => by cases h with | k => exact .k _
theorem vrs_cutM {Hv H0 : Hp} {n : Nat} (hn : M.length = n) : ∀ {ws : List W} {vs vs0 : List V}, VRs K Hv M1 vs ws → VRs K H0 M vs0 ws → VRs K Hv (M1.take n) vs ws
  | [], _, _, h, _ => by cases h with | nil => exact .nil
  | w :: ws, _, _, h, g => by
    cases h with
    | cons h1 h2 =>
      cases g with
      | cons g1 g2 => exact .cons (vr_cut hn h1 g1) (vrs_cutM hn h2 g2)
end
theorem vrs_dataM {Hv : Hp} {M M' : List Addr} {vs : List V} {xs : List PyData} (h : VRs K Hv M vs (xs.map W.d)) : VRs K Hv M' vs (xs.map W.d) := VRs.of_dp h.dp
theorem hid_cut {n : Nat} (hl : μ'.length = n) (h1 : μ1 = μ' ++ cs) {a : Addr} (h : hid A (M1.take n) μ' a) : hid A M1 μ1 a := by
  rcases h with z | ⟨k, c, e1, e2⟩
  · exact .inl z
  · have hk : k < n := by
      have := (List.getElem?_eq_some_iff.mp e2).1
      omega
    rw [List.getElem?_take, if_pos hk] at e1
    exact .inr ⟨k, c, e1, by rw [h1, List.getElem?_append_left (by omega)]; exact e2⟩
mutual
theorem rn_dq {n : Nat} (mo1 : MOk K A M1 H1 μ1) (hl : μ'.length = n) (h1 : μ1 = μ' ++ cs) : ∀ {w : W} {d : PyData} {v : V}, Rn n μ1 w d → VR K (vw A M1 μ1 H1) M1 v w → DQ K (vw A (M1.take n) μ' H1) v d
  | _, _, _, .d x, h => by
    cases h with
    | d h => exact dp_mono (fun a o q => vw_of (fun z => (vw_some q).1 (hid_cut hl h1 z)) (vw_some q).2 (vw_nt q)) h
  | _, _, _, .m hk hc hs, h => by
    obtain ⟨a, vs, rfl, hm, e, ru⟩ := cell_get mo1 h hc
    refine .lst (vw_of (fun z => ?_) e) (rns_dq mo1 hl h1 hs ru)
    rcases z with z | ⟨j, c, e1, e2⟩
    · exact mo1.nA a (List.mem_of_getElem? hm) z
    · have hj : j < n := by
        have := (List.getElem?_eq_some_iff.mp e2).1
        omega
      rw [List.getElem?_take, if_pos hj] at e1
      have l1 := List.getElem?_eq_some_iff.mp hm
      have l2 := List.getElem?_eq_some_iff.mp e1
      have := (List.getElem_inj mo1.nd).mp (l1.2.trans l2.2.symm)
      omega
  | _, _, _, .t hs, h => by
    cases h with
    | t g1 g2 => exact .tup (Evl.ex_t (fun a o q => vw_of (fun z => (vw_some q).1 (hid_cut hl h1 z)) (vw_some q).2 (vw_nt q)) g1) (rns_dq mo1 hl h1 hs g2)
theorem rns_dq {n : Nat} (mo1 : MOk K A M1 H1 μ1) (hl : μ'.length = n) (h1 : μ1 = μ' ++ cs) : ∀ {ws : List W} {ds : List PyData} {vs : List V}, Rns n μ1 ws ds → VRs K (vw A M1 μ1 H1) M1 vs ws → DQs K (vw A (M1.take n) μ' H1) vs ds
  | _, _, _, .nil, h => by cases h; exact .nil
  | _, _, _, .cons g1 g2, h => by
    cases h with
    | cons h1' h2' => exact .cons (rn_dq mo1 hl h1 g1 h1') (rns_dq mo1 hl h1 g2 h2')
end
/-- what is changed of the cells that were there is plain data -/
theorem krs_cut {Hv H0 : Hp} {n : Nat} (hn : M.length = n) : ∀ {us us0 : List (L2.Key × V)} {kvs : List (L2.Key × W)}, KRs K Hv M1 us kvs → KRs K H0 M us0 kvs → KRs K Hv (M1.take n) us kvs
  | [], _, [], _, _ => trivial
  | _ :: _, _ :: _, _ :: _, h, g => ⟨h.1, vr_cut hn h.2.1 g.2.1, krs_cut hn h.2.2 g.2.2⟩
  | _ :: _, [], _ :: _, _, g => g.elim
  | [], _, _ :: _, h, _ => h.elim
  | _ :: _, _, [], h, _ => h.elim
def Keeps (μ μ' : Mu) : Prop := ∀ (j : Nat) c, μ'[j]? = some (some c) → μ[j]? = some (some c) ∨ DataC c
theorem Keeps.refl (μ : Mu) : Keeps μ μ := fun _ _ h => .inl h
theorem Keeps.set {μ : Mu} {k : Nat} {xs : List PyData} {ws : List W} (e : ws = xs.map W.d := by first | rfl | simp) : Keeps μ (μ.set k (some (.lst ws))) := fun j c h => by
  by_cases hj : k = j
  · subst hj
    rw [List.getElem?_set, if_pos rfl] at h
    split at h
    · have : C.lst ws = c := by simpa using h
      subst this
      exact .inr ⟨xs, e⟩
    · cases h
  · rw [List.getElem?_set, if_neg hj] at h
    exact .inl h
theorem fz_core {v : V} {w : W} {d : PyData} (mo0 : MOk K A M H μ) (mo1 : MOk K A M1 H1 μ1) (e : Eff A M μ H M1 μ1 H1) (h1 : μ1 = μ' ++ cs) (hl : μ'.length = μ.length) (hc : Keeps μ μ') (r : VR K (vw A M1 μ1 H1) M1 v w) (hr : Rn μ.length μ1 w d) :
    ∃ M2, MOk K A M2 H1 μ' ∧ Eff A M μ H M2 μ' H1 ∧ VR K (vw A M2 μ' H1) M2 v (.d d) ∧ M2 = M1.take μ.length := by
  have vx : Ex (vw A M1 μ1 H1) (vw A (M1.take μ.length) μ' H1) := fun a o q => vw_of (fun z => (vw_some q).1 (hid_cut hl h1 z)) (vw_some q).2 (vw_nt q)
  have hM1 : M1.length = μ'.length + cs.length := by rw [mo1.len, h1, List.length_append]
  refine ⟨M1.take μ.length, ⟨by rw [List.length_take]; omega, mo1.nd.sublist (List.take_sublist _ _), fun a m => mo1.nA a (List.mem_of_mem_take m), fun a m => mo1.al a (List.mem_of_mem_take m), mo1.aA, mo1.tb, fun a o m => mo1.aT a o (m.imp id List.mem_of_mem_take), fun k a c e1 e2 => ?_⟩, ⟨fun k a e1 => ?_, e.own, e.ex.trans vx⟩, .d (rn_dq mo1 hl h1 hr r), rfl⟩
  · have hk : k < μ.length := by
      have := (List.getElem?_eq_some_iff.mp e2).1
      omega
    rw [List.getElem?_take, if_pos hk] at e1
    obtain ⟨o, q1, q2⟩ := mo1.ct k a c e1 (by rw [h1, List.getElem?_append_left (by omega)]; exact e2)
    refine ⟨o, q1, ?_⟩
    cases c with
    | lst ws =>
      obtain ⟨vs, rfl, rv⟩ := q2
      refine ⟨vs, rfl, ?_⟩
      rcases hc k _ e2 with z | ⟨xs, rfl⟩
      · have ha : M[k]? = some (M[k]'(by rw [mo0.len]; exact hk)) := List.getElem?_eq_getElem _
        obtain ⟨o0, p1, vs0, rfl, rv0⟩ := mo0.ct k _ _ ha z
        exact (vrs_cutM (n := μ.length) mo0.len rv rv0).mono vx (Pre.refl _)
      · exact vrs_dataM (rv.mono vx (Pre.refl _))
    | xd d w =>
      obtain ⟨q0, v, rfl, rv⟩ := q2
      refine ⟨q0, v, rfl, ?_⟩
      rcases hc k _ e2 with z | z
      · have ha : M[k]? = some (M[k]'(by rw [mo0.len]; exact hk)) := List.getElem?_eq_getElem _
        obtain ⟨o0, p1, _, v0, rfl, rv0⟩ := mo0.ct k _ _ ha z
        exact (vr_cut (n := μ.length) mo0.len rv rv0).mono vx (Pre.refl _)
      · exact z.elim
    | er x d => exact q2
    | dk kvs =>
      obtain ⟨us, rfl, rv⟩ := q2
      refine ⟨us, rfl, ?_⟩
      rcases hc k _ e2 with z | z
      · have ha : M[k]? = some (M[k]'(by rw [mo0.len]; exact hk)) := List.getElem?_eq_getElem _
        obtain ⟨o0, p1, us0, rfl, rv0⟩ := mo0.ct k _ _ ha z
        exact (krs_cut (n := μ.length) mo0.len rv rv0).mono vx (Pre.refl _)
      · exact z.elim
    | fk od us kvs =>
      obtain ⟨rfl, rv⟩ := q2
      refine ⟨rfl, ?_⟩
      rcases hc k _ e2 with z | z
      · have ha : M[k]? = some (M[k]'(by rw [mo0.len]; exact hk)) := List.getElem?_eq_getElem _
        obtain ⟨o0, p1, rfl, rv0⟩ := mo0.ct k _ _ ha z
        exact (krs_cut (n := μ.length) mo0.len rv rv0).mono vx (Pre.refl _)
      · exact z.elim
  · have hk : k < μ.length := by
      rw [← mo0.len]
      exact (List.getElem?_eq_some_iff.mp e1).1
    rw [List.getElem?_take, if_pos hk]
    exact e.pre k a e1
end
/-- w, with the cells μ1, is data; the cells that were there ahead (μ) come to μ' -/
def Fz (μ : Mu) (w : W) (μ1 : Mu) (R : W → Mu → Prop) : Prop := ∃ μ' cs d, μ1 = μ' ++ cs ∧ μ'.length = μ.length ∧ Keeps μ μ' ∧ Rn μ.length μ1 w d ∧ R (.d d) μ'
theorem Fz.same {μ : Mu} {cs : Mu} {w : W} {d : PyData} {R : W → Mu → Prop} (hr : Rn μ.length (μ ++ cs) w d) (q : R (.d d) μ) : Fz μ w (μ ++ cs) R := ⟨μ, cs, d, rfl, rfl, Keeps.refl μ, hr, q⟩
theorem Fz.id {μ : Mu} {d : PyData} {R : W → Mu → Prop} (q : R (.d d) μ) : Fz μ (.d d) μ R := ⟨μ, [], d, by simp, rfl, Keeps.refl μ, .d d, q⟩
theorem ax_fz {K : PySem.W.Frag} {Γ : G} {μ : Mu} {te : TE} {R : W → Mu → Prop} (h : AX K te Γ μ fun w μ1 => Fz μ w μ1 R) : AX K te Γ μ R := fun A M σ H c Q q =>
  h A M σ H c Q fun M1 H1 v w μ1 mo1 e1 r1 ⟨μ', cs, d, a1, a2, a3, a4, hR⟩ => by
    obtain ⟨M2, mo2, e2, r2, _⟩ := fz_core c.mo mo1 e1 a1 a2 a3 r1 a4
    exact q M2 H1 v _ μ' mo2 e2 r2 hR
theorem as_fz {K : PySem.W.Frag} {Γ : G} {μ : Mu} {t : TS} {R : W → Mu → Prop} (h : AS K t { nx := fun _ μ1 => Fz μ (.d .none) μ1 R, rt := fun w μ1 => Fz μ w μ1 R } Γ μ) : AS K t { nx := fun _ μ1 => R (.d .none) μ1, rt := R } Γ μ := fun A M σ H c E hE => by
  have hn : ∀ M1 σ1 H1 Γ1 μ1, Cn K A M1 σ1 H1 Γ1 μ1 → Eff A M μ H M1 μ1 H1 → Fz μ (.d .none) μ1 R → E.nx σ1 H1 := fun M1 σ1 H1 Γ1 μ1 c1 e1 ⟨μ', cs, d, a1, a2, a3, a4, hR⟩ => by
    have a4' : Rn μ.length μ1 (.d .none) d := a4
    cases a4'
    obtain ⟨M2, mo2, e2, r2, _⟩ := fz_core c.mo c1.mo e1 a1 a2 a3 (.d .non : VR K (vw A M1 μ1 H1) M1 .non (.d .none)) (.d .none)
    refine hE.nx M2 σ1 H1 (List.replicate σ1.length none) μ' ⟨mo2, by simp, fun i w hw => ?_⟩ e2 hR
    rw [List.getElem?_replicate] at hw
    split at hw <;> cases hw
  exact h A M σ H c E ⟨hn, fun M1 H1 v w μ1 mo1 e1 r1 ⟨μ', cs, d, a1, a2, a3, a4, hR⟩ => by
    obtain ⟨M2, mo2, e2, r2, _⟩ := fz_core c.mo mo1 e1 a1 a2 a3 r1 a4
    exact hE.rt M2 H1 v _ μ' mo2 e2 r2 hR, fun M1 σ1 H1 Γ1 μ1 c1 e1 z => z.elim, fun M1 σ1 H1 Γ1 μ1 c1 e1 z => z.elim, fun _ _ _ _ _ _ _ _ _ _ _ _ z => z.elim⟩
/-! cells by number -/
theorem mu_set {μ : Mu} {k : Nat} {c c' : Option C} (h : μ[k]? = some c) : (μ.set k c')[k]? = some c' := by
  rw [List.getElem?_set, if_pos rfl, if_pos (List.getElem?_eq_some_iff.mp h).1]
theorem mu_ne {μ : Mu} {k j : Nat} {c' : Option C} (h : k ≠ j) : (μ.set k c')[j]? = μ[j]? := by rw [List.getElem?_set, if_neg h]
theorem mu_end {μ : Mu} {c : Option C} : (μ ++ [c])[μ.length]? = some c := by rw [List.getElem?_append_right (Nat.le_refl _)]; simp
theorem mu_setEnd {μ : Mu} {c c' : Option C} : (μ ++ [c]).set μ.length c' = μ ++ [c'] := by rw [List.set_append_right _ _ (Nat.le_refl _)]; simp
theorem mu_app {μ ν : Mu} {k : Nat} {c : Option C} (h : μ[k]? = some c) : (μ ++ ν)[k]? = some c := by rw [List.getElem?_append_left (List.getElem?_eq_some_iff.mp h).1]; exact h
theorem mu_setApp {μ ν : Mu} {k : Nat} {c c' : Option C} (h : μ[k]? = some c) : (μ ++ ν).set k c' = μ.set k c' ++ ν := List.set_append_left _ _ (List.getElem?_eq_some_iff.mp h).1
abbrev wInts (ns : List Int) : List W := ns.map fun n => W.d (.int n)
abbrev dInts (ns : List Int) : PyData := .list (ns.map PyData.int)
theorem ints_d (ns : List Int) : wInts ns = (ns.map PyData.int).map W.d := by simp [wInts]
theorem lw_ints (μ : Mu) (ns : List Int) : LW μ (.d (dInts ns)) (wInts ns) := by
  rw [ints_d]
  exact .d _
theorem ln_ints (μ : Mu) (ns : List Int) : LN μ (.d (dInts ns)) (wInts ns) := by
  rw [ints_d]
  exact .d _
theorem rss_ints {μ : Mu} (ns : List Int) : Rss μ (wInts ns) (ns.map PyData.int) := by
  rw [ints_d]
  exact Rss.ds _
theorem rns_ints {n : Nat} {μ : Mu} (ns : List Int) : Rns n μ (wInts ns) (ns.map PyData.int) := by
  rw [ints_d]
  exact Rns.ds _
theorem eqvAll_ints : ∀ xs ys : List Int, PyData.eqvAll (xs.map PyData.int) (ys.map PyData.int) = decide (xs = ys)
  | [], [] => rfl
  | [], _ :: _ => rfl
  | _ :: _, [] => rfl
  | x :: xs, y :: ys => by
    rw [List.map_cons, List.map_cons, PyData.eqvAll, eqvAll_ints xs ys, PyData.eqv]
    by_cases h : x = y
    · subst h
      by_cases h2 : xs = ys
      · subst h2; simp
      · simp [h2]
    · simp [h]
theorem eqv_ints (xs ys : List Int) : PyData.eqv (dInts xs) (dInts ys) = decide (xs = ys) := eqvAll_ints xs ys
theorem canLayAll_ints : ∀ xs : List Int, PyData.canLayAll0 (xs.map PyData.int) = true
  | [] => rfl
  | x :: xs => by rw [List.map_cons, PyData.canLayAll0, canLayAll_ints xs]; rfl
theorem depthAll_ints : ∀ xs : List Int, PyData.depthAll (xs.map PyData.int) ≤ 1
  | [] => by simp [PyData.depthAll]
  | x :: xs => by
    rw [List.map_cons, PyData.depthAll]
    have := depthAll_ints xs
    simp only [PyData.depth]
    omega
theorem shaped_ints (xs : List Int) : SeqAt.shaped (dInts xs) = true := by
  unfold SeqAt.shaped
  have h1 : PyData.canLay0 (dInts xs) = true := canLayAll_ints xs
  have h2 : PyData.depth (dInts xs) ≤ 64 := by
    have := depthAll_ints xs
    simp only [dInts, PyData.depth]
    omega
  rw [h1, decide_eq_true h2]
  rfl
end Pd

namespace Pd
open PySem L2
theorem pow_ok {i j : Int} {a : Nat} (hj : 0 ≤ j) (ha : i.natAbs < 2 ^ a) (h : (a : Int) * j ≤ 2 ^ 27) : COp i j :=
  ⟨hj, Int.le_trans (Int.mul_le_mul_of_nonneg_right (Int.ofNat_le.mpr (PyProof.Rows.intBits_le ha)) hj) h⟩
theorem sz_ok {n : Nat} (h : n ≤ 100000) : n ≤ sizeLine := Nat.le_trans h (by decide)
theorem sz_lt {n : Nat} (h : n < 100000) : n < sizeLine := Nat.lt_of_lt_of_le h (by decide)
theorem atI_get {α : Type} {xs : List α} {i : Nat} {x : α} (h : xs[i]? = some x) : atI xs (i : Int) = some x := by
  unfold atI ixN
  have hi := (List.getElem?_eq_some_iff.mp h).1
  rw [if_pos (by omega), if_pos (by omega)]
  simpa using h
theorem atI_end {α : Type} {xs : List α} {x : α} : atI (xs ++ [x]) (-1) = some x := by
  unfold atI ixN
  rw [if_neg (by omega), if_pos (by simp; omega)]
  have e : ((-1 : Int) + ((xs ++ [x]).length : Int)).toNat = xs.length := by simp; omega
  rw [e]
  simp
theorem atI_int {ns : List Int} {i : Int} {x : Int} (h : atI ns i = some x) : atI (wInts ns) i = some (.d (.int x)) := by
  unfold atI at h ⊢
  rw [show (wInts ns).length = ns.length by simp]
  cases e : ixN ns.length i with
  | none => rw [e] at h; cases h
  | some j =>
    rw [e] at h
    have h' : ns[j]? = some x := h
    show (wInts ns)[j]? = _
    rw [List.getElem?_map, h']
    rfl
theorem ite_t {c : Bool} {A B : Prop} (hc : c = true) (h : A) : if c = true then A else B := by rw [if_pos hc]; exact h
theorem ite_f {c : Bool} {A B : Prop} (hc : c = false) (h : B) : if c = true then A else B := by rw [hc]; rw [if_neg (by decide)]; exact h
theorem ite_b {c : Bool} {A B : Prop} (h1 : c = true → A) (h2 : c = false → B) : if c = true then A else B := by
  cases c with
  | true => rw [if_pos rfl]; exact h1 rfl
  | false => rw [if_neg (by decide)]; exact h2 rfl
/-- a cell that was found: the cells as they are are it -/
theorem cut_int {ns : List Int} {lo hi : Option Int} : cutW (wInts ns) lo hi = wInts ((ns.drop (HT.sIx ns.length 0 lo)).take (HT.sIx ns.length ns.length hi - HT.sIx ns.length 0 lo)) := by
  unfold cutW wInts
  rw [List.length_map, List.map_take, List.map_drop]
end Pd
namespace Pd
open PySem L2
section
variable {μ : Mu} {R : W → Mu → Prop}
theorem NL.d0 (h : R (.d (.list [])) μ) : NL [] μ R := NL.d (xs := []) h rfl
theorem NL.d1 {a : PyData} (h : R (.d (.list [a])) μ) : NL [W.d a] μ R := NL.d (xs := [a]) h rfl
theorem NL.d2 {a b : PyData} (h : R (.d (.list [a, b])) μ) : NL [W.d a, W.d b] μ R := NL.d (xs := [a, b]) h rfl
theorem NL.d3 {a b c : PyData} (h : R (.d (.list [a, b, c])) μ) : NL [W.d a, W.d b, W.d c] μ R := NL.d (xs := [a, b, c]) h rfl
theorem NL.di {ns : List Int} (h : R (.d (dInts ns)) μ) : NL (wInts ns) μ R := NL.d (xs := ns.map PyData.int) h (ints_d ns)
theorem NT.d1 {a : PyData} (h : R (.d (.tuple [a])) μ) : NT [W.d a] μ R := NT.d (xs := [a]) h rfl
theorem NT.d2 {a b : PyData} (h : R (.d (.tuple [a, b])) μ) : NT [W.d a, W.d b] μ R := NT.d (xs := [a, b]) h rfl
theorem NT.d3 {a b c : PyData} (h : R (.d (.tuple [a, b, c])) μ) : NT [W.d a, W.d b, W.d c] μ R := NT.d (xs := [a, b, c]) h rfl
end
theorem eqv_nil (ns : List Int) : PyData.eqv (dInts ns) (.list []) = decide (ns = []) := eqv_ints ns []
theorem mu_set2 {μ : Mu} {k : Nat} {a b : Option C} : (μ.set k a).set k b = μ.set k b := List.set_set ..
end Pd
namespace Pd
open PySem L2
theorem TW.d1 {a : PyData} : TW (.d (.tuple [a])) [.d a] := .d [a]
theorem TW.d2 {a b : PyData} : TW (.d (.tuple [a, b])) [.d a, .d b] := .d [a, b]
theorem TW.d3 {a b c : PyData} : TW (.d (.tuple [a, b, c])) [.d a, .d b, .d c] := .d [a, b, c]
theorem TW.d4 {a b c e : PyData} : TW (.d (.tuple [a, b, c, e])) [.d a, .d b, .d c, .d e] := .d [a, b, c, e]
theorem TW.d5 {a b c e f : PyData} : TW (.d (.tuple [a, b, c, e, f])) [.d a, .d b, .d c, .d e, .d f] := .d [a, b, c, e, f]
end Pd
namespace Pd
open PySem L2
theorem tyw_l {μ : Mu} {xs : List PyData} : TyW μ (.d (.list xs)) "list" := .d (.list xs)
theorem tyw_t {μ : Mu} {xs : List PyData} : TyW μ (.d (.tuple xs)) "tuple" := .d (.tuple xs)
theorem tyw_b {μ : Mu} {x : Bool} : TyW μ (.d (.bool x)) "bool" := .d (.bool x)
theorem tyw_i {μ : Mu} {x : Int} : TyW μ (.d (.int x)) "int" := .d (.int x)
theorem tyw_s {μ : Mu} {x : Str} : TyW μ (.d (.str x)) "str" := .d (.str x)
theorem tyw_n {μ : Mu} : TyW μ (.d .none) "NoneType" := .d .none
end Pd
namespace Pd
open PySem L2
theorem kb_NoneType_list : kitB "NoneType" "list" = some false := by decide +kernel
theorem kb_NoneType_tuple : kitB "NoneType" "tuple" = some false := by decide +kernel
theorem kb_NoneType_bool : kitB "NoneType" "bool" = some false := by decide +kernel
theorem kb_NoneType_int : kitB "NoneType" "int" = some false := by decide +kernel
theorem kb_NoneType_str : kitB "NoneType" "str" = some false := by decide +kernel
theorem kb_bool_list : kitB "bool" "list" = some false := by decide +kernel
theorem kb_bool_tuple : kitB "bool" "tuple" = some false := by decide +kernel
theorem kb_bool_bool : kitB "bool" "bool" = some true := by decide +kernel
theorem kb_bool_int : kitB "bool" "int" = some true := by decide +kernel
theorem kb_bool_str : kitB "bool" "str" = some false := by decide +kernel
theorem kb_int_list : kitB "int" "list" = some false := by decide +kernel
theorem kb_int_tuple : kitB "int" "tuple" = some false := by decide +kernel
theorem kb_int_bool : kitB "int" "bool" = some false := by decide +kernel
theorem kb_int_int : kitB "int" "int" = some true := by decide +kernel
theorem kb_int_str : kitB "int" "str" = some false := by decide +kernel
theorem kb_str_list : kitB "str" "list" = some false := by decide +kernel
theorem kb_str_tuple : kitB "str" "tuple" = some false := by decide +kernel
theorem kb_str_bool : kitB "str" "bool" = some false := by decide +kernel
theorem kb_str_int : kitB "str" "int" = some false := by decide +kernel
theorem kb_str_str : kitB "str" "str" = some true := by decide +kernel
theorem kb_list_list : kitB "list" "list" = some true := by decide +kernel
theorem kb_list_tuple : kitB "list" "tuple" = some false := by decide +kernel
theorem kb_list_bool : kitB "list" "bool" = some false := by decide +kernel
theorem kb_list_int : kitB "list" "int" = some false := by decide +kernel
theorem kb_list_str : kitB "list" "str" = some false := by decide +kernel
theorem kb_tuple_list : kitB "tuple" "list" = some false := by decide +kernel
theorem kb_tuple_tuple : kitB "tuple" "tuple" = some true := by decide +kernel
theorem kb_tuple_bool : kitB "tuple" "bool" = some false := by decide +kernel
theorem kb_tuple_int : kitB "tuple" "int" = some false := by decide +kernel
theorem kb_tuple_str : kitB "tuple" "str" = some false := by decide +kernel
end Pd

/-! Err: own error classes whose base's __init__ says super().__init__(word) and self.value = value. -/
namespace PySem
namespace OwnErr
open PySem.W PySem.Calls PyProof.Rows PySem.HandSPX
abbrev eA (p1 p2 : Pos) : Arguments := { posonlyargs := [], args := [{ arg := "self", annotation := none, pos := p1 }, { arg := "value", annotation := none, pos := p2 }], vararg := none, kwonlyargs := [], kw_defaults := [], kwarg := none, defaults := [] }
abbrev eB (wd : Str) (i : Nat) (q : Nat → Pos) : List Stmt :=
  [.Expr (.Call (.Attribute (.Call (.Name "super" (q 0)) [] [] (q 1)) "__init__" (q 2)) [.Constant (.str wd) i (q 3)] [] (q 4)) (q 5), .Assign [.Attribute (.Name "self" (q 6)) "value" (q 7)] (.Name "value" (q 8)) (q 9)]
abbrev eS : Scope := { kind := .function, names := [(PySem.Str.ofString "self", .local), (PySem.Str.ofString "value", .local), (PySem.Str.ofString "__class__", .free), (PySem.Str.ofString "super", .globalImplicit)], isGenerator := false, isCoroutine := false, more := [] }
/-- what the written part says of the base D and of its __init__ at fI -/
structure Bse (P : Program) (K : Frag) (D fI : Addr) : Prop where
  fn : ∃ (oc kV doc pm ct ccl cl : Value) (od an cdd cld : Option Addr) (cda cc : Addr) (osl ccs csl : Array (Option Value)) (vs : Array Value) (file : Str) (tf : Tok) (p1 p2 : Pos) (wd : Str) (i : Nat) (q : Nat → Pos),
    K.lookup fI = some ⟨oc, od, .func (ksFn "__init__" "WindowError.__init__" (eA p1 p2) (eB wd i q) eS .none kV doc pm an (.ref cda) ct cc), osl⟩ ∧ codeIn K (.ref cda) "WindowError.__init__" = true ∧
    K.lookup cda = some ⟨ccl, cdd, .fields vs, ccs⟩ ∧ vs[2]? = some (.str file tf) ∧ ((P.main.file : Str) == file) = true ∧ K.lookup cc = some ⟨cl, cld, .cell (some (.ref D)), csl⟩ ∧
    ∀ env : Env, ∃ pl : Sem Bool, eval (.Call (.Attribute (.Call (.Name "super" (q 0)) [] [] (q 1)) "__init__" (q 2)) [.Constant (.str wd) i (q 3)] [] (q 4)) env = (do
      let ov ← attributeBase (.Call (.Name "super" (q 0)) [] [] (q 1)) "__init__" env (eval (.Call (.Name "super" (q 0)) [] [] (q 1)) env)
      standAt (q 2).atName
      let (f, first) ← holding [ov] (getMethod ov "__init__" pl)
      callWith (q 4) f first (backTo (q 4) (starEach [.Constant (.str wd) i (q 3)] env)) [])
  dc : ∃ cd, clsIn K D = some cd
  top : (P.main.scope.names.lookup ("super" : Str)).isSome = false
  any : nsIn K cStatics "thirdparty.any" = some none
  ty : typeIn K (.ref fI) = some (.type "function")
/-- .. of a class C below it -/
structure Sub (K : Frag) (C D fI : Addr) : Prop where
  ox : L2.OexC K C
  xf : L2.XfC K C
  noN : findIn K (.ref C) "value" = some none
  iC : findIn K (.ref C) "__init__" = some (some (.ref fI))
  below : mroIn K C (.ref D) = some true
  sup : ks_superIn K C D "__init__" = some (some (.builtin "ValueError.__init__"))
  ve : subIn K (.ref C) (.type "ValueError") = some true
structure Glb (mg : Str → Option Value) (h : Heap) : Prop where
  g : h.Ns mainGlobals mg
  b : ∃ mb, h.Ns builtinsNs mb ∧ ∀ x : Str, x ≠ "__name__" → mb x = bootBuiltins x
theorem Glb.keeps {mg : Str → Option Value} {h h' : Heap} (G : Glb mg h) (k : ∀ b o, h.get? b = some o → h'.get? b = some o) : Glb mg h' :=
  ⟨G.g.keeps k, let ⟨mb, a, b⟩ := G.b; ⟨mb, a.keeps k, b⟩⟩
/-- what is made: the error at e, its dict at d -/
structure Made (h h' : Heap) (e C d : Addr) (v : Value) : Prop where
  keep : ∀ b o, h.get? b = some o → h'.get? b = some o
  new : h.objs.size ≤ e
  obj : ∃ oe vs, h'.get? e = some oe ∧ oe.cls = .ref C ∧ oe.dict = some d ∧ oe.data = .fields vs ∧ vs[1]? = some .none
  dbig : h.objs.size ≤ d
  dne : d ≠ e
  ns : h'.Ns1 d (fun y => if y = "value" then some v else none)
section
variable {prog : Program} {w : World} {A : Around} {E : Value → Shared → Prop} {R : Result → Shared → Prop} {s : Shared} {K : Frag} {mg : Str → Option Value} {C D fI : Addr}
/-- ValueError.__init__ bound to the error, called -/
theorem call_mw {nm q : Str} {N : Addr} {bs bm : List Value} {hdct : Bool} {sn : List Str} {sub : List Value} {ab : Bool} {col : Option Bool} {dd : Option Addr} {k0 k1 k2 k3 k5 : Option Value} {u e t0 : Addr} {rest : List Value} {Q : Value → Shared → Prop}
    (hC : s.heap.get? C = some (excClassObj nm q C N bs bm hdct sn sub ab col dd k0 k1 k2 k3 k5 "ValueError.__new__")) (he : s.heap.get? e = some (excO C t0)) (hu : s.heap.get? u = some (kxs_mw "ValueError.__init__" e)) (hz : rest.length ≤ sizeLine)
    (fin : ∀ h' t1, (∀ b o, b ≠ e → s.heap.get? b = some o → h'.get? b = some o) → h'.get? e = some (excO C t1) → Q .none { s with heap := h' }) :
    wpAny (model prog w) A (call (.ref u) rest) Q E s := by
  obtain ⟨hh, g, d, tk, os⟩ := s
  have FB := F.excBase_ValueError
  refine wpAny_call (codeAny_of_tree (?_ : wpAny _ A.in1 (callAny (.ref u) ⟨rest, []⟩) _ _ _))
  rw [callAny]
  refine wpAny_bind (wpAny_load hu ?_)
  have tt : (Value.type "method-wrapper" == Value.type "method" || Value.type "method-wrapper" == Value.type "builtin_function_or_method" || Value.type "method-wrapper" == Value.type "method-wrapper") = true := by decide
  simp only [tt, if_true]
  refine KFB.if_so (by decide) (wpAny_bind (check_bound_init FB.toExcCallFacts hC he rfl (wpAny_bind (wpAny_pure (wpAny_pure ?_)))))
  refine ⟨plainId_quiet FB.init.plain _, codeAny_builtin FB.initEntry ?_⟩
  exact exc_init_tree (cls := .ref C) (t0 := t0) (dv := none) (c2 := .none) (c3 := .none) (b4 := .bool false) he hz fun h' k x _ => fin h' _ k x

theorem err_init (B : Bse prog K D fI) (T : Sub K C D fI) {x t0 : Addr} {v : Value} (X : K.In s.heap) (G : Glb mg s.heap) (hsup : mg "super" = none) (hlim : s.heap.NoLimit) (hx : s.heap.get? x = some (excO C t0)) (hnx : K.lookup x = none) (hroom : A.depth < recursionLimit)
    (hq : ∀ h' tk dx t1, (∀ b o, b ≠ x → s.heap.get? b = some o → h'.get? b = some o) → h'.get? x = some { cls := .ref C, dict := some dx, data := .fields #[.ref t1, .none, .none, .none, .bool false, .none] } → s.heap.objs.size ≤ dx → dx ≠ x →
      h'.Ns1 dx (fun y => if y = "value" then some v else none) → R (.ok (.ret .none)) { s with heap := h', toks := tk }) :
    codeAny (model prog w) A (.call (.ref fI) ⟨[.ref x, v], []⟩) R s := by
  obtain ⟨oc, kV, doc, pm, ct, ccl, cl, od, an, cdd, cld, cda, cc, osl, ccs, csl, vs, file, tf, p1, p2, wd, ix, q, ho, hcd, hco, hvs, hfile, hcell, hev⟩ := B.fn
  obtain ⟨cdD, hD⟩ := B.dc
  obtain ⟨nm, qn, N, bs, bm, sn, sub, ab, col, dd, k0, k1, k2, k3, k5, hC, hbm⟩ := T.ox.cls
  have hcl : clsIn K C = some { name := nm, bases := bs, mro := .ref C :: bm, ns := N, qualname := qn, hasDict := true, slotNames := sn, subclasses := sub, abstract := ab, collection := col, hasDel := false } := by unfold clsIn; rw [hC] <;> rfl
  refine ks_codeAny_call_defAt (fd := ksFn "__init__" "WindowError.__init__" (eA p1 p2) (eB wd ix q) eS .none kV doc pm an (.ref cda) ct cc) (body := eB wd ix q) (binds := [("self", .ref x), ("value", v)]) hroom (X _ _ ho) rfl hlim (codeRec_of X hcd) rfl (BindsTo.of_eq (by first | rfl | with_unfolding_all rfl)) (show ∀ y ∈ eS.names, y.2 ≠ .cell by decide) (locs rfl) (fun h₁ hns k => ?_) rfl rfl rfl
  have hxL : s.heap.objs.size ≠ x := Nat.ne_of_gt (Heap.lt_size hx)
  have X₁ : K.In h₁ := X.keeps k
  have hx₁ := k _ _ hx
  have G₁ := G.keeps k
  obtain ⟨mb, hmb, hmb2⟩ := G₁.b
  have hn : h₁.Ns s.heap.objs.size (fun y => ([("self", .ref x), ("value", v)] : List (Str × Value)).reverse.lookup y) := hns
  obtain ⟨oD, hD1, hD2⟩ : ∃ oD, h₁.get? D = some oD ∧ oD.data = .cls cdD := by
    unfold clsIn at hD
    split at hD
    · rename_i c d cd' sl ho
      cases hD
      exact ⟨_, X₁ _ _ ho, rfl⟩
    · cases hD
  have I : InstAt h₁ x (excO C t0) C none := ⟨hx₁, rfl, rfl, trivial⟩
  obtain ⟨h0, g, dr, tk, os⟩ := s
  show _root_.PySem.wpAt (model prog w) (A.deeper (ksEnv "WindowError.__init__" eS h0.objs.size fI (.ref cda) cc)) (.func (eB wd ix q) (ksEnv "WindowError.__init__" eS h0.objs.size fI (.ref cda) cc)) (execs (eB wd ix q) (ksEnv "WindowError.__init__" eS h0.objs.size fI (.ref cda) cc)) _ _ _
  obtain ⟨pl, hpl⟩ := hev (ksEnv "WindowError.__init__" eS h0.objs.size fI (.ref cda) cc)
  refine ks_wpAt_execs_cons (ks_wpAt_Expr_any (ks_wpAt_MethodCall (pl := pl) ?_ hpl))
  refine ks_wpAt_super_base (env := ksEnv "WindowError.__init__" eS h0.objs.size fI (.ref cda) cc) rfl rfl (by decide) rfl (X₁ _ _ ho) rfl rfl rfl (X₁ _ _ hco) rfl hvs hfile B.top ?_
  refine ks_loadName_global rfl rfl (loadGlobal_builtin (env := ksEnv "WindowError.__init__" eS h0.objs.size fI (.ref cda) cc) G₁.g hsup hmb ((hmb2 _ (by decide)).trans (by first | boot_by_name | rfl | kernel_rfl)) ⟨rfl, ?_⟩)
  refine wpAny_loadName_free rfl rfl rfl ⟨_, X₁ _ _ hcell, rfl⟩ ?_
  refine wpAny_loadName_local rfl rfl hn (show _ = some (.ref x) from rfl) ?_
  refine ks_wpAny_isType_cls hD1 hD2 ⟨rfl, ?_⟩
  refine ks_wpAny_call_super hD1 hD2 hx₁ rfl (fun c e => ?_) (looks_mroIn X₁ T.below) (fun h2 e2 k2 => ?_)
  · cases e
  have X₂ : K.In h2 := X₁.keeps k2
  refine kxs_getMethod kxs_ValueError e2 (looks_opaque X₂ B.any) (l₀ := .ref C :: bm) ((looks_clsIn X₂ hcl).andThen .now) rfl X₂ ?_ ?_ ?_ (by decide) ?_
  · have z := T.sup
    unfold ks_superIn at z
    rw [hcl] at z
    exact z
  · exact (I.type (M := model prog w)).keeps k2 |>.andThen (looks_subIn X₂ T.ve)
  · have I2 : InstAt h2 x (excO C t0) C none := ⟨k2 _ _ hx₁, rfl, rfl, trivial⟩
    exact ks_ne X₂ I2 hcl
  refine kxs_callWith (i := "ValueError.__init__") (x := x) rfl (evalArgs_plain ?_)
  refine Calls.spliced_cons (Calls.Constant_str (k := ix) (pos := q 3) (Calls.spliced_nil ⟨?_, ?_⟩))
  · exact Heap.get?_push_size _ rfl
  refine call_mw (C := C) (t0 := t0) (X₂.keeps (fun b o e => Heap.get?_push_of_some _ e) _ _ hC) (Heap.get?_push_of_some _ (k2 _ _ hx₁)) (Heap.get?_push_size _ rfl) (by rw [sizeLine_eq]; exact (by decide : 1 ≤ 16777216)) fun h3 t1 k3 e3 => ?_
  have up : ∀ b o, b ≠ x → h₁.get? b = some o → h3.get? b = some o := fun b o hb e => k3 b o hb (Heap.get?_push_of_some _ (k2 b o e))
  have X₃ : K.In h3 := fun b o e => up b o (fun z => by rw [z, hnx] at e; cases e) (X₁ b o e)
  have hn3 : h3.Ns h0.objs.size (fun y => ([("self", .ref x), ("value", v)] : List (Str × Value)).reverse.lookup y) := by
    obtain ⟨o, es, ep, e, r⟩ := hn
    exact ⟨o, es, ep, up _ _ hxL e, r⟩
  refine ks_wpAt_execs_cons (wpAt_of_wpAny (plainObj_wpAny_Assign_Attribute ?_))
  refine wpAny_Name (wpAny_loadName_local rfl rfl hn3 (show _ = some v from rfl) ?_) (by decide)
  refine wpAny_Name (wpAny_loadName_local rfl rfl hn3 (show _ = some (.ref x) from rfl) ?_) (by decide)
  refine set_plain X₃ (ox := excO C t1) (od := none) ⟨e3, rfl, rfl, trivial⟩ T.ox.sa ?_
  refine exc_osa X₃ e3 hcl (show refsVE (.ref C :: bm) = true from hbm) rfl T.noN (fun h4 tk4 dx k4 dn dne hx4 hn4 => ?_)
  have z : h0.objs.size < h3.objs.size := hn3.lt
  exact wpAt_of_wpAny (wpAny_execs_nil (hq h4 tk4 dx t1 (fun b o hb e => k4 b o hb (up b o hb (k b o e))) hx4 (Nat.le_of_lt (Nat.lt_of_lt_of_le z dn)) dne hn4))
theorem err_made (B : Bse prog K D fI) (T : Sub K C D fI) {v : Value} (X : K.In s.heap) (G : Glb mg s.heap) (hsup : mg "super" = none) (hlim : s.heap.NoLimit) (hroom : A.depth + 1 < recursionLimit)
    (hq : ∀ h' tk e d, Made s.heap h' e C d v → R (.ok (.ret (.ref e))) { s with heap := h', toks := tk }) :
    codeAny (model prog w) A (.call (.ref C) ⟨[v], []⟩) R s := by
  obtain ⟨nm, q, N, bs, bm, sn, sub, ab, col, dd, k0, k1, k2, k3, k5, hC, hbm⟩ := T.ox.cls
  obtain ⟨hp, g, dr, tk, os⟩ := s
  have up : ∀ b o, hp.get? b = some o → ((hp.push (kdv_tup [v])).push (excO C hp.objs.size)).get? b = some o := fun b o e => Heap.get?_push_of_some _ (Heap.get?_push_of_some _ e)
  have hx : ((hp.push (kdv_tup [v])).push (excO C hp.objs.size)).get? (hp.objs.size + 1) = some (excO C hp.objs.size) := by heap_get
  have hnx : K.lookup (hp.objs.size + 1) = none := by
    cases e : K.lookup (hp.objs.size + 1) with
    | none => rfl
    | some o =>
      have z := Heap.lt_size (X _ _ e)
      exact absurd (Nat.lt_of_succ_lt z) (Nat.lt_irrefl _)
  refine call_own F.excBase_ValueError (fun Y => refsVE_contains Y bm hbm) (X _ _ hC) (looks_findIn X T.iC) (fun self => bind_fn X self B.ty) (by rw [sizeLine_eq]; exact (by decide : 1 ≤ 16777216)) ?_
  refine err_init (s := ⟨(hp.push (kdv_tup [v])).push (excO C hp.objs.size), g, dr, tk, os⟩) B T (X.keeps up) (G.keeps up) hsup (hlim.keeps up) hx hnx (show A.depth + 1 < recursionLimit from hroom) fun h' tk' dx t1 k' ex dn dne hns => ?_
  have old : ∀ b o, hp.get? b = some o → h'.get? b = some o := fun b o e => k' b o (Nat.ne_of_lt (Nat.lt_succ_of_lt (Heap.lt_size e))) (up b o e)
  have z : hp.objs.size + 1 + 1 ≤ dx := by simpa only [Heap.size_push] using dn
  exact ⟨rfl, hq h' tk' _ dx ⟨old, Nat.le_succ _, ⟨_, _, ex, rfl, rfl, rfl, rfl⟩, (show hp.objs.size ≤ dx by omega), dne, hns⟩⟩
end
end OwnErr
end PySem
namespace L2
open PySem PySem.Spec PyProof.Rows
theorem relO_value {v : V} {u : Value} (r : RelV v u) (f : Str) : RelO (List.lookup f [(("value" : Str), v)]) (if f = "value" then some u else none) := by
  by_cases e : f = "value"
  · subst e
    rw [if_pos rfl, show List.lookup ("value" : Str) [(("value" : Str), v)] = some v from by simp [List.lookup]]
    exact r
  · have q : (f == ("value" : Str)) = false := by simpa using e
    rw [if_neg e, show List.lookup f [(("value" : Str), v)] = none from by simp [List.lookup, q]]
    trivial
/-- C(e): its class and a new dict with the field value -/
def tMkErr (C : Addr) (ta : TA) : St → Hp → XK → Prop := fun σ H Q => ta σ H fun vs H1 => ∃ v, vs = [v] ∧ ∀ d, H1 d = none → Q (.ref C) (some d) (upd H1 d (.xd [(("value" : Str), v)]))
/-- a class of errors, as the text's top leaves it -/
structure Err (P : Program) (K : PySem.W.Frag) (mg : Str → Option Value) (x : Str) (C : Addr) : Prop where
  ex : ∃ D fI : Addr, PySem.OwnErr.Bse P K D fI ∧ PySem.OwnErr.Sub K C D fI
  gC : mg x = some (.ref C)
  sup : mg "super" = none
theorem pmk_err {X : Cx} {C : Addr} {x : Str} {a : Expr} {ta : TA} {p pos : Pos} {k : Nat} (T : Err X.prog X.K X.mg x C) (hr : Room k X.A) (ha : PA X [a] ta) (hg : Gl X x := by rfl) (hdb : (x == ("__debug__" : Str)) = false := by decide)
    (he : starEach (a :: []) X.env = (false, eval a X.env) :: starEach [] X.env := by rfl) (hpl : (backTo pos (starEach [] X.env)).any (·.1) = false := by rfl) :
    PMk X (.Call (.Name x p) [a] [] pos) (tMkErr C ta) := by
  obtain ⟨D, fI, B, S⟩ := T.ex
  intro pins s σ H Q I h
  refine wpAny_Call_Name_kw (ld_glob I hg T.gC ?_ hdb)
  refine PySem.W.callWith_K (h₀ := X.base) I.ok.mod.kin S.ox.kC (thn (ha.run pos pins s σ H _ I h) fun us s1 ⟨vs, H1, I1, r1, v, ev, q1⟩ => ⟨I1.kIn, ?_⟩) he hpl
  subst ev
  cases r1 with
  | @cons _ v' _ us' rv rn =>
    cases rn
    show wpAny _ _ (call (.ref C) [v']) _ _ _
    have G : PySem.OwnErr.Glb X.mg s1.heap := ⟨I1.mod.glob.keeps I1.bk, let ⟨mb, a, b⟩ := I1.mod.blt; ⟨mb, a.keeps I1.bk, b⟩⟩
    have hlim := I1.nolimit
    obtain ⟨hp, g, dr, tk, os⟩ := s1
    refine wpAny_call (PySem.OwnErr.err_made B S I1.kIn G T.sup hlim (by have := hr.dp; omega) fun h' tk' e d M => ?_)
    show MkP X pins σ Q (.ref e) ⟨h', g, dr, tk', os⟩
    obtain ⟨oe, fv, hoe, hc, hd, hdat, h1⟩ := M.obj
    obtain ⟨G', g1, g2⟩ := restrict h' fun b => decide (b ≠ e)
    have gk : ∀ b, b ≠ e → G'.get? b = h'.get? b := fun b hb => g1 b (decide_eq_true hb)
    have ge : G'.get? e = none := g2 e (by simp)
    have J : Inv X pins σ (upd H1 d (.xd [(("value" : Str), v)])) ⟨G', g, dr, tk', os⟩ :=
      I1.laid (t' := tk') (fun b o q => (gk b (Nat.ne_of_lt (Nat.lt_of_lt_of_le (Heap.lt_size q) M.new))).trans (M.keep b o q)) M.dbig ⟨_, M.ns.at (fun o q => (gk d M.dne).trans q), fun f => relO_value rv f⟩
    have sub : ∀ b o, G'.get? b = some o → h'.get? b = some o := fun b o q => by
      by_cases hb : b = e
      · rw [hb, ge] at q
        cases q
      · exact (gk b hb).symm.trans q
    have ne : (upd H1 d (.xd [(("value" : Str), v)])) e = none := (upd_ne (Ne.symm M.dne)).trans (I1.hok.fresh M.new)
    exact ⟨e, oe, fv, ⟨G', g, dr, tk', os⟩, _, .ref C, some d, rfl, J, sub, ge, hoe, ⟨hc, hd⟩, hdat, h1, ne, rfl, I1.bare, raises_own S.ox.exC S.ox.tyC, q1 d (I1.hok.fresh M.dbig)⟩
end L2

/-! Pd8: defs that raise, try. An error's dict stands as a cell of its own. -/
namespace Pd
open PySem L2
open Evl (Ex)
open PyProof.Rows
variable {K : PySem.W.Frag}
/-! ### an error's dict goes out of sight: values do not hang on it -/
def ExL (H H' : Hp) : Prop := ∀ a o, H a = some o → (∀ fs, o ≠ .xd fs) → H' a = some o
theorem rdL {H H' : Hp} {a : Addr} {o : HO} (e : ExL H H') (ho : ∀ fs, o ≠ .xd fs) (h : Rd H a o) : Rd H' a o := by
  rcases h with h | ⟨o', h⟩
  · exact .inl (e _ _ h ho)
  · exact .inr ⟨o', e _ _ h fun fs z => by cases z⟩
theorem lstL {H H' : Hp} {a : Addr} {xs : List V} (e : ExL H H') (h : SqL K H a xs) : SqL K H' a xs := by
  rcases h with h | h
  · exact .inl (rdL e (fun fs z => by cases z) h)
  · exact .inr h
theorem tupL {H H' : Hp} {a : Addr} {xs : List V} (e : ExL H H') (h : SqT K H a xs) : SqT K H' a xs := by
  rcases h with h | h
  · exact .inl (rdL e (fun fs z => by cases z) h)
  · exact .inr h
mutual
theorem dqL {H H' : Hp} (e : ExL H H') : ∀ {v : V} {d : PyData}, DQ K H v d → DQ K H' v d
  | _, _, .non => .non
  | _, _, .bl b => .bl b
  | _, _, .int i => .int i
  | _, _, .str x => .str x
  | _, _, .lst h1 h2 => .lst (e _ _ h1 fun fs z => by cases z) (dqsL e h2)
  | _, _, .tup h1 h2 => .tup (tupL e h1) (dqsL e h2)
theorem dqsL {H H' : Hp} (e : ExL H H') : ∀ {vs : List V} {ds : List PyData}, DQs K H vs ds → DQs K H' vs ds
  | _, _, .nil => .nil
  | _, _, .cons h1 h2 => .cons (dqL e h1) (dqsL e h2)
end
mutual
theorem vrL {H H' : Hp} {M M' : List Addr} (e : ExL H H') (p : Pre M M') : ∀ {v : V} {w : W}, VR K H M v w → VR K H' M' v w
  | _, _, .d h => .d (dqL e h)
  | _, _, .m h => .m (p _ _ h)
  | _, _, .t h1 h2 => .t (tupL e h1) (vrsL e p h2)
  | _, _, .f h1 h2 => .f (lstL e h1) (vrsL e p h2)
  | _, _, .k v => .k v
theorem vrsL {H H' : Hp} {M M' : List Addr} (e : ExL H H') (p : Pre M M') : ∀ {vs : List V} {ws : List W}, VRs K H M vs ws → VRs K H' M' vs ws
  | _, _, .nil => .nil
  | _, _, .cons h1 h2 => .cons (vrL e p h1) (vrsL e p h2)
end
theorem krsL {H H' : Hp} {M M' : List Addr} (e : ExL H H') (p : Pre M M') : ∀ {us : List (L2.Key × V)} {kvs : List (L2.Key × W)}, KRs K H M us kvs → KRs K H' M' us kvs
  | [], [], _ => trivial
  | _ :: _, _ :: _, h => ⟨h.1, vrL e p h.2.1, krsL e p h.2.2⟩
  | [], _ :: _, h => h.elim
  | _ :: _, [], h => h.elim
section
variable {A : Addr → Prop} {M : List Addr} {H : Hp} {μ : Mu} {d : Addr} {v : V} {w : W}
theorem hideL (hl : M.length = μ.length) (hv : vw A M μ H d = some (.xd [(("value" : PySem.Str), v)])) : ExL (vw A M μ H) (vw A (M ++ [d]) (μ ++ [some (.xd d w)]) H) := fun a o h ho => by
  obtain ⟨h1, h2⟩ := vw_some h
  refine vw_of (fun z => ?_) h2 (vw_nt h)
  rcases (hid_new hl).mp z with z | z
  · exact h1 z
  · subst z
    rw [hv] at h
    exact ho _ (Option.some.inj h).symm
/-- the error's dict becomes a cell -/
theorem MOk.hide (mo : MOk K A M H μ) (nm : d ∉ M) (hv : vw A M μ H d = some (.xd [(("value" : PySem.Str), v)])) (r : VR K (vw A M μ H) M v w) : MOk K A (M ++ [d]) H (μ ++ [some (.xd d w)]) := by
  obtain ⟨nh, hd⟩ := vw_some hv
  have e := hideL (w := w) mo.len hv
  refine ⟨by simp [mo.len], ?_, fun a m => ?_, fun a m => ?_, mo.aA, mo.tb, fun a o m z => ?_, fun j b c h1 h2 => ?_⟩
  · rw [List.nodup_append]
    refine ⟨mo.nd, by simp, fun a m b mb z => ?_⟩
    have : b = d := by simpa using mb
    subst this
    subst z
    exact nm m
  · rcases List.mem_append.mp m with m | m
    · exact mo.nA a m
    · have : a = d := by simpa using m
      subst this
      exact fun z => nh (.inl z)
  · rcases List.mem_append.mp m with m | m
    · exact mo.al a m
    · have : a = d := by simpa using m
      subst this
      rw [hd]
      intro z
      cases z
  · by_cases w : a = d
    · subst w
      rw [hd] at z
      cases z
      exact ⟨fun _ z => (by cases z), fun _ _ z => (by cases z)⟩
    · refine mo.aT a o (m.imp id fun m => ?_) z
      rcases List.mem_append.mp m with m | m
      · exact m
      · exact absurd (by simpa using m) w
  · by_cases hj : j < M.length
    · rw [List.getElem?_append_left hj] at h1
      rw [List.getElem?_append_left (by have := mo.len; omega)] at h2
      obtain ⟨u, q1, q2⟩ := mo.ct j b c h1 h2
      refine ⟨u, q1, ?_⟩
      cases c with
      | lst ws =>
        obtain ⟨vs, g1, g2⟩ := q2
        exact ⟨vs, g1, vrsL e pre_snoc g2⟩
      | xd d' w' =>
        obtain ⟨g0, v', g1, g2⟩ := q2
        exact ⟨g0, v', g1, vrL e pre_snoc g2⟩
      | er x' d' => exact q2
      | dk kvs =>
        obtain ⟨us, g1, g2⟩ := q2
        exact ⟨us, g1, krsL e pre_snoc g2⟩
      | fk od us kvs => exact ⟨q2.1, krsL e pre_snoc q2.2⟩
    · have hj2 : j = M.length := by
        have := (List.getElem?_eq_some_iff.mp h1).1
        simp at this
        omega
      subst hj2
      rw [List.getElem?_append_right (Nat.le_refl _)] at h1
      rw [mo.len, List.getElem?_append_right (Nat.le_refl _)] at h2
      simp at h1 h2
      subst h1 h2
      exact ⟨_, hd, rfl, v, rfl, vrL e pre_snoc r⟩
end
/-- an error's value, the cells (its own dict's last): as data; the cells that were there (μ) come to μ' -/
def FzX (μ : Mu) (x : PySem.Str) (w : W) (μ1 : Mu) (S : PySem.Str → W → Mu → Prop) : Prop := ∃ μ' cs d, μ1 = μ' ++ cs ∧ μ'.length = μ.length ∧ Keeps μ μ' ∧ Rn μ.length μ1 w d ∧ S x (.d d) μ'
mutual
theorem Rn.app {n : Nat} {μ ν : Mu} : ∀ {w : W} {x : PyData}, Rn n μ w x → Rn n (μ ++ ν) w x
  | _, _, .d x => .d x
  | _, _, .m a b c => .m a (mu_app b) (Rns.app c)
  | _, _, .t a => .t (Rns.app a)
theorem Rns.app {n : Nat} {μ ν : Mu} : ∀ {ws : List W} {xs : List PyData}, Rns n μ ws xs → Rns n (μ ++ ν) ws xs
  | _, _, .nil => .nil
  | _, _, .cons a b => .cons (Rn.app a) (Rns.app b)
end
theorem last_get {M : List Addr} {d : Addr} {μ : Mu} (h : (M ++ [d]).length = μ.length + 1) : (M ++ [d])[μ.length]? = some d := by
  have : M.length = μ.length := by simpa using h
  rw [← this, List.getElem?_append_right (Nat.le_refl _)]
  simp
theorem fzx_core {A : Addr → Prop} {M M1 : List Addr} {H H1 : Hp} {μ μ1 : Mu} {d : Addr} {w : W} {x : PySem.Str} {S : PySem.Str → W → Mu → Prop} (mo0 : MOk K A M H μ) (mo1 : MOk K A (M1 ++ [d]) H1 (μ1 ++ [some (.xd d w)])) (e : Eff A M μ H (M1 ++ [d]) (μ1 ++ [some (.xd d w)]) H1) (hz : FzX μ x w μ1 S) :
    ∃ M2 μ2 u, MOk K A (M2 ++ [d]) H1 (μ2 ++ [some (.xd d u)]) ∧ Eff A M μ H (M2 ++ [d]) (μ2 ++ [some (.xd d u)]) H1 ∧ S x u μ2 := by
  obtain ⟨μ', cs, dt, h1, hl, hk, hr, hS⟩ := hz
  have hlen : (M1 ++ [d]).length = μ1.length + 1 := by rw [mo1.len]; simp
  obtain ⟨o, ho, _, v, hv, rv⟩ := mo1.ct μ1.length d (.xd d w) (last_get hlen) (by rw [List.getElem?_append_right (Nat.le_refl _)]; simp)
  subst hv
  have h1' : μ1 ++ [some (.xd d w)] = μ' ++ (cs ++ [some (.xd d w)]) := by rw [h1, List.append_assoc]
  obtain ⟨M2, mo2, e2, r2, hM2⟩ := fz_core mo0 mo1 e h1' hl hk rv hr.app
  have hle : μ.length ≤ μ1.length := by rw [h1, List.length_append]; omega
  have hM1 : M1.length = μ1.length := by simpa using hlen
  have nm : d ∉ M2 := fun m => by
    rw [hM2, List.take_append_of_le_length (by omega)] at m
    have := mo1.nd
    rw [List.nodup_append] at this
    exact this.2.2 d (List.mem_of_mem_take m) d (by simp) rfl
  have hvis : vw A M2 μ' H1 d = some (.xd [(("value" : PySem.Str), v)]) := vw_of (fun z => by
    rcases z with z | ⟨k, c, q1, _⟩
    · exact mo1.nA d (by simp) z
    · exact nm (List.mem_of_getElem? q1)) ho
  refine ⟨M2, μ', .d dt, mo2.hide nm hvis r2, ⟨e2.pre.trans pre_snoc, e2.own, fun a o' q => ?_⟩, hS⟩
  obtain ⟨n1, q1⟩ := vw_some (e2.ex a o' q)
  refine vw_of (fun z => ?_) q1 (vw_nt q)
  rcases (hid_new mo2.len).mp z with z | z
  · exact n1 z
  · subst z
    have z2 := (vw_some (e.ex a o' q)).1
    exact z2 (.inr ⟨μ1.length, .xd a w, last_get hlen, by rw [List.getElem?_append_right (Nat.le_refl _)]; simp⟩)
/-! ### defs that raise: by values -/
abbrev FX := List W → Mu → (W → Mu → Prop) → (PySem.Str → W → Mu → Prop) → Prop
def spX (K : PySem.W.Frag) (F : FX) : Sp := fun vs H Q E => ∃ (A : Addr → Prop) (M : List Addr) (μ : Mu) (ws : List W) (R : W → Mu → Prop) (S : PySem.Str → W → Mu → Prop), MOk K A M H μ ∧ VRs K (vw A M μ H) M vs ws ∧ F ws μ R S ∧
  (∀ M' H' v w μ', MOk K A M' H' μ' → Eff A M μ H M' μ' H' → VR K (vw A M' μ' H') M' v w → R w μ' → Q v H') ∧
  (∀ M' H' x a d w μ', clA K x a → MOk K A (M' ++ [d]) H' (μ' ++ [some (.xd d w)]) → Eff A M μ H (M' ++ [d]) (μ' ++ [some (.xd d w)]) H' → S x w μ' → E (.ref a) (some d) H')
abbrev NoX : PySem.Str → W → Mu → Prop := fun _ _ _ => False
/-- an expression that may raise -/
def AXx (K : PySem.W.Frag) (xw : L2.WX) (xc : PySem.Str → W → G → Mu → Prop) (te : TE) (Γ : G) (μ : Mu) (R : W → Mu → Prop) : Prop := ∀ (A : Addr → Prop) (M : List Addr) (σ : L2.St) (H : Hp), Cn K A M σ H Γ μ → XW K A M μ H xw xc → ∀ Q : VK,
  (∀ M' H' v w μ', MOk K A M' H' μ' → Eff A M μ H M' μ' H' → VR K (vw A M' μ' H') M' v w → R w μ' → Q v H') → te σ H Q
section
variable {Γ : G} {μ : Mu} {R : W → Mu → Prop} {ta tk : TA} {te : TE} {D : AEn} {xw : L2.WX} {xc : PySem.Str → W → G → Mu → Prop}
theorem axx_of (h : AX K te Γ μ R) : AXx K xw xc te Γ μ R := fun A M σ H c _ Q q => h A M σ H c Q q
/-- called where it does not raise -/
theorem ax_callX {F : FX} {E : XK} (h : AXA K ta Γ μ fun ws μ1 => F ws μ1 R NoX) : AX K (tCall (spX K F) [] E ta) Γ μ R := fun A M σ H c Q q =>
  h A M σ H c _ fun M1 H1 vs ws μ1 mo1 e1 r1 h1 => by
    show spX K F (vs ++ []) H1 Q E
    rw [List.append_nil]
    exact ⟨A, M1, μ1, ws, R, NoX, mo1, r1, h1, fun M' H' v w μ' mo' e' r' hR => q M' H' v w μ' mo' (e1.trans e') r' hR, fun _ _ _ _ _ _ _ _ _ _ z => z.elim⟩
theorem ax_callXN {F : FX} {E : XK} {n m : Nat} {ix : List Nat} (h : AXA K ta Γ μ fun ws μ1 => ws.length = n ∧ AXA K tk Γ μ1 fun us μ2 => us.length = m ∧ F (perm ix (ws ++ us)) μ2 R NoX) : AX K (tCallN n m (spX K F) (fun vs zs => perm ix (vs ++ zs)) E ta tk) Γ μ R := fun A M σ H c Q q =>
  h A M σ H c _ fun M1 H1 vs ws μ1 mo1 e1 r1 ⟨l1, h1⟩ => h1 A M1 σ H1 (c.eff e1 mo1) _ fun M2 H2 zs us μ2 mo2 e2 r2 ⟨l2, h2⟩ =>
    ⟨r1.length.trans l1, r2.length.trans l2, A, M2, μ2, _, R, NoX, mo2, vrs_perm ((r1.mono e2.ex e2.pre).append r2) ix, h2, fun M' H' v w μ' mo' e' r' hR => q M' H' v w μ' mo' ((e1.trans e2).trans e') r' hR, fun _ _ _ _ _ _ _ _ _ _ z => z.elim⟩
/-- called where it may raise -/
theorem axx_call {F : FX} (h : AXA K ta Γ μ fun ws μ1 => F ws μ1 R fun x w μ2 => xc x w Γ μ2) : AXx K xw xc (tCallS (spX K F) (WE xw) ta) Γ μ R := fun A M σ H c x Q q =>
  h A M σ H c _ fun M1 H1 vs ws μ1 mo1 e1 r1 h1 =>
    ⟨A, M1, μ1, ws, R, _, mo1, r1, h1, fun M' H' v w μ' mo' e' r' hR => q M' H' v w μ' mo' (e1.trans e') r' hR, fun M' H' n a d w μ' hc mo' e' hS => x M' σ H' Γ n a d w μ' hc (c.eff (e1.trans e') mo') (e1.trans e') hS⟩
theorem as_asgX {g : TG} (h : AXx K D.xw D.xc te Γ μ fun w μ1 => AG K g w Γ μ1 D.nx) : AS K (tAsg te g) D Γ μ := fun A M σ H cn E hd =>
  h A M σ H cn hd.xx _ fun M1 H1 v w μ1 mo1 e1 r1 h1 => h1 A M1 σ H1 v (cn.eff e1 mo1) r1 _ fun M2 σ2 H2 Γ2 μ2 c2 e2 h2 => hd.nx M2 σ2 H2 Γ2 μ2 c2 (e1.trans e2) h2
theorem as_dropX (h : AXx K D.xw D.xc te Γ μ fun _ μ1 => D.nx Γ μ1) : AS K (tDrop te) D Γ μ := fun A M σ H cn E hd =>
  h A M σ H cn hd.xx _ fun M1 H1 v w μ1 mo1 e1 r1 h1 => hd.nx M1 σ H1 Γ μ1 (cn.eff e1 mo1) e1 h1
theorem as_retX (h : AXx K D.xw D.xc te Γ μ D.rt) : AS K (tRet te) D Γ μ := fun A M σ H cn E hd => h A M σ H cn hd.xx _ fun M1 H1 v w μ1 mo1 e1 r1 h1 => hd.rt M1 H1 v w μ1 mo1 e1 r1 h1
/-- raise x(e) -/
def tRaiseE (K : PySem.W.Frag) (x : PySem.Str) (xw : L2.WX) (ta : TA) : TS := fun _ σ H => ∀ C, clA K x C → tMkErr C ta σ H fun cls d H' => xw cls d σ H'
theorem as_raise {x : PySem.Str} (h : AXA K ta Γ μ fun ws μ1 => ∃ w, ws = [w] ∧ D.xc x w Γ μ1) : AS K (tRaiseE K x D.xw ta) D Γ μ := fun A M σ H cn E hd C hC =>
  h A M σ H cn _ fun M1 H1 vs ws μ1 mo1 e1 r1 ⟨w, ew, hx⟩ => by
    subst ew
    cases r1 with
    | @cons v _ vs' _ rv rn =>
      cases rn
      refine ⟨v, rfl, fun d hd0 => ?_⟩
      have mo2 : MOk K A (M1 ++ [d]) (upd H1 d (.xd [(("value" : PySem.Str), v)])) (μ1 ++ [some (.xd d w)]) := mo1.new hd0 ⟨rfl, v, rfl, rv⟩
      have e2 : Eff A M1 μ1 H1 (M1 ++ [d]) (μ1 ++ [some (.xd d w)]) (upd H1 d (.xd [(("value" : PySem.Str), v)])) := Eff.new mo1 hd0
      exact hd.xx M1 σ _ Γ x C d w μ1 hC (cn.eff (e1.trans e2) mo2) (e1.trans e2) hx
/-- a def that raises: its own cells are left behind -/
theorem as_fzX {t : TS} {xk : L2.XK} {S : PySem.Str → W → Mu → Prop} (h : AS K t { nx := fun _ μ1 => Fz μ (.d .none) μ1 R, rt := fun w μ1 => Fz μ w μ1 R, xw := fun c d _ H => xk c d H, xc := fun x w _ μ1 => FzX μ x w μ1 S } Γ μ) :
    AS K t { nx := fun _ μ1 => R (.d .none) μ1, rt := R, xw := fun c d _ H => xk c d H, xc := fun x w _ μ1 => S x w μ1 } Γ μ := fun A M σ H c E hE => by
  refine h A M σ H c E ⟨fun M1 σ1 H1 Γ1 μ1 c1 e1 ⟨μ', cs, d, a1, a2, a3, a4, hR⟩ => ?_, fun M1 H1 v w μ1 mo1 e1 r1 ⟨μ', cs, d, a1, a2, a3, a4, hR⟩ => ?_, fun M1 σ1 H1 Γ1 μ1 c1 e1 z => z.elim, fun M1 σ1 H1 Γ1 μ1 c1 e1 z => z.elim, fun M1 σ1 H1 Γ1 x a d w μ1 hc c1 e1 hz => ?_⟩
  · have a4' : Rn μ.length μ1 (.d .none) d := a4
    cases a4'
    obtain ⟨M2, mo2, e2, r2, _⟩ := fz_core c.mo c1.mo e1 a1 a2 a3 (.d .non : VR K (vw A M1 μ1 H1) M1 .non (.d .none)) (.d .none)
    refine hE.nx M2 σ1 H1 (List.replicate σ1.length none) μ' ⟨mo2, by simp, fun i w hw => ?_⟩ e2 hR
    rw [List.getElem?_replicate] at hw
    split at hw <;> cases hw
  · obtain ⟨M2, mo2, e2, r2, _⟩ := fz_core c.mo mo1 e1 a1 a2 a3 r1 a4
    exact hE.rt M2 H1 v _ μ' mo2 e2 r2 hR
  · obtain ⟨M2, μ2, u, mo2, e2, hS⟩ := fzx_core c.mo c1.mo e1 hz
    refine hE.xx M2 σ1 H1 (List.replicate σ1.length none) x a d u μ2 hc ⟨mo2, by simp, fun i w hw => ?_⟩ e2 hS
    rw [List.getElem?_replicate] at hw
    split at hw <;> cases hw
end
/-- THE RULE for a def that raises -/
theorem fn_okX {P : PySem.Program} {w : PySem.World} {mg : PySem.Str → Option PySem.Value} {base : PySem.Heap} {x qual : PySem.Str} {st : PySem.Stmt} {f : Addr} {fd : PySem.FuncData} {N ps : List PySem.Str} {k : Nat} {F : FX} (Fu : Fun K x qual st f fd) (S : FnScope N ps (defScope st)) (len : ∀ ws μ R S, F ws μ R S → ws.length = ps.length)
    (hbody : ∀ (cdv : PySem.Value) (A : PySem.Around) (outer : List PySem.Env) (s : PySem.Shared) (H : Hp) (E : XK), Room k (A.deeper (PyProof.Rows.envOfC qual (defScope st) s.heap.objs.size f cdv)) →
      ∃ t, PSs (cxOf (L2.CX P w) P w K mg base N qual (defScope st) f cdv A outer s H E) (defBody st) t ∧ ∀ ws μ R S, F ws μ R S → AS K t { nx := fun _ μ' => R (.d .none) μ', rt := R, xw := fun c d _ H => E c d H, xc := fun x w _ μ' => S x w μ' } (stG N ws) μ) : FnOk P w K mg base (L2.CX P w) (k + 1) f fd ps (spX K F) := by
  refine Fu.okX S (fun vs H Q E h => ?_) (fun cdv A outer s H vs Q E hr h => ?_)
  · obtain ⟨A, M, μ, ws, R, S, mo, r, h, _⟩ := h
    rw [r.length]
    exact len ws μ R S h
  · obtain ⟨t, ht, hs⟩ := hbody cdv A outer s H E hr
    obtain ⟨A, M, μ, ws, R, S, mo, r, h, q, qx⟩ := h
    exact ⟨t, ht, hs ws μ R S h A M _ H ⟨mo, gr_start r⟩ _ ⟨fun M' σ' H' Γ' μ' c e h => q M' H' _ _ μ' c.mo e (.d .non) h, fun M' H' v w μ' mo' e' r' h => q M' H' v w μ' mo' e' r' h, fun _ _ _ _ _ _ _ h => h.elim, fun _ _ _ _ _ _ _ h => h.elim,
      fun M' σ' H' Γ' x a d w μ' hc c e h => qx M' H' x a d w μ' hc c.mo e h⟩⟩
end Pd

/-! Pd9: try with several clauses, each with a name or without; e.value; the walk's rules for defs that raise. -/
namespace L2
open PySem PySem.Spec PyProof.Rows
/-- a clause: the class, the slot of its name, its suite -/
structure Cl where
  c : Value
  i : Option Nat
  ts : Addr → Value → Option Addr → TS
def Cl.ends (h : Cl) (D : Ends) : Ends := match h.i with
  | none => D
  | some i => { nx := fun σ H => D.nx (σ.set i none) H, rt := D.rt, bk := fun σ H => D.bk (σ.set i none) H, ct := fun σ H => D.ct (σ.set i none) H }
def Cl.st (h : Cl) (a : Addr) (σ : St) : St := match h.i with
  | none => σ
  | some i => σ.set i (some (.ref a))
/-- what the clauses wish of an error of the body -/
def wCls (K : PySem.W.Frag) (out : WX) (D : Ends) : List Cl → WX
  | [] => out
  | h :: r => fun cls d σ H => ∃ b, PySem.W.exmOne K cls h.c = some b ∧ (b = true → ∀ a, H a = none → h.ts a cls d (h.ends D) (h.st a σ) H) ∧ (b = false → wCls K out D r cls d σ H)
inductive ClsOk (X : Cx) : List ExceptHandler → List Cl → Prop
  | nil : ClsOk X [] []
  | anon {x : Str} {c : Value} {ts : Addr → Value → Option Addr → TS} {b₀ : Stmt} {suite : List Stmt} {np pos' : Pos} {hds : List ExceptHandler} {l : List Cl} (hc : Names X x c)
      (hsu : ∀ (a : Addr) (oe : Obj) (cls : Value) (d : Option Addr) (pn : List (Addr × Obj)), Zc cls d oe → (∃ vs, oe.data = .fields vs) → PSs (X.suite a ((a, oe) :: pn)) (b₀ :: suite) (ts a cls d)) (r : ClsOk X hds l) :
      ClsOk X (.ExceptHandler (some (.Name x np)) none (b₀ :: suite) pos' :: hds) (⟨c, none, ts⟩ :: l)
  | named {x n : Str} {i : Nat} {c : Value} {ts : Addr → Value → Option Addr → TS} {b₀ : Stmt} {suite : List Stmt} {np pos' : Pos} {hds : List ExceptHandler} {l : List Cl} (hc : Names X x c) (hN : X.N.Nodup) (hi : X.N[i]? = some n) (hln : X.env.kindOf n = some .local)
      (hsu : ∀ (a : Addr) (oe : Obj) (cls : Value) (d : Option Addr) (pn : List (Addr × Obj)), Zc cls d oe → (∃ vs, oe.data = .fields vs) → PSs (X.suite a ((a, oe) :: pn)) (b₀ :: suite) (ts a cls d)) (r : ClsOk X hds l) :
      ClsOk X (.ExceptHandler (some (.Name x np)) (some n) (b₀ :: suite) pos' :: hds) (⟨c, some i, ts⟩ :: l)
section
variable {X : Cx} {body : List Stmt} {h₀ : ExceptHandler} {hds : List ExceptHandler} {l : List Cl} {pos : Pos} {tb : WX → TS} {out : WX}
theorem ps_tryA (hs : X.stack = X.env :: X.outer) (hf : X.env.frame = some X.env.locals) (tk : Takes X out)
    (hb : ∀ (W : WX) (pn : List (Addr × Obj)) (xe : Value → Shared → Prop), Takes (X.tr pn xe) W → PassesOwn (model X.prog X.w) X.A X.env xe → PSs (X.tr pn xe) body (tb W))
    (hh : ClsOk X (h₀ :: hds) l) : PS X (.Try body (h₀ :: hds) [] [] pos) (fun D σ H => tb (wCls X.K out D l) D σ H) := by
  refine ⟨fun pins s σ H D I h => ?_⟩
  have ok := I.ok
  have afr : X.A.frames = some (X.env :: X.outer) := ok.frames.trans (by rw [hs])
  refine wpAny_Try_except (wpAny_mono ((hb (wCls X.K out D l) (X.pn ++ pins) (fun e s₁ => wpAny (model X.prog X.w) X.A (noteFrame e X.env)
    (fun _ s₂ => wpAny (model X.prog X.w) X.A (setFlight e none) (fun _ s₃ => wpAny (model X.prog X.w) X.A (handleBy e X.env (h₀ :: hds)) (SP X pins D) X.xe s₃) X.xe s₂) X.xe s₁) (fun u s' xx => ?_) PassesOwn.looking).run [] s σ H D (I.toTry _) h)
    (fun f s1 hsp => ?_) (fun e s1 he => he))
  · obtain ⟨a, B, sI, pins', σ', H', cls, d, rfl, J', nb, up, sky, na, os, ag, w⟩ := xx
    have J : Inv X pins σ' H' sI := J'.ofTry ok
    rw [show (X.tr (X.pn ++ pins) _).stack = X.env :: X.outer from hs] at sky
    refine (Sky.land Zc.steady afr hf sky fun h3 fl3 up3 => ?_ : wpAny (model X.prog X.w) X.A (noteFrame (.ref a) X.env) _ _ _)
    have J3 : Inv X pins σ' H' { s' with heap := h3 } := J.landed nb fl3.1 (up.trans up3) os ag
    obtain ⟨oe3, vs3, he3, hz3, hd3⟩ := fl3.there
    have nfr : a ∉ frs (X.env :: X.outer) := fun hm => by
      obtain ⟨_, o', e', hnf⟩ := fl3.2.2.1.mem hm
      rw [he3] at e'
      cases e'
      exact hnf _ hd3
    have nL : a ≠ X.env.locals := fun z => nfr (List.mem_filterMap.mpr ⟨X.env, .head _, by rw [hf, z]⟩)
    have nF : a ∉ X.fs := fun hm => by
      obtain ⟨e, he, q⟩ := List.mem_filterMap.mp hm
      exact nfr (List.mem_filterMap.mpr ⟨e, .tail _ he, q⟩)
    have S3 := J3.suite he3 hd3 na nL nF
    have tyE : PySem.W.Looks (model X.prog X.w) h3 (typeOf (.ref a)) cls := fun A Q E s k q => wpAny_typeOf_ref (k _ _ he3) (by rw [hz3.1]; exact q)
    have asked : ∀ {x : Str} {np : Pos} {c : Value} {Q : Value → Shared → Prop} {E : Value → Shared → Prop}, Names X x c → Q c { s' with heap := h3 } → wpAny (model X.prog X.w) (X.A.mark (some (.ref a))) (eval (.Name x np) X.env) Q E { s' with heap := h3 } := by
      intro x np c Q E hc q
      obtain ⟨hg, hdbg, hm | ⟨hm, hv, hnn⟩⟩ := hc
      · exact ld_glob (X := X.suite a ((a, oe3) :: (X.pn ++ pins))) S3 hg hm q hdbg
      · exact ld_blt (X := X.suite a ((a, oe3) :: (X.pn ++ pins))) S3 hg hm hv q hnn hdbg
    have land4 : ∀ h4, HandSPX.FlyingZ B (X.env :: X.outer) a (Zc cls d) h4 → Heap.UpToSlots h3 h4 → ∃ oe4, (∃ vs, oe4.data = .fields vs) ∧ Zc cls d oe4 ∧ Inv (X.suite a ((a, oe4) :: (X.pn ++ pins))) [] σ' H' { s' with heap := h4 } := fun h4 fl4 up4 => by
      obtain ⟨oe4, vs4, he4, hz4, hd4⟩ := fl4.there
      exact ⟨oe4, ⟨_, hd4⟩, hz4, (J.landed nb fl4.1 ((up.trans up3).trans up4) os ag : Inv X pins σ' H' { s' with heap := h4 }).suite he4 hd4 na nL nF⟩
    have go : ∀ {hds' : List ExceptHandler} {l' : List Cl}, ClsOk X hds' l' → wCls X.K out D l' cls d σ' H' → wpAny (model X.prog X.w) X.A (handleBy (.ref a) X.env hds') (SP X pins D) X.xe { s' with heap := h3 } := by
      intro hds' l' hk
      induction hk with
      | nil =>
        intro w
        refine wpAny_handleBy_nil ?_
        obtain ⟨_, _, _, oe, vs, T, _, _, he, _, hd, h1, _⟩ := id fl3
        have thrown : wpAny (model X.prog X.w) X.A (setFlight (.ref a) X.env.frame) (fun _ s4 => wpAny (model X.prog X.w) X.A (throw (.ref a) : Sem Flow) (SP X pins D) X.xe s4) X.xe { s' with heap := h3 } := by
          rw [hf]
          exact HandSPX.setFlight_upZ fl3 fun h4 hh4 up4 => wpAny_throw (tk _ _ ⟨a, B, sI, pins, σ', H', cls, d, rfl, J, nb, (up.trans up3).trans up4, .inr (.inr (by rw [hs]; exact hh4)), na, os, ag, w⟩)
        unfold PySem.passOn
        refine wpAny_bind (wpAny_field he hd h1 ?_)
        rw [if_neg (show ¬ ((Value.ref T == Value.none) = true) by simp)]
        first
          | exact wpAny_bind (wpAny_pure (wpAny_bind thrown))
          | exact wpAny_bind thrown
      | @anon x c ts b₀ suite np pos' hds2 l2 hc hsu r ih =>
        intro ⟨b, hb1, hyes, hno⟩
        refine wpAny_handleBy_cons (codeAny_handlers_test (asked hc ((PySem.W.exm_one (M := model X.prog X.w) J3.kIn tyE hb1).here ?_))) (by intro q; cases q)
        cases b with
        | false => exact (ih (hno rfl) : wpAny _ X.A (handleBy (.ref a) X.env hds2) _ _ _)
        | true =>
          refine codeAny_handlers_suite (HandSPX.lands_againZ fl3 fun h4 fl4 up4 => ?_)
          obtain ⟨oe4, hd4, hz4, S4⟩ := land4 h4 fl4 up4
          refine wpAny_mono ((hsu a oe4 cls d (X.pn ++ pins) hz4 hd4).run [] _ _ H' _ S4 (hyes rfl a na)) (fun f s6 hsp => ?_) (fun _ _ z => z.elim)
          match f, hsp with
          | .next, ⟨_, _, S6, q6⟩ => exact ⟨_, _, S6.unsuite ok, q6⟩
          | .brk, ⟨_, _, S6, q6⟩ => exact ⟨_, _, S6.unsuite ok, q6⟩
          | .cont, ⟨_, _, S6, q6⟩ => exact ⟨_, _, S6.unsuite ok, q6⟩
          | .ret u, ⟨_, _, _, S6, r6, q6⟩ => exact ⟨_, _, _, S6.unsuite ok, r6, q6⟩
      | @named x n i c ts b₀ suite np pos' hds2 l2 hc hN hi hln hsu r ih =>
        intro ⟨b, hb1, hyes, hno⟩
        refine wpAny_handleBy_cons (codeAny_handlers_test (asked hc ((PySem.W.exm_one (M := model X.prog X.w) J3.kIn tyE hb1).here ?_))) (by intro q; cases q)
        cases b with
        | false => exact (ih (hno rfl) : wpAny _ X.A (handleBy (.ref a) X.env hds2) _ _ _)
        | true =>
          refine codeAny_handlers_suite_as (HandSPX.lands_againZ fl3 fun h4 fl4 up4 => ?_)
          obtain ⟨oe4, hd4, hz4, S4⟩ := land4 h4 fl4 up4
          refine store_ok (X := X.suite a ((a, oe4) :: (X.pn ++ pins))) (v := .ref a) S4 hN hi (.inl hln) rfl (fun s5 S5 => ?_) (.inr hln)
          refine wpAny_mono ((hsu a oe4 cls d (X.pn ++ pins) hz4 hd4).run [] s5 _ H' _ S5 (hyes rfl a na)) (fun f s6 hsp => ?_) (fun _ _ z => z.elim)
          have goes : ∀ {σ6 : St} {H6 : Hp} {Q : Shared → Prop}, Inv (X.suite a ((a, oe4) :: (X.pn ++ pins))) [] σ6 H6 s6 → (∀ s7, Inv X pins (σ6.set i none) H6 s7 → Q s7) →
              wpAny (model X.prog X.w) X.A (do bindName X.env n .none; unbindBehindTheSuite X.env n pos') (fun _ s7 => Q s7) X.xe s6 := fun {σ6 H6 Q} S6 hq => gone_ok (S6.unsuite ok) hN hi hln hq
          match f, hsp with
          | .next, ⟨_, _, S6, q6⟩ => exact goes S6 fun s7 J7 => ⟨_, _, J7, q6⟩
          | .brk, ⟨_, _, S6, q6⟩ => exact goes S6 fun s7 J7 => ⟨_, _, J7, q6⟩
          | .cont, ⟨_, _, S6, q6⟩ => exact goes S6 fun s7 J7 => ⟨_, _, J7, q6⟩
          | .ret u, ⟨_, _, _, S6, r6, q6⟩ => exact goes S6 fun s7 J7 => ⟨_, _, _, J7, r6, q6⟩
    exact go hh w
  · match f, hsp with
    | .next, ⟨σ', H', J', q⟩ => exact wpAny_execs_nil ⟨σ', H', J'.ofTry ok, q⟩
    | .brk, ⟨σ', H', J', q⟩ => exact ⟨σ', H', J'.ofTry ok, q⟩
    | .cont, ⟨σ', H', J', q⟩ => exact ⟨σ', H', J'.ofTry ok, q⟩
    | .ret u, ⟨v, σ', H', J', r, q⟩ => exact ⟨v, σ', H', J'.ofTry ok, r, q⟩
end
end L2
namespace Pd
open PySem L2
open Evl (Ex)
open PyProof.Rows
variable {K : PySem.W.Frag}
/-- what stands for x in an except clause -/
def ClV (K : PySem.W.Frag) (x : PySem.Str) (c : PySem.Value) : Prop := PySem.W.nsIn K PySem.mainGlobals x = some (some c) ∨ (PySem.W.nsIn K PySem.mainGlobals x = some none ∧ bootBuiltins x = some c)
/-- an error that the text calls x is one that the clause for y takes (or not) -/
def SubIs (K : PySem.W.Frag) (x y : PySem.Str) (b : Bool) : Prop := ∀ a c, clA K x a → ClV K y c → PySem.W.exmOne K (.ref a) c = some b
structure Hn where
  x : PySem.Str
  i : Option Nat
  ts : Addr → PySem.Value → Option Addr → TS
def CsOk (K : PySem.W.Frag) : List Hn → List Cl → Prop
  | [], [] => True
  | h :: r, c :: s => (ClV K h.x c.c ∧ c.i = h.i ∧ c.ts = h.ts) ∧ CsOk K r s
  | _, _ => False
def tTry (K : PySem.W.Frag) (hs : List Hn) (tb : L2.WX → TS) (out : L2.WX) : TS := fun D σ H => ∀ l, CsOk K hs l → tb (wCls K out D l) D σ H
def Hn.ends (h : Hn) (D : AEn) : AEn := match h.i with
  | none => D
  | some i => { D with nx := fun g m => D.nx (g.set i none) m, bk := fun g m => D.bk (g.set i none) m, ct := fun g m => D.ct (g.set i none) m }
def Hn.sl (h : Hn) (a : Addr) (Γ : G) : G := match h.i with
  | none => Γ
  | some i => Γ.set i (some (.k (.ref a)))
/-- what is wished of an error of the body: by its name and value, clause by clause. Its suite leaves no error in turn. -/
def hX (K : PySem.W.Frag) (D : AEn) : List Hn → PySem.Str → W → G → Mu → Prop
  | [] => D.xc
  | h :: r => fun x w Γ μ => ∃ b, SubIs K x h.x b ∧ (b = true → ∀ a C d, clA K x C → AS K (h.ts a (.ref C) (some d)) (h.ends D) (h.sl a Γ) (μ ++ [some (.xd d w)])) ∧ (b = false → hX K D r x w Γ μ)
section
variable {Γ : G} {μ : Mu} {R : W → Mu → Prop} {ta : TA} {te : TE} {D : AEn}
theorem as_try {hs : List Hn} {tb : L2.WX → TS} (h : ∀ xw : L2.WX, AS K (tb xw) { D with xw := xw, xc := hX K D hs } Γ μ) : AS K (tTry K hs tb D.xw) D Γ μ := fun A M σ H cn E hE l hl => by
  refine h (wCls K D.xw E l) A M σ H cn E ⟨hE.nx, hE.rt, hE.bk, hE.ct, fun M' σ' H' Γ' x a d w μ' hc c' e' hx => ?_⟩
  show wCls K D.xw E l (.ref a) (some d) σ' H'
  have hx' : hX K D hs x w Γ' μ' := hx
  clear hx h
  induction hs generalizing l with
  | nil =>
    cases l with
    | nil => exact hE.xx M' σ' H' Γ' x a d w μ' hc c' e' hx'
    | cons _ _ => exact hl.elim
  | cons h r ih =>
    cases l with
    | nil => exact hl.elim
    | cons c s =>
      obtain ⟨⟨h1, h2, h3⟩, hr⟩ := hl
      obtain ⟨b, hb, hy, hn⟩ := hx'
      refine ⟨b, hb a c.c hc h1, fun e a0 _ => ?_, fun e => ih s hr (hn e)⟩
      have q := hy e a0 a d hc
      obtain ⟨cc, ci, cts⟩ := c
      obtain ⟨hx0, hi, hts⟩ := h
      dsimp only at h2 h3
      subst h2 h3
      have hd' : Hd K A (M' ++ [d]) (μ' ++ [some (.xd d w)]) H' D E := hE.after e'
      cases ci with
      | none => exact q A _ σ' H' c' E hd'
      | some i =>
        refine q A _ _ H' ⟨c'.mo, c'.gr.set (.k _)⟩ _ ⟨fun M4 σ4 H4 Γ4 μ4 c4 e4 h4 => ?_, hd'.rt, fun M4 σ4 H4 Γ4 μ4 c4 e4 h4 => ?_, fun M4 σ4 H4 Γ4 μ4 c4 e4 h4 => ?_, hd'.xx⟩
        · exact hd'.nx M4 _ H4 _ μ4 ⟨c4.mo, c4.gr.drop⟩ e4 h4
        · exact hd'.bk M4 _ H4 _ μ4 ⟨c4.mo, c4.gr.drop⟩ e4 h4
        · exact hd'.ct M4 _ H4 _ μ4 ⟨c4.mo, c4.gr.drop⟩ e4 h4
/-- e.value, e the error that the suite holds -/
def tXv (K : PySem.W.Frag) (a : Addr) (cls : PySem.Value) (d : Option Addr) (te : TE) : TE := fun σ H Q => te σ H fun x H1 => x = .ref a ∧ ∃ C dd v, cls = .ref C ∧ XfC K C ∧ PySem.W.findIn K (.ref C) "value" = some none ∧ d = some dd ∧ H1 dd = some (.xd [(("value" : PySem.Str), v)]) ∧ Q v H1
/-- the errors that the text calls x have a value -/
def ErrV (K : PySem.W.Frag) (x : PySem.Str) : Prop := ∀ C, clA K x C → XfC K C ∧ PySem.W.findIn K (.ref C) "value" = some none
theorem ax_xv {a C d : Addr} {x : PySem.Str} {k : Nat} {w : W} (hx : ErrV K x) (hC : clA K x C) (h : AX K te Γ μ fun u μ1 => u = .k (.ref a) ∧ μ1[k]? = some (some (.xd d w)) ∧ R w μ1) : AX K (tXv K a (.ref C) (some d) te) Γ μ R := fun A M σ H c Q q =>
  h A M σ H c _ fun M1 H1 v u μ1 mo1 e1 r1 ⟨eu, hk, hR⟩ => by
    subst eu
    cases r1
    have hl : k < M1.length := by
      rw [mo1.len]
      exact (List.getElem?_eq_some_iff.mp hk).1
    obtain ⟨o, ho, ep, v, rfl, rv⟩ := mo1.ct k _ (.xd d w) (List.getElem?_eq_getElem hl) hk
    rw [ep] at ho
    exact ⟨rfl, C, d, v, rfl, (hx C hC).1, (hx C hC).2, rfl, ho, q M1 H1 v w μ1 mo1 e1 rv hR⟩
end
/-! ### the walk's rules -/
section
variable {X : Cx}
theorem pe_xv {a : Addr} {oe : Obj} {cls : Value} {d : Option Addr} {pn : List (Addr × Obj)} {e : Expr} {te : TE} {pos : Pos} (hz : Zc cls d oe) (hf : ∃ vs, oe.data = .fields vs) (he : PE (X.suite a ((a, oe) :: pn)) e te)
    (hb : attributeBase e "value" X.env (eval e X.env) = eval e X.env := by rfl) : PE (X.suite a ((a, oe) :: pn)) (.Attribute e "value" pos) (tXv X.K a cls d te) := by
  refine ⟨fun pins s σ H Q I h => attr_of hb (thn (he.run pins s σ H _ I h) fun u s1 ⟨x, H1, I1, rx, ex, C, dd, v, ec, T, hno, ed, ea, q⟩ => ?_)⟩
  subst ex ec ed
  obtain rfl : u = Value.ref a := rx
  obtain ⟨ha, _⟩ := I1.pin (a, oe) (List.mem_append_left _ (.head _))
  obtain ⟨vs, hd⟩ := hf
  obtain ⟨mA, hns, hr⟩ : ObjOk X.prog X.w H1 s1.heap dd (.xd [(("value" : PySem.Str), v)]) := I1.hok dd _ ea
  obtain ⟨od, ho, hl⟩ := lookIn_ns hns
  obtain ⟨u, hu, ru⟩ := RelO.some_of (v := v) (o := mA "value") (by have z := hr "value"; simpa [List.lookup] using z)
  have J : PySem.W.InstAt s1.heap a oe C (some od) := ⟨ha, hz.1, by unfold PySem.W.notCls; rw [hd] <;> rfl, by rw [hz.2]; exact ho⟩
  exact HandSPX.exc_get I1.kIn J T.ga T.gg T.exC (PySem.W.findObj_own T.hdC hno rfl (by rw [hl, hu])) (handed_of ru) ⟨v, H1, I1.tok _, ru, q⟩
/-- the text's x is a class of errors -/
def IsErr (P : Program) (K : PySem.W.Frag) (mg : Str → Option Value) (x : Str) : Prop := ∃ C, clA K x C ∧ Err P K mg x C
theorem ps_raiseE {x : Str} {xw : L2.WX} {a : Expr} {ta : TA} {p pos pos2 : Pos} {k : Nat} (hc : X.calm = true) (T : IsErr X.prog X.K X.mg x) (hr : Room k X.A) (tk : Takes X xw) (ha : PA X [a] ta) (hg : Gl X x := by rfl) (hdb : (x == ("__debug__" : Str)) = false := by decide)
    (he : starEach (a :: []) X.env = (false, eval a X.env) :: starEach [] X.env := by rfl) (hpl : (backTo pos (starEach [] X.env)).any (·.1) = false := by rfl) :
    PS X (.Raise (some (.Call (.Name x p) [a] [] pos)) none pos2) (tRaiseE X.K x xw ta) := by
  obtain ⟨C, hC, E⟩ := T
  exact ⟨fun pins s σ H D I h => (ps_raise hc tk (pmk_err E hr ha hg hdb he hpl)).run pins s σ H D I (h C hC)⟩
def HsOk (X : Cx) (hds : List ExceptHandler) (hs : List Hn) : Prop := ∃ l, ClsOk X hds l ∧ CsOk X.K hs l
theorem hs_nil : HsOk X [] [] := ⟨[], .nil, trivial⟩
theorem hs_named {x n : Str} {i : Nat} {ts : Addr → Value → Option Addr → TS} {b₀ : Stmt} {suite : List Stmt} {np pos' : Pos} {hds : List ExceptHandler} {hs : List Hn} (T : IsErr X.prog X.K X.mg x) (hN : X.N.Nodup)
    (hsu : ∀ (a : Addr) (oe : Obj) (cls : Value) (d : Option Addr) (pn : List (Addr × Obj)), Zc cls d oe → (∃ vs, oe.data = .fields vs) → PSs (X.suite a ((a, oe) :: pn)) (b₀ :: suite) (ts a cls d)) (r : HsOk X hds hs)
    (hg : Gl X x := by rfl) (hi : X.N[i]? = some n := by rfl) (hln : X.env.kindOf n = some .local := by rfl) (hdb : (x == ("__debug__" : Str)) = false := by decide) :
    HsOk X (.ExceptHandler (some (.Name x np)) (some n) (b₀ :: suite) pos' :: hds) (⟨x, some i, ts⟩ :: hs) := by
  obtain ⟨l, h1, h2⟩ := r
  obtain ⟨C, hC, E⟩ := T
  exact ⟨⟨.ref C, some i, ts⟩ :: l, .named ⟨hg, hdb, .inl E.gC⟩ hN hi hln hsu h1, ⟨.inl hC, rfl, rfl⟩, h2⟩
theorem hs_anon {x : Str} {ts : Addr → Value → Option Addr → TS} {b₀ : Stmt} {suite : List Stmt} {np pos' : Pos} {hds : List ExceptHandler} {hs : List Hn} (T : IsErr X.prog X.K X.mg x)
    (hsu : ∀ (a : Addr) (oe : Obj) (cls : Value) (d : Option Addr) (pn : List (Addr × Obj)), Zc cls d oe → (∃ vs, oe.data = .fields vs) → PSs (X.suite a ((a, oe) :: pn)) (b₀ :: suite) (ts a cls d)) (r : HsOk X hds hs)
    (hg : Gl X x := by rfl) (hdb : (x == ("__debug__" : Str)) = false := by decide) :
    HsOk X (.ExceptHandler (some (.Name x np)) none (b₀ :: suite) pos' :: hds) (⟨x, none, ts⟩ :: hs) := by
  obtain ⟨l, h1, h2⟩ := r
  obtain ⟨C, hC, E⟩ := T
  exact ⟨⟨.ref C, none, ts⟩ :: l, .anon ⟨hg, hdb, .inl E.gC⟩ hsu h1, ⟨.inl hC, rfl, rfl⟩, h2⟩
theorem ps_tryN {body : List Stmt} {h₀ : ExceptHandler} {hds : List ExceptHandler} {hs : List Hn} {pos : Pos} {tb : WX → TS} {out : WX} (tk : Takes X out)
    (hb : ∀ (xw : WX) (pn : List (Addr × Obj)) (xe : Value → Shared → Prop), Takes (X.tr pn xe) xw → PassesOwn (model X.prog X.w) X.A X.env xe → PSs (X.tr pn xe) body (tb xw))
    (hh : HsOk X (h₀ :: hds) hs) (hst : X.stack = X.env :: X.outer := by rfl) (hf : X.env.frame = some X.env.locals := by rfl) : PS X (.Try body (h₀ :: hds) [] [] pos) (tTry X.K hs tb out) := by
  obtain ⟨l, h1, h2⟩ := hh
  exact ⟨fun pins s σ H D I h => (ps_tryA hst hf tk hb h1).run pins s σ H D I (h l h2)⟩
/-! defs that raise, by their promises -/
def HasX (P : Program) (w : World) (K : PySem.W.Frag) (mg : Str → Option Value) (base : Heap) (x : Str) (ps : List Str) (k : Nat) (F : FX) : Prop :=
  ∃ f fd, FnOk P w K mg base (L2.CX P w) k f fd ps (spX K F) ∧ mg x = some (.ref f) ∧ PySem.W.keepIn K (.ref f) = true ∧ Binds K fd ps []
def HasXK (P : Program) (w : World) (K : PySem.W.Frag) (mg : Str → Option Value) (base : Heap) (x : Str) (ps : List Str) (k : Nat) (F : FX) (n : Nat) (ks : List Str) (ix : List Nat) : Prop :=
  ∃ f fd, FnOk P w K mg base (L2.CX P w) k f fd ps (spX K F) ∧ mg x = some (.ref f) ∧ PySem.W.keepIn K (.ref f) = true ∧ KBn K fd ps n ks (fun us ws => perm ix (us ++ ws)) (fun vs zs => perm ix (vs ++ zs))
variable {x : Str} {ps ks : List Str} {k n m : Nat} {F : FX} {e : Expr} {es : List Expr} {ta tk : TA} {p pos : Pos} {kws : List Keyword} {ix : List Nat} {xw : WX}
theorem pe_hasX (h : HasX X.prog X.w X.K X.mg X.base x ps k F) (hr : Room k X.A) (ha : PA X (e :: es) ta) (hg : Gl X x := by rfl) (hd : (x == ("__debug__" : Str)) = false := by decide)
    (he : starEach (e :: es) X.env = (false, eval e X.env) :: starEach es X.env := by rfl) (hpl : (backTo pos (starEach es X.env)).any (·.1) = false := by rfl) : PE X (.Call (.Name x p) (e :: es) [] pos) (tCall (spX X.K F) [] E0 ta) := by
  obtain ⟨f, fd, G, hmg, kp, b⟩ := h
  exact pe_call G hr hg hmg kp b .nil passL ha hd he hpl
theorem pe_hasXT (h : HasX X.prog X.w X.K X.mg X.base x ps k F) (hr : Room k X.A) (tk : Takes X xw) (ha : PA X (e :: es) ta) (hg : Gl X x := by rfl) (hd : (x == ("__debug__" : Str)) = false := by decide)
    (he : starEach (e :: es) X.env = (false, eval e X.env) :: starEach es X.env := by rfl) (hpl : (backTo pos (starEach es X.env)).any (·.1) = false := by rfl) : PE X (.Call (.Name x p) (e :: es) [] pos) (tCallS (spX X.K F) (WE xw) ta) := by
  obtain ⟨f, fd, G, hmg, kp, b⟩ := h
  exact pe_callS G hr hg hmg kp b (fun σ => passAt tk σ) ha hd he hpl
theorem pe_hasXN (h : HasXK X.prog X.w X.K X.mg X.base x ps k F n ks ix) (hr : Room k X.A) (ha : PA X (e :: es) ta) (hk : PK X kws tk) (hm : ks.length = m := by rfl) (hg : Gl X x := by rfl)
    (hall : (backToKw pos (keywordEach kws X.env)).all (·.1.isSome) = true := by rfl) (hks : (backToKw pos (keywordEach kws X.env)).filterMap (·.1) = ks := by rfl) (hdb : (x == ("__debug__" : Str)) = false := by decide)
    (he : starEach (e :: es) X.env = (false, eval e X.env) :: starEach es X.env := by rfl) (hpl : ((backTo pos (starEach (e :: es) X.env)).any (·.1) || (backToKw pos (keywordEach kws X.env)).any (·.1.isNone)) = false := by rfl) :
    PE X (.Call (.Name x p) (e :: es) kws pos) (tCallN n m (spX X.K F) (fun vs zs => perm ix (vs ++ zs)) E0 ta tk) := by
  subst hm
  obtain ⟨f, fd, G, hmg, kp, b⟩ := h
  exact pe_callN G hr hg hmg kp b passL ha hk hall hks hdb he hpl
theorem pe_hasXN0 (h : HasXK X.prog X.w X.K X.mg X.base x ps k F 0 ks ix) (hr : Room k X.A) (hk : PK X kws tk) (hm : ks.length = m := by rfl) (hg : Gl X x := by rfl)
    (hall : (backToKw pos (keywordEach kws X.env)).all (·.1.isSome) = true := by rfl) (hks : (backToKw pos (keywordEach kws X.env)).filterMap (·.1) = ks := by rfl) (hdb : (x == ("__debug__" : Str)) = false := by decide)
    (hpl : ((backTo pos (starEach [] X.env)).any (·.1) || (backToKw pos (keywordEach kws X.env)).any (·.1.isNone)) = false := by rfl) :
    PE X (.Call (.Name x p) [] kws pos) (tCallN 0 m (spX X.K F) (fun vs zs => perm ix (vs ++ zs)) E0 tNil tk) := by
  subst hm
  obtain ⟨f, fd, G, hmg, kp, b⟩ := h
  exact pe_callN0 G hr hg hmg kp b passL hk hall hks hdb hpl
end
theorem hasx_of {P : Program} {w : World} {mg : Str → Option Value} {base : Heap} {x qual : Str} {st : Stmt} {f : Addr} {fd : FuncData} {ps : List Str} {k : Nat} {F : FX} (Fu : Fun K x qual st f fd) (m : mg x = some (.ref f)) (G : FnOk P w K mg base (L2.CX P w) k f fd ps (spX K F))
    (h : ∀ (kV doc pm : Value) (an : Option Addr) (cdv ct : Value) (us : List Value), us.length = ps.length → bindArgs (PySem.W.fnOf x qual (defArgs st) (defBody st) (defScope st) .none kV doc pm an cdv ct) ⟨us, []⟩ = pure (ps.zip us)) : HasX P w K mg base x ps k F := ⟨f, fd, G, m, Fu.kp, Fu.binds h⟩
theorem hasxk_of {P : Program} {w : World} {mg : Str → Option Value} {base : Heap} {x qual : Str} {st : Stmt} {f : Addr} {fd : FuncData} {ps : List Str} {k : Nat} {F : FX} (Fu : Fun K x qual st f fd) (m : mg x = some (.ref f)) (G : FnOk P w K mg base (L2.CX P w) k f fd ps (spX K F)) (n : Nat) (ks : List Str) (ix : List Nat)
    (h : ∀ (kV doc pm : Value) (an : Option Addr) (cdv ct : Value) (us ws : List Value), us.length = n → ws.length = ks.length → bindArgs (PySem.W.fnOf x qual (defArgs st) (defBody st) (defScope st) .none kV doc pm an cdv ct) ⟨us, ks.zip ws⟩ = pure (ps.zip (perm ix (us ++ ws)))) : HasXK P w K mg base x ps k F n ks ix := by
  obtain ⟨oc, od, kV, doc, pm, an, cdv, ct, osl, rfl, lk, hcd⟩ := Fu.ex
  exact ⟨f, _, G, m, Fu.kp, fun s us ws _ h1 h2 => .of_eq (h kV doc pm an cdv ct us ws h1 h2), fun h1 h2 => vals_perm (h1.append h2) ix⟩
end Pd

/-! Pd10: promises of defs that are called where no guard stands (so repr may be asked). -/
namespace Pd
open PySem PySem.Spec L2
open Evl (Ex)
open PyProof.Rows
/-- a def's promise, where no guard stands -/
structure FnG (P : Program) (w : World) (K : PySem.W.Frag) (mg : Str → Option Value) (base : Heap) (CX : CXT) (k : Nat) (f : Addr) (fd : FuncData) (ps : List Str) (sp : Sp) : Prop where
  len : ∀ vs H Q E, sp vs H Q E → vs.length = ps.length
  go : ∀ (A : Around) (fr : List Env) (s : Shared) (H : Hp) (args : Args) (us : List Value) (vs : List V) (Q : VK) (E : XK), Room k A → A.guards = some [] → Env0 P w K mg base A fr s H → BindsTo s fd args (ps.zip us) → Vals vs us → sp vs H Q E →
    codeAny (model P w) A (.call (.ref f) args) (CR CX fr P w H s Q E) s
theorem fnG_of {CX : CXT} {P : Program} {w : World} {K : PySem.W.Frag} {mg : Str → Option Value} {base : Heap} {k : Nat} {f : Addr} {name qual : Str} {pr : Arguments} {bd : List Stmt} {sc : Scope} {dV kV doc pm cdv ct oc : Value} {an od : Option Addr}
    {osl : Array (Option Value)} {N ps : List Str} {sp : Sp} (lk : K.lookup f = some ⟨oc, od, .func (PySem.W.fnOf name qual pr bd sc dV kV doc pm an cdv ct), osl⟩) (hcd : PySem.W.codeIn K cdv qual = true) (S : FnScope N ps sc)
    (len : ∀ vs H Q E, sp vs H Q E → vs.length = ps.length)
    (hb : ∀ (A : Around) (fr : List Env) (s : Shared) (H : Hp) (vs : List V) (Q : VK) (E : XK), Room k (A.deeper (envOfC qual sc s.heap.objs.size f cdv)) → (A.deeper (envOfC qual sc s.heap.objs.size f cdv)).guards = some [] → sp vs H Q E →
      ∃ t, PSs (cxOf CX P w K mg base N qual sc f cdv A fr s H E) bd t ∧ t { nx := fun _ H' => Q .non H', rt := Q } (start N vs) H) :
    FnG P w K mg base CX (k + 1) f (PySem.W.fnOf name qual pr bd sc dV kV doc pm an cdv ct) ps sp := by
  refine ⟨len, fun A fr s H args us vs Q E hr hgd e0 hbi r hsp => ?_⟩
  have hl := len _ _ _ _ hsp
  have kb : ∀ b o, base.get? b = some o → s.heap.get? b = some o := fun b o e => (e0.bs b o e).1
  have KX : K.In s.heap := e0.mod.kin.keeps kb
  have kinds : ∀ y ∈ ps.zip us, sc.names.lookup y.1 = some .local ∨ (sc.names.lookup y.1 = some .cell ∧ ((cellsFrom (s.heap.objs.size + 1) sc.names []).lookup y.1).isSome = true) := by
    rintro ⟨n, v⟩ hy
    exact (S.par n (List.of_mem_zip hy).1).imp id fun q => ⟨q, PySem.W.cellsFrom_some _ _ _ (.inl q)⟩
  refine codeAny_call_function hr.depth (KX _ _ lk) rfl S.co S.gen rfl (PySem.W.codeRec_of KX hcd) (hbi _ _ _ _ (wpAny_newFunctionEnv_cells S.kind kinds fun env he s1 x => ?_))
  subst he
  refine ⟨(e0.mod.nolimit.keeps kb).keeps x.toInCall.keep, codeAny_func ?_⟩
  obtain ⟨t, ht, hq⟩ := hb A fr s H vs Q E (hr.deeper _) hgd hsp
  have I : Inv (cxOf CX P w K mg base N qual sc f cdv A fr s H E) [] (start N vs) H s1 := inv_start S hr.hd e0 hl r x
  refine wpAny_mono (ht.run [] s1 (start N vs) H _ I hq) (fun fl s' hs => ?_) fun e s' hs => hs
  match fl, hs with
  | .ret u, ⟨v, σ', H', J, rv, q⟩ => exact ⟨v, H', J.os, J.bare, J.base, J.hok, rv, q⟩
  | .next, ⟨σ', H', J, q⟩ => exact ⟨V.non, H', J.os, J.bare, J.base, J.hok, (rfl : RelV V.non Value.none), q⟩
  | .brk, ⟨_, _, _, q⟩ => exact q.elim
  | .cont, ⟨_, _, _, q⟩ => exact q.elim
section
variable {X : Cx} {CX : CXT} {k n : Nat} {f : Addr} {fd : FuncData} {ps ks : List Str} {sp : Sp} {E : L2.St → XK} {x : Str} {p pos : Pos} {e : Expr} {es : List Expr} {kws : List Keyword} {t tk : TA} {g : List Value → List Value → List Value} {gV : List V → List V → List V}
theorem back_of {pins : List (Addr × Obj)} {σ : L2.St} {H : Hp} {s : Shared} {Q : VK} (hx : PassesAt CX X σ (E σ)) (I : Inv X pins σ H s) {args : Args} (h : codeAny (model X.prog X.w) X.A (.call (.ref f) args) (CR CX X.stack X.prog X.w H s Q (E σ)) s) :
    codeAny (model X.prog X.w) X.A (.call (.ref f) args) (fun r s' => match r with | .ok (.ret u) => EP X pins σ Q u s' | .ok _ => False | .error e => X.xe e s') s := codeAny_mono h fun r s' hq => by
  match r, hq with
  | .error e, hq => exact hx pins H s e s' I hq
  | .ok (.ret u), hq => exact I.after hq
def tCallNS (n m : Nat) (sp : Sp) (gV : List V → List V → List V) (E : L2.St → XK) (t tk : TA) : TE := fun σ H Q => t σ H fun vs H1 => tk σ H1 fun zs H2 => vs.length = n ∧ zs.length = m ∧ sp (gV vs zs) H2 Q (E σ)
theorem pe_gS (F : FnG X.prog X.w X.K X.mg X.base CX k f fd ps sp) (hr : Room k X.A) (hd : X.A.guards = some []) (hg : Gl X x) (hm : X.mg x = some (.ref f)) (hk : PySem.W.keepIn X.K (.ref f) = true) (hb : Binds X.K fd ps []) (hx : ∀ σ, PassesAt CX X σ (E σ))
    (ha : PA X (e :: es) t) (hdb : (x == ("__debug__" : Str)) = false) (he : starEach (e :: es) X.env = (false, eval e X.env) :: starEach es X.env) (hpl : (backTo pos (starEach es X.env)).any (·.1) = false) :
    PE X (.Call (.Name x p) (e :: es) [] pos) (tCallS sp E t) := by
  refine ⟨fun pins s σ H Q I h => wpAny_Call_Name_kw (ld_glob I hg hm (PySem.W.callWith_K (h₀ := X.base) I.ok.mod.kin hk (thn (ha.run pos pins s σ H _ I h) fun us s1 ⟨vs, H1, I1, r, q⟩ => ⟨I1.kIn, ?_⟩) he hpl) hdb)⟩
  have hl : us.length = ps.length := by
    rw [← r.length]
    exact F.len _ _ _ _ q
  have b := hb s1 us I1.kIn (by rw [List.append_nil]; exact hl)
  rw [List.append_nil] at b
  have q' := back_of (hx σ) I1 (F.go X.A X.stack s1 H1 ⟨us, []⟩ us vs _ _ hr hd I1.env0 b r q)
  exact (wpAny_call q' : wpAny _ _ (call (.ref f) us) _ _ _)
theorem pe_gNS (F : FnG X.prog X.w X.K X.mg X.base CX k f fd ps sp) (hr : Room k X.A) (hd : X.A.guards = some []) (hg : Gl X x) (hm : X.mg x = some (.ref f)) (hk : PySem.W.keepIn X.K (.ref f) = true) (hb : KBn X.K fd ps n ks g gV) (hx : ∀ σ, PassesAt CX X σ (E σ))
    (ha : PA X (e :: es) t) (hkw : PK X kws tk) (hall : (backToKw pos (keywordEach kws X.env)).all (·.1.isSome) = true) (hks : (backToKw pos (keywordEach kws X.env)).filterMap (·.1) = ks)
    (hdb : (x == ("__debug__" : Str)) = false) (he : starEach (e :: es) X.env = (false, eval e X.env) :: starEach es X.env)
    (hpl : ((backTo pos (starEach (e :: es) X.env)).any (·.1) || (backToKw pos (keywordEach kws X.env)).any (·.1.isNone)) = false) :
    PE X (.Call (.Name x p) (e :: es) kws pos) (tCallNS n ks.length sp gV E t tk) := by
  refine ⟨fun pins s σ H Q I h => wpAny_Call_Name_kw (ld_glob I hg hm (PySem.W.callWith_KW (h₀ := X.base) I.ok.mod.kin hk hall (thn (ha.run pos pins s σ H _ I h) fun us s1 ⟨vs, H1, I1, r, q⟩ => ?_) hpl he) hdb)⟩
  refine thn (hkw.run pos pins s1 σ H1 _ I1 q) fun ws s2 ⟨zs, H2, I2, rz, l1, l2, q2⟩ => ⟨I2.kIn, ?_⟩
  rw [hks]
  exact wpAny_call (back_of (hx σ) I2 (F.go X.A X.stack s2 H2 ⟨us, ks.zip ws⟩ (g us ws) (gV vs zs) _ _ hr hd I2.env0 (hb.to s2 us ws I2.kIn (r.length.symm.trans l1) (rz.length.symm.trans l2)) (hb.rel r rz) q2))
theorem pe_gNS0 (F : FnG X.prog X.w X.K X.mg X.base CX k f fd ps sp) (hr : Room k X.A) (hd : X.A.guards = some []) (hg : Gl X x) (hm : X.mg x = some (.ref f)) (hk : PySem.W.keepIn X.K (.ref f) = true) (hb : KBn X.K fd ps 0 ks g gV) (hx : ∀ σ, PassesAt CX X σ (E σ))
    (hkw : PK X kws tk) (hall : (backToKw pos (keywordEach kws X.env)).all (·.1.isSome) = true) (hks : (backToKw pos (keywordEach kws X.env)).filterMap (·.1) = ks)
    (hdb : (x == ("__debug__" : Str)) = false) (hpl : ((backTo pos (starEach [] X.env)).any (·.1) || (backToKw pos (keywordEach kws X.env)).any (·.1.isNone)) = false) :
    PE X (.Call (.Name x p) [] kws pos) (tCallNS 0 ks.length sp gV E tNil tk) := by
  refine ⟨fun pins s σ H Q I h => wpAny_Call_Name_kw (ld_glob I hg hm (PySem.W.callWith_KW0 (h₀ := X.base) I.ok.mod.kin hk hall (thn (hkw.run pos pins s σ H _ I h) fun ws s2 ⟨zs, H2, I2, rz, l1, l2, q2⟩ => ⟨I2.kIn, ?_⟩) hpl) hdb)⟩
  rw [hks]
  exact wpAny_call (back_of (hx σ) I2 (F.go X.A X.stack s2 H2 ⟨[], ks.zip ws⟩ (g [] ws) (gV [] zs) _ _ hr hd I2.env0 (hb.to s2 [] ws I2.kIn l1 (rz.length.symm.trans l2)) (hb.rel .nil rz) q2))
end
/-- the module's x is a def that promises sp -/
def HasG (P : Program) (w : World) (K : PySem.W.Frag) (mg : Str → Option Value) (base : Heap) (CX : CXT) (x : Str) (ps : List Str) (k : Nat) (sp : Sp) : Prop :=
  ∃ f fd, FnG P w K mg base CX k f fd ps sp ∧ mg x = some (.ref f) ∧ PySem.W.keepIn K (.ref f) = true ∧ Binds K fd ps []
def HasGK (P : Program) (w : World) (K : PySem.W.Frag) (mg : Str → Option Value) (base : Heap) (CX : CXT) (x : Str) (ps : List Str) (k : Nat) (sp : Sp) (n : Nat) (ks : List Str) (ix : List Nat) : Prop :=
  ∃ f fd, FnG P w K mg base CX k f fd ps sp ∧ mg x = some (.ref f) ∧ PySem.W.keepIn K (.ref f) = true ∧ KBn K fd ps n ks (fun us ws => perm ix (us ++ ws)) (fun vs zs => perm ix (vs ++ zs))
abbrev Ez : L2.St → XK := fun _ => E0
theorem pz0 {X : Cx} (σ : L2.St) : PassesAt CX0 X σ (Ez σ) := fun _ _ _ _ _ _ h => h.elim
theorem pzL {X : Cx} (σ : L2.St) : PassesAt (L2.CX X.prog X.w) X σ (Ez σ) := fun pins H s e s' I c => passL pins σ H s e s' I c
section
variable {X : Cx} {CX : CXT} {k n m : Nat} {ps ks : List Str} {sp : Sp} {E : L2.St → XK} {x : Str} {p pos : Pos} {e : Expr} {es : List Expr} {kws : List Keyword} {t tk : TA} {ix : List Nat}
theorem pe_hG (h : HasG X.prog X.w X.K X.mg X.base CX x ps k sp) (hr : Room k X.A) (hgd : X.A.guards = some []) (hx : ∀ σ, PassesAt CX X σ (E σ)) (ha : PA X (e :: es) t) (hg : Gl X x := by rfl) (hd : (x == ("__debug__" : Str)) = false := by decide)
    (he : starEach (e :: es) X.env = (false, eval e X.env) :: starEach es X.env := by rfl) (hpl : (backTo pos (starEach es X.env)).any (·.1) = false := by rfl) : PE X (.Call (.Name x p) (e :: es) [] pos) (tCallS sp E t) := by
  obtain ⟨f, fd, G, hmg, kp, b⟩ := h
  exact pe_gS G hr hgd hg hmg kp b hx ha hd he hpl
theorem pe_hGN (h : HasGK X.prog X.w X.K X.mg X.base CX x ps k sp n ks ix) (hr : Room k X.A) (hgd : X.A.guards = some []) (hx : ∀ σ, PassesAt CX X σ (E σ)) (ha : PA X (e :: es) t) (hk : PK X kws tk) (hm : ks.length = m := by rfl) (hg : Gl X x := by rfl)
    (hall : (backToKw pos (keywordEach kws X.env)).all (·.1.isSome) = true := by rfl) (hks : (backToKw pos (keywordEach kws X.env)).filterMap (·.1) = ks := by rfl) (hdb : (x == ("__debug__" : Str)) = false := by decide)
    (he : starEach (e :: es) X.env = (false, eval e X.env) :: starEach es X.env := by rfl) (hpl : ((backTo pos (starEach (e :: es) X.env)).any (·.1) || (backToKw pos (keywordEach kws X.env)).any (·.1.isNone)) = false := by rfl) :
    PE X (.Call (.Name x p) (e :: es) kws pos) (tCallNS n m sp (fun vs zs => perm ix (vs ++ zs)) E t tk) := by
  subst hm
  obtain ⟨f, fd, G, hmg, kp, b⟩ := h
  exact pe_gNS G hr hgd hg hmg kp b hx ha hk hall hks hdb he hpl
theorem pe_hGN0 (h : HasGK X.prog X.w X.K X.mg X.base CX x ps k sp 0 ks ix) (hr : Room k X.A) (hgd : X.A.guards = some []) (hx : ∀ σ, PassesAt CX X σ (E σ)) (hk : PK X kws tk) (hm : ks.length = m := by rfl) (hg : Gl X x := by rfl)
    (hall : (backToKw pos (keywordEach kws X.env)).all (·.1.isSome) = true := by rfl) (hks : (backToKw pos (keywordEach kws X.env)).filterMap (·.1) = ks := by rfl) (hdb : (x == ("__debug__" : Str)) = false := by decide)
    (hpl : ((backTo pos (starEach [] X.env)).any (·.1) || (backToKw pos (keywordEach kws X.env)).any (·.1.isNone)) = false := by rfl) :
    PE X (.Call (.Name x p) [] kws pos) (tCallNS 0 m sp (fun vs zs => perm ix (vs ++ zs)) E tNil tk) := by
  subst hm
  obtain ⟨f, fd, G, hmg, kp, b⟩ := h
  exact pe_gNS0 G hr hgd hg hmg kp b hx hk hall hks hdb hpl
end
theorem hasg_of {P : Program} {w : World} {K : PySem.W.Frag} {mg : Str → Option Value} {base : Heap} {CX : CXT} {x qual : Str} {st : Stmt} {f : Addr} {fd : FuncData} {ps : List Str} {k : Nat} {sp : Sp} (Fu : Fun K x qual st f fd) (m : mg x = some (.ref f)) (G : FnG P w K mg base CX k f fd ps sp)
    (h : ∀ (kV doc pm : Value) (an : Option Addr) (cdv ct : Value) (us : List Value), us.length = ps.length → bindArgs (PySem.W.fnOf x qual (defArgs st) (defBody st) (defScope st) .none kV doc pm an cdv ct) ⟨us, []⟩ = pure (ps.zip us)) : HasG P w K mg base CX x ps k sp := ⟨f, fd, G, m, Fu.kp, Fu.binds h⟩
theorem hasgk_of {P : Program} {w : World} {K : PySem.W.Frag} {mg : Str → Option Value} {base : Heap} {CX : CXT} {x qual : Str} {st : Stmt} {f : Addr} {fd : FuncData} {ps : List Str} {k : Nat} {sp : Sp} (Fu : Fun K x qual st f fd) (m : mg x = some (.ref f)) (G : FnG P w K mg base CX k f fd ps sp) (n : Nat) (ks : List Str) (ix : List Nat)
    (h : ∀ (kV doc pm : Value) (an : Option Addr) (cdv ct : Value) (us ws : List Value), us.length = n → ws.length = ks.length → bindArgs (PySem.W.fnOf x qual (defArgs st) (defBody st) (defScope st) .none kV doc pm an cdv ct) ⟨us, ks.zip ws⟩ = pure (ps.zip (perm ix (us ++ ws)))) : HasGK P w K mg base CX x ps k sp n ks ix := by
  obtain ⟨oc, od, kV, doc, pm, an, cdv, ct, osl, rfl, lk, hcd⟩ := Fu.ex
  exact ⟨f, _, G, m, Fu.kp, fun s us ws _ h1 h2 => .of_eq (h kV doc pm an cdv ct us ws h1 h2), fun h1 h2 => vals_perm (h1.append h2) ix⟩
/-! the rules for a def, by values -/
section
variable {P : Program} {w : World} {K : PySem.W.Frag} {mg : Str → Option Value} {base : Heap} {x qual : Str} {st : Stmt} {f : Addr} {fd : FuncData} {N ps : List Str} {k : Nat}
theorem fnG_ok {F : FS} (Fu : Fun K x qual st f fd) (S : FnScope N ps (defScope st)) (len : ∀ ws μ R, F ws μ R → ws.length = ps.length)
    (hbody : ∀ (cdv : Value) (A : Around) (fr : List Env) (s : Shared) (H : Hp) (E : XK), Room k (A.deeper (envOfC qual (defScope st) s.heap.objs.size f cdv)) → (A.deeper (envOfC qual (defScope st) s.heap.objs.size f cdv)).guards = some [] →
      ∃ t, PSs (cxOf CX0 P w K mg base N qual (defScope st) f cdv A fr s H E).nox (defBody st) t ∧ ∀ ws μ R, F ws μ R → AS K t { nx := fun _ μ' => R (.d .none) μ', rt := R } (stG N ws) μ) : FnG P w K mg base CX0 (k + 1) f fd ps (spD K F) := by
  obtain ⟨oc, od, kV, doc, pm, an, cdv, ct, osl, rfl, lk, hcd⟩ := Fu.ex
  refine fnG_of lk hcd S (fun vs H Q E ⟨A, M, μ, ws, R, mo, r, h, _⟩ => by rw [r.length]; exact len ws μ R h) fun A fr s H vs Q E hr hgd ⟨A', M, μ, ws, R, mo, r, h, q⟩ => ?_
  obtain ⟨t, ht, hs⟩ := hbody cdv A fr s H E hr hgd
  exact ⟨t, ht.nox, hs ws μ R h A' M _ H ⟨mo, gr_start r⟩ _ ⟨fun M' σ' H' Γ' μ' c e h => q M' H' _ _ μ' c.mo e (.d .non) h, fun M' H' v w μ' mo' e' r' h => q M' H' v w μ' mo' e' r' h, fun _ _ _ _ _ _ _ h => h.elim, fun _ _ _ _ _ _ _ h => h.elim, fun _ _ _ _ _ _ _ _ _ _ _ _ h => h.elim⟩⟩
theorem fnG_okX {F : FX} (Fu : Fun K x qual st f fd) (S : FnScope N ps (defScope st)) (len : ∀ ws μ R S, F ws μ R S → ws.length = ps.length)
    (hbody : ∀ (cdv : Value) (A : Around) (fr : List Env) (s : Shared) (H : Hp) (E : XK), Room k (A.deeper (envOfC qual (defScope st) s.heap.objs.size f cdv)) → (A.deeper (envOfC qual (defScope st) s.heap.objs.size f cdv)).guards = some [] →
      ∃ t, PSs (cxOf (L2.CX P w) P w K mg base N qual (defScope st) f cdv A fr s H E) (defBody st) t ∧ ∀ ws μ R S, F ws μ R S → AS K t { nx := fun _ μ' => R (.d .none) μ', rt := R, xw := fun c d _ H => E c d H, xc := fun x w _ μ' => S x w μ' } (stG N ws) μ) :
    FnG P w K mg base (L2.CX P w) (k + 1) f fd ps (spX K F) := by
  obtain ⟨oc, od, kV, doc, pm, an, cdv, ct, osl, rfl, lk, hcd⟩ := Fu.ex
  refine fnG_of lk hcd S (fun vs H Q E ⟨A, M, μ, ws, R, S, mo, r, h, _⟩ => by rw [r.length]; exact len ws μ R S h) fun A fr s H vs Q E hr hgd ⟨A', M, μ, ws, R, S, mo, r, h, q, qx⟩ => ?_
  obtain ⟨t, ht, hs⟩ := hbody cdv A fr s H E hr hgd
  exact ⟨t, ht, hs ws μ R S h A' M _ H ⟨mo, gr_start r⟩ _ ⟨fun M' σ' H' Γ' μ' c e h => q M' H' _ _ μ' c.mo e (.d .non) h, fun M' H' v w μ' mo' e' r' h => q M' H' v w μ' mo' e' r' h, fun _ _ _ _ _ _ _ h => h.elim, fun _ _ _ _ _ _ _ h => h.elim,
    fun M' σ' H' Γ' x a d w μ' hc c e h => qx M' H' x a d w μ' hc c.mo e h⟩⟩
end
/-! calls by values -/
section
variable {K : PySem.W.Frag} {Γ : G} {μ : Mu} {R : W → Mu → Prop} {ta tk : TA} {E : L2.St → XK} {xw : L2.WX} {xc : Str → W → G → Mu → Prop} {n m : Nat} {ix : List Nat}
theorem ax_g {F : FS} (h : AXA K ta Γ μ fun ws μ1 => F ws μ1 R) : AX K (tCallS (spD K F) E ta) Γ μ R := fun A M σ H c Q q =>
  h A M σ H c _ fun M1 H1 vs ws μ1 mo1 e1 r1 h1 => ⟨A, M1, μ1, ws, R, mo1, r1, h1, fun M' H' v w μ' mo' e' r' hR => q M' H' v w μ' mo' (e1.trans e') r' hR⟩
theorem ax_gN {F : FS} (h : AXA K ta Γ μ fun ws μ1 => ws.length = n ∧ AXA K tk Γ μ1 fun us μ2 => us.length = m ∧ F (perm ix (ws ++ us)) μ2 R) : AX K (tCallNS n m (spD K F) (fun vs zs => perm ix (vs ++ zs)) E ta tk) Γ μ R := fun A M σ H c Q q =>
  h A M σ H c _ fun M1 H1 vs ws μ1 mo1 e1 r1 ⟨l1, h1⟩ => h1 A M1 σ H1 (c.eff e1 mo1) _ fun M2 H2 zs us μ2 mo2 e2 r2 ⟨l2, h2⟩ =>
    ⟨r1.length.trans l1, r2.length.trans l2, A, M2, μ2, _, R, mo2, vrs_perm ((r1.mono e2.ex e2.pre).append r2) ix, h2, fun M' H' v w μ' mo' e' r' hR => q M' H' v w μ' mo' ((e1.trans e2).trans e') r' hR⟩
/-- called where it does not raise -/
theorem ax_gX {F : FX} (h : AXA K ta Γ μ fun ws μ1 => F ws μ1 R NoX) : AX K (tCallS (spX K F) E ta) Γ μ R := fun A M σ H c Q q =>
  h A M σ H c _ fun M1 H1 vs ws μ1 mo1 e1 r1 h1 => ⟨A, M1, μ1, ws, R, NoX, mo1, r1, h1, fun M' H' v w μ' mo' e' r' hR => q M' H' v w μ' mo' (e1.trans e') r' hR, fun _ _ _ _ _ _ _ _ _ _ z => z.elim⟩
theorem ax_gXN {F : FX} (h : AXA K ta Γ μ fun ws μ1 => ws.length = n ∧ AXA K tk Γ μ1 fun us μ2 => us.length = m ∧ F (perm ix (ws ++ us)) μ2 R NoX) : AX K (tCallNS n m (spX K F) (fun vs zs => perm ix (vs ++ zs)) E ta tk) Γ μ R := fun A M σ H c Q q =>
  h A M σ H c _ fun M1 H1 vs ws μ1 mo1 e1 r1 ⟨l1, h1⟩ => h1 A M1 σ H1 (c.eff e1 mo1) _ fun M2 H2 zs us μ2 mo2 e2 r2 ⟨l2, h2⟩ =>
    ⟨r1.length.trans l1, r2.length.trans l2, A, M2, μ2, _, R, NoX, mo2, vrs_perm ((r1.mono e2.ex e2.pre).append r2) ix, h2, fun M' H' v w μ' mo' e' r' hR => q M' H' v w μ' mo' ((e1.trans e2).trans e') r' hR, fun _ _ _ _ _ _ _ _ _ _ z => z.elim⟩
/-- called where it may raise, by keywords -/
theorem axx_callN {F : FX} (h : AXA K ta Γ μ fun ws μ1 => ws.length = n ∧ AXA K tk Γ μ1 fun us μ2 => us.length = m ∧ F (perm ix (ws ++ us)) μ2 R fun x w μ3 => xc x w Γ μ3) : AXx K xw xc (tCallNS n m (spX K F) (fun vs zs => perm ix (vs ++ zs)) (WE xw) ta tk) Γ μ R := fun A M σ H c x Q q =>
  h A M σ H c _ fun M1 H1 vs ws μ1 mo1 e1 r1 ⟨l1, h1⟩ => h1 A M1 σ H1 (c.eff e1 mo1) _ fun M2 H2 zs us μ2 mo2 e2 r2 ⟨l2, h2⟩ =>
    ⟨r1.length.trans l1, r2.length.trans l2, A, M2, μ2, _, R, _, mo2, vrs_perm ((r1.mono e2.ex e2.pre).append r2) ix, h2, fun M' H' v w μ' mo' e' r' hR => q M' H' v w μ' mo' ((e1.trans e2).trans e') r' hR,
      fun M' H' y a d w μ' hc mo' e' hS => x M' σ H' Γ y a d w μ' hc (c.eff ((e1.trans e2).trans e') mo') ((e1.trans e2).trans e') hS⟩
end
/-! ### the law's end -/
theorem law_callG {P : Program} {w : World} {K : PySem.W.Frag} {mg mb : Str → Option Value} {CX : CXT} {k : Nat} {fa a : Addr} {fd : FuncData} {x : Str} {sp : Sp} {s₁ : Shared} {vs : List Value} {ns : List Int}
    (KX : K.In s₁.heap) (hns : s₁.heap.Ns mainGlobals mg) (hb : s₁.heap.Ns builtinsNs mb) (hbb : ∀ x : Str, x ≠ "__name__" → mb x = bootBuiltins x) (hlim : s₁.heap.NoLimit) (hg : s₁.gens = #[])
    (ha : s₁.heap.get? a = some { cls := .type "list", data := .seq vs.toArray }) (hi : IntsAre vs ns) (hl : ns.length ≤ sizeLine) (hr : Room k callerA)
    (F : ∀ base : Heap, K.In base → base.Ns mainGlobals mg → FnG P w K mg base CX k fa fd [x] sp) (hbd : ∀ (s : Shared) (u : Value), BindsTo s fd ⟨[u], []⟩ [(x, u)])
    (hsp : ∀ H : Hp, Only H → SqL K H a (ns.map V.int) → sp [.ref a] H (fun v _ => v = .bl true) fun _ _ _ => False) (hCX : ∀ H e s', CX [] H s₁ (fun _ _ _ => False) e s' → False) :
    codeAny (model P w) callerA (.call (.ref fa) ⟨[.ref a], []⟩) (fun r s' => r = .ok (.ret (.bool true)) ∧ OldK s₁.heap s'.heap ∧ s'.os = s₁.os ∧ AllBare s'.gens) s₁ := by
  have rv := vals_ints hi
  have core : ∀ H : Hp, Only H → SqL K H a (ns.map V.int) → HOk P w H s₁.heap → (∀ b, H b ≠ none → b = a) → (H a ≠ none → K.lookup a = none) →
      codeAny (model P w) callerA (.call (.ref fa) ⟨[.ref a], []⟩) (fun r s' => r = .ok (.ret (.bool true)) ∧ OldK s₁.heap s'.heap ∧ s'.os = s₁.os ∧ AllBare s'.gens) s₁ := fun H hO hS hok hA hK => by
    have isA : ∀ {b : Addr} {u : HO}, H b = some u → b = a := fun {b u} q => hA b (by rw [q]; simp)
    have noA : ∀ {b : Addr} {o : Obj} {es : Array DictEntry} {ep : Nat}, s₁.heap.get? b = some o → o.data = .dict es ep → H b = none := fun {b o es ep} e d => by
      cases q : H b with
      | none => rfl
      | some u =>
        rw [isA q, ha] at e
        cases e
        cases d
    have toK : ∀ {b : Addr} {m : Str → Option Value}, s₁.heap.Ns b m → (hidT s₁.heap H).Ns b m := fun {b m} ⟨o, es, ep, e, d, r⟩ => ⟨o, es, ep, hidT_get e (noA e d), d, r⟩
    have KB : K.In (hidT s₁.heap H) := fun b o e => hidT_get (KX b o e) (by
      cases q : H b with
      | none => rfl
      | some u =>
        have z := isA q
        subst z
        rw [hK (by rw [q]; simp)] at e
        cases e)
    have md : Mod K mg (hidT s₁.heap H) := ⟨KB, toK hns, ⟨mb, toK hb, hbb⟩, let ⟨mc, h1, h2⟩ := hlim; ⟨mc, toK h1, h2⟩⟩
    have e0 : Env0 P w K mg (hidT s₁.heap H) callerA [] s₁ H := ⟨rfl, md, fun b o e => of_hidT e, Nat.le_of_eq (hidT_size _ _), trivial, fun b hb => (by cases hb), hok, .of_eq hg⟩
    refine codeAny_mono ((F _ KB (toK hns)).go callerA [] s₁ H ⟨[.ref a], []⟩ [.ref a] [.ref a] _ _ hr rfl e0 (hbd s₁ (.ref a)) (.cons rfl .nil) (hsp H hO hS)) fun r s' h => ?_
    match r, h with
    | .error e, h => exact (hCX H e s' h).elim
    | .ok (.ret u), ⟨v, H', os, bare, un, hok', r', q⟩ =>
      have q' : v = .bl true := q
      subst q'
      obtain rfl : u = Value.bool true := r'
      refine ⟨rfl, OldK.of_keep fun b o e => ?_, os, bare⟩
      cases q : H b with
      | none => exact un.keep b o e q (fun z => by cases z) (by simp)
      | some u =>
        rcases hO b with z | ⟨ob, xs, z⟩
        · rw [q] at z
          cases z
        · have e1 := (hok b _ z).1
          have e2 := (hok' b _ (un.frzs b ob _ z)).1
          rw [e] at e1
          cases e1
          exact e2
  cases hk : K.lookup a with
  | some o =>
    have e := KX a o hk
    rw [ha] at e
    cases e
    exact core (fun _ => none) (fun _ => .inl rfl) (.inr ⟨_, vs.toArray, _, hk, rfl, rfl, rfl, by rw [List.size_toArray, hi.length]; exact hl, by simpa using rv⟩) (fun b u z => by cases z) (fun b z => (z rfl).elim) fun z => (z rfl).elim
  | none =>
    have some_of : ∀ {b : Addr} {u : HO}, (if b = a then some (HO.frz { cls := .type "list", data := .seq vs.toArray } (.lst (ns.map V.int))) else none) = some u → b = a ∧ u = .frz { cls := .type "list", data := .seq vs.toArray } (.lst (ns.map V.int)) := fun {b u} z => by
      by_cases hb : b = a
      · rw [if_pos hb] at z
        exact ⟨hb, (Option.some.inj z).symm⟩
      · rw [if_neg hb] at z
        cases z
    refine core (fun b => if b = a then some (.frz { cls := .type "list", data := .seq vs.toArray } (.lst (ns.map V.int))) else none) (fun b => ?_) (.inl (.inr ⟨{ cls := .type "list", data := .seq vs.toArray }, if_pos rfl⟩)) (fun b u z => ?_) (fun b z => ?_) fun _ => hk
    · by_cases hb : b = a
      · exact .inr ⟨_, _, if_pos hb⟩
      · exact .inl (if_neg hb)
    · obtain ⟨rfl, rfl⟩ := some_of z
      exact ⟨ha, by rw [List.length_map]; exact hl, vs, _, rv, ha⟩
    · by_cases hb : b = a
      · exact hb
      · exact (z (if_neg hb)).elim
/-- the goal that k_head leaves, from the law's promise -/
theorem walk_ofG {l : PySem.W.OpenLaw} {n k : Nat} {q : Program} {loose : List Str} {XP : (Str → Option Value) → Heap → Prop} {YP : World → Heap → Prop} {d : DefRec} {K : Params → PySem.W.Frag} {CX : World → CXT} {sp : World → Sp} {x : Str}
    (hn : l.most = some n) (hn2 : n ≤ sizeLine) (hdf : d.params.defaults = []) (hr : Room k callerA) (hY : ∀ (w : World) (h : Heap), YP w h → (K w.params).In h)
    (F : ∀ (w : World) (mg : Str → Option Value) (fa : Addr) (h : Heap), (K w.params).In h → h.Ns mainGlobals mg → mg d.name = some (.ref fa) →
      ∃ fd : FuncData, (∀ (s : Shared) (u : Value), BindsTo s fd ⟨[u], []⟩ [(x, u)]) ∧ ∀ base : Heap, (K w.params).In base → base.Ns mainGlobals mg → FnG l.prog w (K w.params) mg base (CX w) k fa fd [x] (sp w))
    (hsp : ∀ (w : World) (H : Hp) (a : Addr) (ns : List Int), ns.length ≤ n → Only H → SqL (K w.params) H a (ns.map V.int) → sp w [.ref a] H (fun v _ => v = .bl true) fun _ _ _ => False)
    (hCX : ∀ (w : World) (H : Hp) (s : Shared) (e : Value) (s' : Shared), CX w [] H s (fun _ _ _ => False) e s' → False) : PySem.W.WalkO q loose XP YP l.row.toRowW d [] (fun f vs => PySem.call f vs) :=
  Att.attach_call hn hdf fun w s₀ s₁ mg mb fa o pm cd doc a vs ns G Y ho hd hcd hmg hobj hints hlen hg => by
    have KX := hY w _ Y
    obtain ⟨fd, hb, hF⟩ := F w mg fa _ KX G.T.g hmg
    exact law_callG KX G.T.g G.T.b G.T.builtins G.T.nolimit hg hobj hints (Nat.le_trans hlen hn2) hr hF hb (fun H hO hS => hsp w H a ns hlen hO hS) fun H e s' => hCX w H s₁ e s'
end Pd

/-! Pd11: repr of data. -/
namespace Pd
open PySem PySem.Spec L2
open Evl (Ex)
open PyProof.Rows
/-- data that may be shown -/
structure Shw (d : PyData) : Prop where
  s : d.showable = true
  n : d.hasDict = false
  dp : d.depth ≤ 60
  ln : d.shown.length ≤ sizeLine
mutual
/-- integers below 10 ** 50, proper texts, no dicts -/
def bd : PyData → Prop
  | .none | .bool _ => True
  | .int i => i.natAbs < 10 ^ 50
  | .str x => ∀ c ∈ x.cps.toList, c < 16 ^ 8
  | .list xs | .tuple xs => bds xs
  | .dict _ => False
def bds : List PyData → Prop
  | [] => True
  | x :: xs => bd x ∧ bds xs
end
mutual
def nd : PyData → Nat
  | .none | .bool _ | .int _ => 1
  | .str x => x.cps.size + 1
  | .list xs | .tuple xs => nds xs + 1
  | .dict _ => 1
def nds : List PyData → Nat
  | [] => 0
  | x :: xs => nd x + nds xs
end
theorem log_of {n : Nat} (h : n < 10 ^ 50) : n.log2 < 167 := by
  by_cases z : n = 0
  · subst z
    decide
  · exact (Nat.log2_lt z).mpr (Nat.lt_trans h (by decide))
mutual
theorem bd_all : ∀ d : PyData, bd d → d.showable = true ∧ d.hasDict = false ∧ d.leavesShort 60 = true ∧ d.weight + 1 ≤ 200 * nd d
  | .none, _ => ⟨rfl, rfl, rfl, by decide⟩
  | .bool _, _ => ⟨rfl, rfl, rfl, by simp [PyData.weight, nd]⟩
  | .int i, h => by
    have h' : i.natAbs < 10 ^ 50 := h
    have l := log_of h'
    refine ⟨decide_eq_true (Nat.lt_trans l (by decide)), rfl, decide_eq_true ?_, ?_⟩
    · have e := int_text_length_le10 (a := i) (k := 50) (by decide) h'
      have e2 : (PyData.shown (.int i)).length = (toString i).length := by
        show (Str.ofString (toString i)).length = _
        exact PySem.ofString_length _
      omega
    · show (if i == 0 then 0 else i.natAbs.log2 + 1) + 1 ≤ 200 * 1
      split <;> omega
  | .str x, h => ⟨rfl, rfl, by
      have h' : ∀ c ∈ x.cps.toList, c < 16 ^ 8 := h
      show (x.cps.toList.all fun c => decide (c < 16 ^ 8)) = true
      rw [List.all_eq_true]
      exact fun c m => decide_eq_true (h' c m), by
      show x.cps.size + 1 ≤ 200 * (x.cps.size + 1)
      omega⟩
  | .list xs, h => by
    obtain ⟨a, b, c, e⟩ := bds_all xs h
    exact ⟨a, b, c, by show PyData.weightAll xs + 1 ≤ 200 * (nds xs + 1); omega⟩
  | .tuple xs, h => by
    obtain ⟨a, b, c, e⟩ := bds_all xs h
    exact ⟨a, b, c, by show PyData.weightAll xs + 1 ≤ 200 * (nds xs + 1); omega⟩
  | .dict _, h => h.elim
theorem bds_all : ∀ xs : List PyData, bds xs → PyData.showableAll xs = true ∧ PyData.hasDictAll xs = false ∧ PyData.leavesShortAll 60 xs = true ∧ PyData.weightAll xs ≤ 200 * nds xs
  | [], _ => ⟨rfl, rfl, rfl, Nat.zero_le _⟩
  | x :: xs, h => by
    obtain ⟨a, b, c, e⟩ := bd_all x h.1
    obtain ⟨a', b', c', e'⟩ := bds_all xs h.2
    refine ⟨?_, ?_, ?_, ?_⟩
    · simp [PyData.showableAll, a, a']
    · simp [PyData.hasDictAll, b, b']
    · simp [PyData.leavesShortAll, c, c']
    · show PyData.weight x + 1 + PyData.weightAll xs ≤ 200 * (nd x + nds xs)
      omega
end
theorem shw_of {d : PyData} (h : bd d) (hn : nd d ≤ 1000) (hd : d.depth ≤ 60) : Shw d := by
  obtain ⟨a, b, c, e⟩ := bd_all d h
  refine ⟨a, b, hd, ?_⟩
  have := PyData.shown_le 60 (by decide) d c
  rw [sizeLine_eq]
  omega
theorem bds_ints : ∀ {ns : List Int}, (∀ n ∈ ns, n.natAbs < 10 ^ 50) → bds (ns.map PyData.int)
  | [], _ => trivial
  | n :: ns, h => ⟨h n (.head _), bds_ints fun m k => h m (.tail _ k)⟩
theorem nds_ints : ∀ ns : List Int, nds (ns.map PyData.int) = ns.length
  | [] => rfl
  | n :: ns => by
    show 1 + nds (ns.map PyData.int) = ns.length + 1
    rw [nds_ints ns]
    omega
theorem shw_ints {ns : List Int} (h : ∀ n ∈ ns, n.natAbs < 10 ^ 50) (hl : ns.length ≤ 900) : Shw (dInts ns) :=
  shw_of (bds_ints h) (by show nds (ns.map PyData.int) + 1 ≤ 1000; rw [nds_ints]; omega) (by have := depthAll_ints ns; simp only [dInts, PyData.depth]; omega)
def rRep (K : PySem.W.Frag) : List V → Hp → VK → Prop := fun xs H Q => ∃ v d, xs = [v] ∧ Dp K H v d ∧ Shw d ∧ Q (.str d.shown) H
theorem call_rep {X : Cx} (hg : X.A.guards = some []) (hu : X.A.units + 64 < cLine) : CallR X (.builtin "repr") (rRep X.K) := by
  intro pins s σ H xs us Q I r h
  obtain ⟨v, d, rfl, hd, S, q⟩ := h
  cases r with
  | @cons _ u _ _ rv rn =>
    cases rn
    have viaRef : ∀ a : Addr, v = .ref a → wpAny (model X.prog X.w) X.A (call (.builtin "repr") [u]) (EP X pins σ Q) X.xe s := fun a e => by
      subst e
      obtain rfl : u = Value.ref a := rv
      obtain ⟨as, rd⟩ := Dp.reads I d _ _ hd rfl
      refine repr_of_reads' rd S.s (fun z => by rw [S.n] at z; cases z) hg (by have := S.dp; omega) (fun _ _ e => e) (fun h' t tk k => ⟨.str d.shown, H, ?_, ⟨_, rfl⟩, q⟩) S.ln
      exact I.kept (t' := tk) k
    cases hd with
    | non =>
      obtain rfl : u = Value.none := rv
      exact PySem.P.repr_of_none ⟨.str (PyData.shown .none), H, I.tok _, ⟨_, rfl⟩, q⟩
    | bl b =>
      obtain rfl : u = Value.bool b := rv
      exact PySem.P.repr_of_bool ⟨.str (PyData.shown (.bool b)), H, I.tok _, ⟨_, by cases b <;> rfl⟩, q⟩
    | int i =>
      obtain ⟨t, rfl⟩ := rv
      exact PySem.P.repr_of_int (of_decide_eq_true S.s) ⟨.str (PyData.shown (.int i)), H, I.tok _, ⟨_, rfl⟩, q⟩
    | str x =>
      obtain ⟨t, rfl⟩ := rv
      exact PySem.P.repr_of_str ⟨.str (PyData.shown (.str x)), H, I.tok _, ⟨_, rfl⟩, q⟩ S.ln
    | lst _ _ => exact viaRef _ rfl
    | tup _ _ => exact viaRef _ rfl
theorem c_rep {K : PySem.W.Frag} {μ : Mu} {R : W → Mu → Prop} {x : W} {d : PyData} (hx : Rs μ x d) (S : Shw d) (q : R (.d (.str d.shown)) μ) : AC K (rRep K) [x] μ R := fun A M H vs mo rs Q h => by
  cases rs with
  | cons rw rn =>
    cases rn
    exact ⟨_, d, rfl, hx.dp mo rw, S, h M H _ _ μ mo Eff.refl (.d (.str _)) q⟩
/-- the module's x is the constant v -/
def Cst (mg : Str → Option Value) (x : Str) (v : V) : Prop := ∃ u, mg x = some u ∧ RelV v u
theorem pe_con0 {X : Cx} {x : Str} {v : V} {pos : Pos} (h : Cst X.mg x v) (hg : Gl X x) (hd : (x == ("__debug__" : Str)) = false := by decide) : PE X (.Name x pos) (tC v) := by
  obtain ⟨u, hm, r⟩ := h
  exact pe_glob hg hm r hd
end Pd

/-! Pd12: shorter readings: pure comprehensions, draws, clauses. -/
namespace Pd
open PySem PySem.Spec L2
open Evl (Ex)
open PyProof.Rows
section
variable {K : PySem.W.Frag} {Γ : G} {μ : Mu} {R : W → Mu → Prop} {wi : TI} {g : TG} {te : TE} {vs : List Nat}
theorem ai_weak {RI RI' : List W → (Mu → Prop) → Mu → Prop} (h : AI K wi Γ μ RI) (k : ∀ items S μ', RI items S μ' → RI' items S μ') : AI K wi Γ μ RI' := fun A M σ H c Q q => h A M σ H c Q fun M' H' J items S μ' mo e hJ hR => q M' H' J items S μ' mo e hJ (k _ _ _ hR)
theorem ag_weak {w : W} {RG RG' : G → Mu → Prop} (h : AG K g w Γ μ RG) (k : ∀ Γ' μ', RG Γ' μ' → RG' Γ' μ') : AG K g w Γ μ RG' := fun A M σ H v c r Q q => h A M σ H v c r Q fun M' σ' H' Γ' μ' c' e hR => q M' σ' H' Γ' μ' c' e (k _ _ hR)
/-- a comprehension that changes nothing -/
theorem ax_lcP {α : Type} (f : α → W) (ns : List α) (gf : α → W) (hz : ns.length ≤ sizeLine) (hw : WipeOk g vs) (h : AI K wi Γ μ fun items S μ1 => items = ns.map f ∧ S μ ∧ μ1 = μ)
    (hs : ∀ x, x ∈ ns → AG K g (f x) (wipeG Γ vs) μ fun Γ2 μ2 => AX K te Γ2 μ2 fun w μ4 => w = gf x ∧ μ4 = μ) (q : NL (ns.map gf) μ R) : AX K (tLc wi g tYes te vs) Γ μ R := by
  refine ax_lc f ns (fun pre acc μ' => acc = pre.map gf ∧ μ' = μ) hz hw ?_ ?_ ?_
  · refine ai_weak h fun items S μ1 ⟨a, b, c⟩ => ⟨a, fun pre acc μ' e => ?_, rfl, c⟩
    rw [e.2]
    exact b
  · rintro pre x post acc μ' e hl ⟨rfl, rfl⟩
    refine ag_weak (hs x (by rw [e]; simp)) fun Γ2 μ2 h2 => at_yes ?_
    rw [if_pos rfl]
    exact ax_weak h2 fun w μ4 ⟨a, b⟩ => ⟨by rw [a]; simp, b⟩
  · rintro acc μ' ⟨rfl, rfl⟩
    exact q
theorem ax_lcI {α : Type} (f : α → W) (ns : List α) (gf : α → Int) (hz : ns.length ≤ sizeLine) (hw : WipeOk g vs) (h : AI K wi Γ μ fun items S μ1 => items = ns.map f ∧ S μ ∧ μ1 = μ)
    (hs : ∀ x, x ∈ ns → AG K g (f x) (wipeG Γ vs) μ fun Γ2 μ2 => AX K te Γ2 μ2 fun w μ4 => w = .d (.int (gf x)) ∧ μ4 = μ) (q : NL (wInts (ns.map gf)) μ R) : AX K (tLc wi g tYes te vs) Γ μ R :=
  ax_lcP f ns (fun x => .d (.int (gf x))) hz hw h hs (by
    have e : ns.map (fun x => W.d (.int (gf x))) = wInts (ns.map gf) := by simp [wInts]
    rw [e]
    exact q)
/-- all([.. for ..]) -/
theorem ax_allP {α : Type} (f : α → W) (ns : List α) (pf : α → Bool) (hz : ns.length ≤ sizeLine) (hw : WipeOk g vs) (h : AI K wi Γ μ fun items S μ1 => items = ns.map f ∧ S μ ∧ μ1 = μ)
    (hs : ∀ x, x ∈ ns → AG K g (f x) (wipeG Γ vs) μ fun Γ2 μ2 => AX K te Γ2 μ2 fun w μ4 => w = .d (.bool (pf x)) ∧ μ4 = μ) (q : R (.d (.bool (ns.all pf))) μ) : AX K (tCB (rAll K) (tCons (tLc wi g tYes te vs) tNil)) Γ μ R := by
  refine ax_cb (aa_cons (ax_lcP f ns (fun x => .d (.bool (pf x))) hz hw h hs (NL.d (xs := ns.map fun x => PyData.bool (pf x)) ?_ (by simp))))
  refine aa_nil (ac_all (bs := ns.map pf) ?_ ?_)
  · have e : (ns.map pf).map (fun n => W.d (.bool n)) = (ns.map fun x => PyData.bool (pf x)).map W.d := by simp
    rw [e]
    exact .d _
  · have e : (ns.map pf).all id = ns.all pf := by simp [List.all_map]
    rw [e]
    exact q
theorem as_raiseE {D : AEn} {ta : TA} {x : PySem.Str} {xw : L2.WX} (hx : D.xw = xw) (h : AXA K ta Γ μ fun ws μ1 => ∃ w, ws = [w] ∧ D.xc x w Γ μ1) : AS K (tRaiseE K x xw ta) D Γ μ := by
  subst hx
  exact as_raise h
end
/-- as ax_lc, the list told once the iterator is made -/
theorem ax_lcD {K : PySem.W.Frag} {Γ : G} {μ : Mu} {wi : TI} {g : TG} {tt : TT} {te : TE} {vs : List Nat} {R : W → Mu → Prop} {α : Type} (f : α → W) (hw : WipeOk g vs)
    (h : AI K wi Γ μ fun items S μ1 => ∃ (ns : List α) (I : List α → List W → Mu → Prop), items = ns.map f ∧ ns.length ≤ sizeLine ∧ (∀ pre acc μ', I pre acc μ' → S μ') ∧ I [] [] μ1 ∧
      (∀ pre x post acc μ', ns = pre ++ x :: post → acc.length ≤ pre.length → I pre acc μ' → AG K g (f x) (wipeG Γ vs) μ' fun Γ2 μ2 => AXT K tt Γ2 μ2 fun b μ3 => if b = true then AX K te Γ2 μ3 fun w μ4 => I (pre ++ [x]) (acc ++ [w]) μ4 else I (pre ++ [x]) acc μ3) ∧
      ∀ acc μ', I ns acc μ' → NL acc μ' R) : AX K (tLc wi g tt te vs) Γ μ R := fun A M σ H cn Q q =>
  h A M σ H cn _ fun M1 H1 J items S μ1 mo1 e1 hJ ⟨ns, I, hi, hz, hS, h0, hs, hd⟩ => by
    subst hi
    intro p hp
    have hA : ¬ A p := fun z => mo1.aA p z hp
    refine ⟨fun i m H' => i ≤ ns.length ∧ m = ns.length - i ∧ LcI K A M1 μ1 H1 p (fun acc μ' => acc.length ≤ i ∧ I (ns.take i) acc μ') H',
      ⟨ns.length, Nat.zero_le _, rfl, M1, μ1, [], [], upd_same, mo1.add hp, by rw [delH_upd2, delH_none hp]; exact Eff.refl, .nil, Nat.le_refl _, h0⟩, fun i m H' hW => ?_⟩
    obtain ⟨hi, rfl, M', μ', us, acc, hu, mo', e', ru, hal, hI⟩ := hW
    have hex : Ex (vw A M1 μ1 H1) (vw (addA A p) M' μ' H') := by
      rw [vw_add]
      exact e'.ex
    have hit := hJ (addA A p) M' H' μ' mo' hex e'.pre (hS _ _ _ hI) i
    by_cases hlt : i < ns.length
    · have hx : ns[i]? = some ns[i] := List.getElem?_eq_getElem hlt
      have hw' : (ns.map f)[i]? = some (f ns[i]) := by rw [List.getElem?_map, hx]; rfl
      obtain ⟨hgo, hy⟩ := hit.1 _ hw'
      refine .inr ⟨hgo, LcI K A M1 μ1 H1 p (fun acc μ' => acc.length ≤ i + 1 ∧ I (ns.take (i + 1)) acc μ'), fun H2 h2 => ⟨ns.length - (i + 1), by omega, hlt, rfl, h2⟩, fun x H2 hyld => ?_⟩
      obtain ⟨ex2, rx⟩ := hy x H2 hyld
      have eH2 : Eff (addA A p) M' μ' H' M' μ' H2 := Eff.of_ex ex2
      have c0 : GR K (vw A M1 μ1 H1) M1 (wipe σ vs) (wipeG Γ vs) := (cn.gr.mono e1.ex e1.pre).wipeG vs
      have c2 : Cn K (addA A p) M' (wipe σ vs) H2 (wipeG Γ vs) μ' := ⟨mo'.ex ex2, (c0.mono hex e'.pre).mono (vw_ex ex2) (Pre.refl _)⟩
      have hlen : (ns.take i).length = i := by rw [List.length_take]; omega
      refine hw x σ H2 _ ?_
      refine hs (ns.take i) ns[i] (ns.drop (i + 1)) acc μ' (split_at hx) (by omega) hI (addA A p) M' (wipe σ vs) H2 x c2 rx _ fun M3 σ3 H3 Γ3 μ3 c3 e3 h3 => ?_
      refine h3 (addA A p) M3 σ3 H3 c3 _ fun M4 H4 b μ4 mo4 e4 h4 => ?_
      have eA : Eff (addA A p) M' μ' H' M4 μ4 H4 := (eH2.trans e3).trans e4
      have hu4 : H4 p = some (.lst us) := eA.own p _ (.inr rfl) hu
      cases b with
      | false =>
        refine ⟨M4, μ4, us, acc, hu4, mo4, e'.trans eA.del2, ru.mono eA.ex eA.pre, by omega, ?_⟩
        rw [take_snoc hx]
        exact h4
      | true =>
        refine h4 (addA A p) M4 σ3 H4 (c3.eff e4 mo4) _ fun M5 H5 y w μ5 mo5 e5 r5 h5 => ?_
        have eB : Eff (addA A p) M' μ' H' M5 μ5 H5 := eA.trans e5
        have hu5 : H5 p = some (.lst us) := eB.own p _ (.inr rfl) hu
        have rus : VRs K (vw (addA A p) M5 μ5 H5) M5 (us ++ [y]) (acc ++ [w]) := (ru.mono eB.ex eB.pre).snoc r5
        refine ⟨us, hu5, ?_, M5, μ5, us ++ [y], acc ++ [w], upd_same, mo5.wr hu5 noTb_lst, ?_, ?_, by simp; omega, ?_⟩
        · rw [ru.length]
          omega
        · rw [delH_upd2]
          exact e'.trans eB.del2
        · rw [vw_add, delH_upd2, ← vw_add]
          exact rus
        · rw [take_snoc hx]
          exact h5
    · have hei : i = ns.length := by omega
      subst hei
      refine .inl ⟨hit.2 (by simp), ?_⟩
      rw [List.take_length] at hI
      have md := mo'.del hA hu noTb_lst
      have rd : VRs K (vw A M' μ' (delH H' p)) M' us acc := by
        rw [← vw_add]
        exact ru
      obtain ⟨M2, μ2, w, m2, e2, r2, hR⟩ := (hd acc μ' hI).use md rd (show delH H' p p = none from if_pos rfl)
      rw [delH_upd hu] at m2 e2 r2
      exact q M2 H' _ w μ2 m2 ((e1.trans e').trans e2) r2 hR
/-- as as_for, the list told once the iterator is made -/
theorem as_forD {K : PySem.W.Frag} {Γ : G} {μ : Mu} {wi : TI} {g : TG} {tb : TS} {D : AEn} {α : Type} (f : α → W)
    (h : AI K wi Γ μ fun items S μ1 => ∃ (ns : List α) (I : List α → G → Mu → Prop), items = ns.map f ∧ (∀ pre Γ' μ', I pre Γ' μ' → S μ') ∧ I [] Γ μ1 ∧
      (∀ pre x post Γ' μ', ns = pre ++ x :: post → I pre Γ' μ' → AG K g (f x) Γ' μ' fun Γ2 μ2 => AS K tb { D with nx := I (pre ++ [x]), ct := I (pre ++ [x]), bk := D.nx } Γ2 μ2) ∧
      ∀ Γ' μ', I ns Γ' μ' → D.nx Γ' μ') : AS K (tFor wi g tb) D Γ μ := fun A M σ H cn E hE =>
  h A M σ H cn _ fun M1 H1 J items S μ1 mo1 e1 hJ ⟨ns, I, hi, hS, h0, hs, hd⟩ => by
    subst hi
    refine ⟨fun i m σ' H' => ∃ M' Γ' μ', Cn K A M' σ' H' Γ' μ' ∧ Eff A M1 μ1 H1 M' μ' H' ∧ i ≤ ns.length ∧ m = ns.length - i ∧ I (ns.take i) Γ' μ',
      ⟨ns.length, M1, Γ, μ1, cn.eff e1 mo1, Eff.refl, Nat.zero_le _, rfl, h0⟩, fun i m σ' H' hW => ?_⟩
    obtain ⟨M', Γ', μ', c', e', hi, rfl, hI⟩ := hW
    have hit := hJ A M' H' μ' c'.mo e'.ex e'.pre (hS _ _ _ hI) i
    by_cases hlt : i < ns.length
    · have hx : ns[i]? = some ns[i] := List.getElem?_eq_getElem hlt
      have hw : (ns.map f)[i]? = some (f ns[i]) := by rw [List.getElem?_map, hx]; rfl
      obtain ⟨hgo, hy⟩ := hit.1 _ hw
      refine .inr ⟨hgo, fun σ2 H2 => ∃ M2 Γ2 μ2, Cn K A M2 σ2 H2 Γ2 μ2 ∧ Eff A M1 μ1 H1 M2 μ2 H2 ∧ I (ns.take (i + 1)) Γ2 μ2,
        fun σ2 H2 ⟨M2, Γ2, μ2, c2, e2, hI2⟩ => ⟨ns.length - (i + 1), by omega, M2, Γ2, μ2, c2, e2, hlt, rfl, hI2⟩, fun x H2 hyld => ?_⟩
      obtain ⟨ex2, rx⟩ := hy x H2 hyld
      have e2' : Eff A M' μ' H' M' μ' H2 := Eff.of_ex ex2
      refine hs (ns.take i) ns[i] (ns.drop (i + 1)) Γ' μ' (split_at hx) hI A M' σ' H2 x (c'.ex ex2) rx _ fun M3 σ3 H3 Γ3 μ3 c3 e3 h3 => ?_
      have e13 : Eff A M1 μ1 H1 M3 μ3 H3 := (e'.trans e2').trans e3
      refine h3 A M3 σ3 H3 c3 _ ⟨fun M4 σ4 H4 Γ4 μ4 c4 e4 h4 => ?_, fun M4 H4 v w μ4 m4 e4 r4 h4 => hE.rt M4 H4 v w μ4 m4 ((e1.trans e13).trans e4) r4 h4, fun M4 σ4 H4 Γ4 μ4 c4 e4 h4 => hE.nx M4 σ4 H4 Γ4 μ4 c4 ((e1.trans e13).trans e4) h4, fun M4 σ4 H4 Γ4 μ4 c4 e4 h4 => ?_, hE.xx.after (e1.trans e13)⟩
      · refine ⟨M4, Γ4, μ4, c4, e13.trans e4, ?_⟩
        rw [take_snoc hx]
        exact h4
      · refine ⟨M4, Γ4, μ4, c4, e13.trans e4, ?_⟩
        rw [take_snoc hx]
        exact h4
    · have hei : i = ns.length := by omega
      subst hei
      refine .inl ⟨hit.2 (by simp), ?_⟩
      rw [List.take_length] at hI
      exact hE.nx M' σ' H' Γ' μ' c' (e1.trans e') (hd Γ' μ' hI)
theorem ax_xvV {K : PySem.W.Frag} {Γ : G} {μ : Mu} {R : W → Mu → Prop} {a C d : Addr} {x : PySem.Str} {k i : Nat} {w : W} (hx : ErrV K x) (hC : clA K x C) (hi : Γ[i]? = some (some (.k (.ref a)))) (hk : μ[k]? = some (some (.xd d w))) (q : R w μ) : AX K (tXv K a (.ref C) (some d) (tVar i)) Γ μ R :=
  ax_xv hx hC (ax_var hi ⟨rfl, hk, q⟩)
theorem set_self {μ : Mu} {k : Nat} {c : Option C} (h : μ[k]? = some c) : μ.set k c = μ := by
  apply List.ext_getElem?
  intro j
  rw [List.getElem?_set]
  by_cases e : k = j
  · subst e
    rw [if_pos rfl, if_pos (List.getElem?_eq_some_iff.mp h).1, h]
  · rw [if_neg e]
theorem eqv_rs {d : PyData} (h : SeqAt.shaped d = true) : PyData.eqv d d = true := SeqAt.eqv_refl d (SeqAt.canLay_of_shaped h)
/-! ### the list that is drawn from -/
def PotOk (n : Nat) (c : Option C) : Prop := ∃ a b k : Int, c = some (.lst (wInts [a, b, k])) ∧ 0 ≤ a ∧ 0 ≤ b ∧ b < 2 ^ 200 ∧ 0 ≤ k ∧ k ≤ n
theorem PotOk.le {n m : Nat} {c : Option C} (h : PotOk n c) (e : n ≤ m) : PotOk m c := let ⟨a, b, k, h0, h1, h2, h3, h4, h5⟩ := h; ⟨a, b, k, h0, h1, h2, h3, h4, by omega⟩
def F_draw : FS := fun ws μ R => ∃ k many p n, ws = [.m k, .d (.int many)] ∧ μ[k]? = some p ∧ PotOk n p ∧ n ≤ 1000000 ∧ 0 < many ∧ many < 2 ^ 200 ∧ ∀ r p', 0 ≤ r → r < many → PotOk (n + 1) p' → R (.d (.int r)) (μ.set k p')
theorem draw_at {μ : Mu} {R : W → Mu → Prop} {k : Nat} {many : Int} {p : Option C} {n : Nat} (hk : μ[k]? = some p) (hp : PotOk n p) (hn : n ≤ 1000000) (h0 : 0 < many) (h1 : many < 2 ^ 200) (q : ∀ r p', 0 ≤ r → r < many → PotOk (n + 1) p' → R (.d (.int r)) (μ.set k p')) : F_draw [.m k, .d (.int many)] μ R := ⟨k, many, p, n, rfl, hk, hp, hn, h0, h1, q⟩
theorem Keeps.pot {μ : Mu} {k n : Nat} {p : Option C} (h : PotOk n p) : Keeps μ (μ.set k p) := by
  obtain ⟨a, b, c, rfl, _⟩ := h
  exact Keeps.set (xs := [.int a, .int b, .int c])
/-! ### what the clauses do -/
section
variable {K : PySem.W.Frag} {D : AEn} {x y : PySem.Str} {w : W} {Γ : G} {μ : Mu} {i : Nat} {ts : Addr → PySem.Value → Option Addr → TS} {r : List Hn}
theorem hX_yes (h : SubIs K x y true) (q : ∀ a C d, clA K x C → AS K (ts a (.ref C) (some d)) { D with nx := fun g m => D.nx (g.set i none) m, bk := fun g m => D.bk (g.set i none) m, ct := fun g m => D.ct (g.set i none) m } (Γ.set i (some (.k (.ref a)))) (μ ++ [some (.xd d w)])) :
    hX K D (⟨y, some i, ts⟩ :: r) x w Γ μ := ⟨true, h, fun _ a C d hc => q a C d hc, fun z => by cases z⟩
theorem hX_yesA (h : SubIs K x y true) (q : ∀ a C d, clA K x C → AS K (ts a (.ref C) (some d)) D Γ (μ ++ [some (.xd d w)])) : hX K D (⟨y, none, ts⟩ :: r) x w Γ μ := ⟨true, h, fun _ a C d hc => q a C d hc, fun z => by cases z⟩
theorem hX_no {j : Option Nat} (h : SubIs K x y false) (q : hX K D r x w Γ μ) : hX K D (⟨y, j, ts⟩ :: r) x w Γ μ := ⟨false, h, fun z => absurd z (by decide), fun _ => q⟩
end
end Pd

/-! Pd13: defs that call themselves; slices of tuples, turned tuples. -/
namespace HT
open PySem PySem.Spec PyProof.Rows PySem.Calls
section
variable {prog : Program} {w : World} {A : Around} {E : Value → Shared → Prop} {s : Shared}
theorem adjust_rev (n : Nat) : Builtin.Slice.sliceAdjust none none (-1) (n : Int) = ((n : Int) - 1, -1) := rfl
theorem places_rev (n : Nat) : Builtin.Slice.slicePlaces ((n : Int) - 1) (-1) (-1) = n := by
  unfold Builtin.Slice.slicePlaces
  have h1 : ¬ ((-1 : Int) > 0) := by omega
  simp only [h1, if_false]
  rw [show (-(-1 : Int)) = 1 from rfl, Int.ediv_one]
  split <;> omega
theorem sliceApplied_rev {sl : Addr} {vl vu vs : Value} {n : Nat} {Q : Int × Int × Nat → Shared → Prop} (hs : s.heap.IsSliceOf sl vl vu vs) (pl : IsPart vl none) (pu : IsPart vu none) (ps : IsPart vs (some (-1)))
    (h : Q ((n : Int) - 1, -1, n) s) : wpAny (model prog w) A (Builtin.Slice.sliceApplied (.ref sl) (pure (n : Int))) Q E s := by
  obtain ⟨os, hos, hcs, hds⟩ := id hs
  unfold Builtin.Slice.sliceApplied Builtin.Slice.sliceFields
  refine wpAny_bind (wpAny_bind (wpAny_field hos hds (x := vl) rfl (wpAny_bind (wpAny_field hos hds (x := vu) rfl (wpAny_bind (wpAny_field hos hds (x := vs) rfl (wpAny_pure ?_)))))))
  refine wpAny_bind (slicePart_ ps ?_)
  show wpAny _ _ (if ((-1 : Int) == 0) = true then _ else _) _ _ s
  rw [if_neg (by decide)]
  refine wpAny_bind (slicePart_ pl (wpAny_bind (slicePart_ pu (wpAny_bind (wpAny_pure ?_)))))
  show wpAny _ _ (match Builtin.Slice.sliceAdjust none none (-1) (n : Int) with | (lo, hi) => pure (lo, (-1 : Int), Builtin.Slice.slicePlaces lo hi (-1))) _ _ s
  rw [adjust_rev]
  show wpAny _ _ (pure (((n : Int) - 1), (-1 : Int), Builtin.Slice.slicePlaces ((n : Int) - 1) (-1) (-1))) _ _ s
  rw [places_rev]
  exact wpAny_pure h
theorem pick_rev (xs : Array Value) : ((List.range xs.size).filterMap fun (m : Nat) => xs[(((xs.size : Nat) : Int) - 1 + (m : Int) * (-1)).toNat]?).toArray = xs.toList.reverse.toArray := by
  have e : ((List.range xs.size).filterMap fun (m : Nat) => xs[(((xs.size : Nat) : Int) - 1 + (m : Int) * (-1)).toNat]?) = ((List.range xs.size).map fun k => xs.size - 1 - k).filterMap (xs[·]?) := by
    rw [List.filterMap_map]
    have e2 : (fun (m : Nat) => xs[(((xs.size : Nat) : Int) - 1 + (m : Int) * (-1)).toNat]?) = ((xs[·]?) ∘ fun k => xs.size - 1 - k) := by
      funext m
      show xs[_]? = xs[_]?
      rw [show (((xs.size : Nat) : Int) - 1 + (m : Int) * (-1)).toNat = xs.size - 1 - m by omega]
    rw [e2]
  rw [e, PySem.W.krv_range, List.filterMap_reverse, PySem.W.krv_all]
theorem getItem_tuple_rev {t sl : Addr} {items : Array Value} {vl vu vs : Value} {Q : Value → Shared → Prop} (ht : IsTup s.heap t items) (hs : s.heap.IsSliceOf sl vl vu vs) (pl : IsPart vl none) (pu : IsPart vu none) (ps : IsPart vs (some (-1)))
    (h : Q (.ref s.heap.objs.size) { s with heap := s.heap.push { cls := .type "tuple", data := .seq items.toList.reverse.toArray } })
    (hsz : items.size ≤ sizeLine) : wpAny (model prog w) A (getItem (.ref t) (.ref sl)) Q E s := by
  have htake : sizeOk (.seq items.toList.reverse.toArray) := by
    show items.toList.reverse.toArray.size ≤ sizeLine
    rw [List.size_toArray, List.length_reverse, Array.length_toList]
    exact hsz
  obtain ⟨os, hos, hcs, hds⟩ := id hs
  have hTs : s.TypeIs (.ref sl) "slice" := ⟨os, hos, hcs⟩
  unfold getItem
  try with_reducible refine wpAny_holding ?_
  first | refine wpAny_bind (wpAny_pure ?_) | skip
  refine wpAny_bind (wpAny_sequenceKey ht.typeIs (by decide) ?_)
  refine wpAny_bind (wpAny_callSpecial?_slot (name := Str.ofString "__getitem__") ht.typeIs PyProof.Rows.slot_tuple_getitem
    (wpAny_call_entry PyProof.Rows.slot_tuple_getitem ht.typeIs entry_tuple_getitem ?_ (args_tuple_getitem _ _)))
  show wpAny _ _ (Builtin.Tuple.tupleItemsOf (.ref t) >>= _) _ _ s
  refine wpAny_bind (tupleItemsOf_ ht ?_)
  refine wpAny_bind (wpAny_typeOf hTs ?_)
  rw [if_pos (by decide)]
  refine wpAny_bind (sliceApplied_rev hs pl pu ps ?_)
  have hno : ¬ (((((items.size : Nat) : Int) - 1) == 0 && (-1 : Int) == 1 && items.size == items.size) = true) := by
    intro q
    rw [Bool.and_eq_true, Bool.and_eq_true] at q
    exact absurd q.1.2 (by decide)
  show wpAny _ _ (if ((((items.size : Nat) : Int) - 1) == 0 && (-1 : Int) == 1 && items.size == items.size) = true then _ else _) _ _ s
  rw [if_neg hno, pick_rev]
  first
    | exact wpAny_bind (m := Builtin.Tuple.tupleExact _) (wpAny_newObj_type (wpAny_pure ⟨_, rfl, wpAny_pure h⟩) htake)
    | exact wpAny_bind (m := Builtin.Tuple.tupleExact _) (wpAny_newObj_type (wpAny_bind (wpAny_pure (wpAny_pure ⟨_, rfl, wpAny_pure h⟩))) htake)
    | exact wpAny_bind (wpAny_bind (m := Builtin.Tuple.tupleExact _) (wpAny_newObj_type (wpAny_pure (wpAny_pure ⟨_, rfl, wpAny_pure h⟩)) htake))
    | exact wpAny_bind (wpAny_bind (m := Builtin.Tuple.tupleExact _) (wpAny_newObj_type (wpAny_pure ⟨_, rfl, wpAny_pure h⟩) htake))
end
end HT
namespace L2
open PySem PySem.Spec PyProof.Rows
variable {X : Cx}
def tRevT (K : PySem.W.Frag) (te : TE) : TE := fun σ H Q => te σ H fun x H1 => ∃ a xs, x = .ref a ∧ SqT K H1 a xs ∧ ∀ p, H1 p = none → Q (.ref p) (upd H1 p (.tup xs.reverse))
theorem pe_revT {e : Expr} {te : TE} {k : Nat} {p1 p2 p3 pos : Pos} (he : PE X e te) : PE X (.Subscript e (.Slice none none (some (.UnaryOp .USub (.Constant (.int 1) k p1) p2)) p3) pos) (tRevT X.K te) := by
  refine ⟨fun pins s σ H Q I h => ?_⟩
  refine Subscript_ (thn (he.run pins s σ H _ I h) fun v s1 ⟨x, H1, I1, r1, a, xs, ex, hx, q⟩ => ?_)
  subst ex
  cases r1
  have hst : PO X (some (.UnaryOp .USub (.Constant (.int 1) k p1) p2)) (tPart (tUn (rU fun i => .int (-i)) (tC (.int 1)))) := po_some (pe_un un_neg pe_int)
  refine wpAny_Slice (thn (po_none.run pins s1 σ H1 (fun o H2 => o = none ∧ H2 = H1) I1 ⟨rfl, rfl⟩) fun vl s2 ⟨l, H2, I2, pl, el, e2⟩ => ?_)
  subst el e2
  refine thn (po_none.run pins s2 σ H2 (fun o H3 => o = none ∧ H3 = H2) I2 ⟨rfl, rfl⟩) fun vu s3 ⟨u, H3, I3, pu, eu, e3⟩ => ?_
  subst eu e3
  refine thn (hst.run pins s3 σ H3 (fun o H4 => o = some (-1) ∧ H4 = H3) I3 ⟨1, rfl, -1, rfl, rfl, rfl⟩) fun vs s4 ⟨o, H4, I4, ps, eo, e4⟩ => ?_
  subst eo e4
  have I5 : Inv X pins σ H4 { s4 with heap := s4.heap.push { cls := .type "slice", data := .fields #[vl, vu, vs] } } := I4.kept (t' := s4.toks) fun b ob q => Heap.get?_push_of_some _ q
  obtain ⟨its, r, ht, hz⟩ := I5.tuple hx
  have hlen := r.length
  show wpAny (model X.prog X.w) X.A (subscriptTail e (.Slice none none (some (.UnaryOp .USub (.Constant (.int 1) k p1) p2)) p3) (.ref a) (.ref s4.heap.objs.size)) (EP X pins σ Q) X.xe { s4 with heap := s4.heap.push { cls := .type "slice", data := .fields #[vl, vu, vs] } }
  refine tail_any (ops := [.ref a, .ref s4.heap.objs.size]) ht.typeIs (PyProof.Rows.slot_tuple_getitem.lookup) ?_ (by with_unfolding_all rfl)
  refine HT.getItem_tuple_rev ht (Heap.IsSliceOf.new _ vl vu vs) pl pu ps ?_ (by rw [List.size_toArray]; omega)
  refine ⟨.ref _, _, I5.laid (t' := s4.toks) (o := .tup xs.reverse) (fun b ob q => Heap.get?_push_of_some _ q) (Nat.le_refl _) ?_, rfl, q _ (I5.hok.fresh (Nat.le_refl _))⟩
  exact ⟨by rw [List.length_reverse]; exact hz, its.reverse, r.reverse, IsTup.new _ _⟩
end L2
namespace Pd
open PySem PySem.Spec L2
open Evl (Ex)
open PyProof.Rows
section
variable {K : PySem.W.Frag} {Γ : G} {μ : Mu} {R : W → Mu → Prop} {te : TE}
theorem ax_revT (h : AX K te Γ μ fun x μ1 => ∃ ws, TW x ws ∧ NT ws.reverse μ1 R) : AX K (tRevT K te) Γ μ R := fun A M σ H c Q q =>
  h A M σ H c _ fun M1 H1 v x μ1 mo1 e1 r1 ⟨ws, hx, hn⟩ => by
    obtain ⟨a, vs, rfl, hs, rs⟩ := hx.get r1
    refine ⟨a, vs, rfl, Evl.ex_t vw_le hs, fun p hp => ?_⟩
    obtain ⟨w, m2, e2, r2, hR⟩ := hn.use mo1 rs.reverse hp
    exact q M1 _ _ w μ1 m2 (e1.trans e2) r2 hR
theorem o_slT {x : W} {ws : List W} {lo hi : Option Int} (hx : TW x ws) (q : NT (cutW ws lo hi) μ R) : ASl K (rSlU K) x lo hi μ R := asl_r (asl_l fun A M H v mo rv Q h => by
  obtain ⟨a, vs, rfl, hs, rs⟩ := hx.get rv
  refine ⟨a, vs, rfl, Evl.ex_t vw_le hs, fun z => ?_, fun _ p hp => ?_⟩
  · have e : cutW ws lo hi = ws := by
      rw [rs.length] at z
      unfold cutW
      rw [z.1, z.2]
      simp
    rw [e] at q
    exact q.same mo hs rs h
  · obtain ⟨w, m2, e2, r2, hR⟩ := q.use mo (vrs_cut rs lo hi) hp
    exact h M _ _ w μ m2 e2 r2 hR)
end
/-! isinstance of data -/
def is_list : PyData → Bool
  | .list _ => true
  | _ => false
theorem c_is_list {K : PySem.W.Frag} {μ : Mu} {R : W → Mu → Prop} {d : PyData} (hb : bd d) (q : R (.d (.bool (is_list d))) μ) : AC K (rIsi K) [.d d, .k (.ty "list")] μ R := by
  cases d with
  | none => exact c_isi tyw_n kb_NoneType_list q
  | bool _ => exact c_isi tyw_b kb_bool_list q
  | int _ => exact c_isi tyw_i kb_int_list q
  | str _ => exact c_isi tyw_s kb_str_list q
  | list _ => exact c_isi tyw_l kb_list_list q
  | tuple _ => exact c_isi tyw_t kb_tuple_list q
  | dict _ => exact hb.elim
def is_tuple : PyData → Bool
  | .tuple _ => true
  | _ => false
theorem c_is_tuple {K : PySem.W.Frag} {μ : Mu} {R : W → Mu → Prop} {d : PyData} (hb : bd d) (q : R (.d (.bool (is_tuple d))) μ) : AC K (rIsi K) [.d d, .k (.ty "tuple")] μ R := by
  cases d with
  | none => exact c_isi tyw_n kb_NoneType_tuple q
  | bool _ => exact c_isi tyw_b kb_bool_tuple q
  | int _ => exact c_isi tyw_i kb_int_tuple q
  | str _ => exact c_isi tyw_s kb_str_tuple q
  | list _ => exact c_isi tyw_l kb_list_tuple q
  | tuple _ => exact c_isi tyw_t kb_tuple_tuple q
  | dict _ => exact hb.elim
def is_bool : PyData → Bool
  | .bool _ => true
  | _ => false
theorem c_is_bool {K : PySem.W.Frag} {μ : Mu} {R : W → Mu → Prop} {d : PyData} (hb : bd d) (q : R (.d (.bool (is_bool d))) μ) : AC K (rIsi K) [.d d, .k (.ty "bool")] μ R := by
  cases d with
  | none => exact c_isi tyw_n kb_NoneType_bool q
  | bool _ => exact c_isi tyw_b kb_bool_bool q
  | int _ => exact c_isi tyw_i kb_int_bool q
  | str _ => exact c_isi tyw_s kb_str_bool q
  | list _ => exact c_isi tyw_l kb_list_bool q
  | tuple _ => exact c_isi tyw_t kb_tuple_bool q
  | dict _ => exact hb.elim
def is_int : PyData → Bool
  | .bool _ => true
  | .int _ => true
  | _ => false
theorem c_is_int {K : PySem.W.Frag} {μ : Mu} {R : W → Mu → Prop} {d : PyData} (hb : bd d) (q : R (.d (.bool (is_int d))) μ) : AC K (rIsi K) [.d d, .k (.ty "int")] μ R := by
  cases d with
  | none => exact c_isi tyw_n kb_NoneType_int q
  | bool _ => exact c_isi tyw_b kb_bool_int q
  | int _ => exact c_isi tyw_i kb_int_int q
  | str _ => exact c_isi tyw_s kb_str_int q
  | list _ => exact c_isi tyw_l kb_list_int q
  | tuple _ => exact c_isi tyw_t kb_tuple_int q
  | dict _ => exact hb.elim
def is_str : PyData → Bool
  | .str _ => true
  | _ => false
theorem c_is_str {K : PySem.W.Frag} {μ : Mu} {R : W → Mu → Prop} {d : PyData} (hb : bd d) (q : R (.d (.bool (is_str d))) μ) : AC K (rIsi K) [.d d, .k (.ty "str")] μ R := by
  cases d with
  | none => exact c_isi tyw_n kb_NoneType_str q
  | bool _ => exact c_isi tyw_b kb_bool_str q
  | int _ => exact c_isi tyw_i kb_int_str q
  | str _ => exact c_isi tyw_s kb_str_str q
  | list _ => exact c_isi tyw_l kb_list_str q
  | tuple _ => exact c_isi tyw_t kb_tuple_str q
  | dict _ => exact hb.elim
theorem cut_d {xs : List PyData} {lo hi : Option Int} : cutW (xs.map W.d) lo hi = ((xs.drop (HT.sIx xs.length 0 lo)).take (HT.sIx xs.length xs.length hi - HT.sIx xs.length 0 lo)).map W.d := by
  unfold cutW
  rw [List.length_map, List.map_take, List.map_drop]
theorem cutD_to {xs : List PyData} {k : Nat} : cutW (xs.map W.d) none (some (k : Int)) = (xs.take k).map W.d := by
  rw [cut_d, HT.sIx_none, HT.sIx_nat, List.drop_zero, Nat.sub_zero]
  exact congrArg _ (List.take_eq_take_iff.mpr (by omega))
theorem cutD_from {xs : List PyData} {k : Nat} : cutW (xs.map W.d) (some (k : Int)) none = (xs.drop k).map W.d := by
  rw [cut_d, HT.sIx_none, HT.sIx_nat]
  refine congrArg _ ?_
  rw [List.take_of_length_le (by rw [List.length_drop]; exact Nat.le_refl _)]
  by_cases h : k ≤ xs.length
  · rw [Nat.min_eq_left h]
  · rw [Nat.min_eq_right (by omega), List.drop_of_length_le (Nat.le_refl _), List.drop_of_length_le (by omega)]
theorem NL.dd {xs : List PyData} {μ : Mu} {R : W → Mu → Prop} (h : R (.d (.list xs)) μ) : NL (xs.map W.d) μ R := NL.d h rfl
theorem NT.dd {xs : List PyData} {μ : Mu} {R : W → Mu → Prop} (h : R (.d (.tuple xs)) μ) : NT (xs.map W.d) μ R := NT.d h rfl
section
variable {K : PySem.W.Frag} {Γ : G} {μ : Mu} {R : W → Mu → Prop} {wi : TI} {g : TG} {te : TE} {vs : List Nat}
theorem ax_lcB {α : Type} (f : α → W) (ns : List α) (pf : α → Bool) (hz : ns.length ≤ sizeLine) (hw : WipeOk g vs) (h : AI K wi Γ μ fun items S μ1 => items = ns.map f ∧ S μ ∧ μ1 = μ)
    (hs : ∀ x, x ∈ ns → AG K g (f x) (wipeG Γ vs) μ fun Γ2 μ2 => AX K te Γ2 μ2 fun w μ4 => w = .d (.bool (pf x)) ∧ μ4 = μ) (q : R (.d (.list ((ns.map pf).map PyData.bool))) μ) : AX K (tLc wi g tYes te vs) Γ μ R :=
  ax_lcP f ns (fun x => .d (.bool (pf x))) hz hw h hs (NL.d q (by simp))
/-- a comprehension of data -/
theorem ax_lcD' {α : Type} (f : α → W) (ns : List α) (df : α → PyData) (hz : ns.length ≤ sizeLine) (hw : WipeOk g vs) (h : AI K wi Γ μ fun items S μ1 => items = ns.map f ∧ S μ ∧ μ1 = μ)
    (hs : ∀ x, x ∈ ns → AG K g (f x) (wipeG Γ vs) μ fun Γ2 μ2 => AX K te Γ2 μ2 fun w μ4 => w = .d (df x) ∧ μ4 = μ) (q : R (.d (.list (ns.map df))) μ) : AX K (tLc wi g tYes te vs) Γ μ R :=
  ax_lcP f ns (fun x => .d (df x)) hz hw h hs (NL.d q (by simp))
theorem c_allB {bs : List Bool} (q : R (.d (.bool (bs.all id))) μ) : AC K (rAll K) [.d (.list (bs.map PyData.bool))] μ R := by
  refine ac_all (bs := bs) ?_ q
  have e : bs.map (fun n => W.d (.bool n)) = (bs.map PyData.bool).map W.d := by simp
  rw [e]
  exact .d _
theorem c_sumI {ns : List Int} (q : R (.d (.int ns.sum)) μ) : AC K (rSum K) [.d (dInts ns)] μ R := ac_sum (lw_ints _ _) q
end
theorem NT.d0 {μ : Mu} {R : W → Mu → Prop} (h : R (.d (.tuple [])) μ) : NT [] μ R := NT.d (xs := []) h rfl
theorem NT.d4 {μ : Mu} {R : W → Mu → Prop} {a b c d : PyData} (h : R (.d (.tuple [a, b, c, d])) μ) : NT [W.d a, W.d b, W.d c, W.d d] μ R := NT.d (xs := [a, b, c, d]) h rfl
theorem NT.d5 {μ : Mu} {R : W → Mu → Prop} {a b c d e : PyData} (h : R (.d (.tuple [a, b, c, d, e])) μ) : NT [W.d a, W.d b, W.d c, W.d d, W.d e] μ R := NT.d (xs := [a, b, c, d, e]) h rfl
theorem NT.d6 {μ : Mu} {R : W → Mu → Prop} {a b c d e f : PyData} (h : R (.d (.tuple [a, b, c, d, e, f])) μ) : NT [W.d a, W.d b, W.d c, W.d d, W.d e, W.d f] μ R := NT.d (xs := [a, b, c, d, e, f]) h rfl
theorem NL.d4 {μ : Mu} {R : W → Mu → Prop} {a b c d : PyData} (h : R (.d (.list [a, b, c, d])) μ) : NL [W.d a, W.d b, W.d c, W.d d] μ R := NL.d (xs := [a, b, c, d]) h rfl
theorem NL.d5 {μ : Mu} {R : W → Mu → Prop} {a b c d e : PyData} (h : R (.d (.list [a, b, c, d, e])) μ) : NL [W.d a, W.d b, W.d c, W.d d, W.d e] μ R := NL.d (xs := [a, b, c, d, e]) h rfl
theorem NL.d6 {μ : Mu} {R : W → Mu → Prop} {a b c d e f : PyData} (h : R (.d (.list [a, b, c, d, e, f])) μ) : NL [W.d a, W.d b, W.d c, W.d d, W.d e, W.d f] μ R := NL.d (xs := [a, b, c, d, e, f]) h rfl
theorem NL.d7 {μ : Mu} {R : W → Mu → Prop} {a b c d e f g : PyData} (h : R (.d (.list [a, b, c, d, e, f, g])) μ) : NL [W.d a, W.d b, W.d c, W.d d, W.d e, W.d f, W.d g] μ R := NL.d (xs := [a, b, c, d, e, f, g]) h rfl
/-- data of such a size -/
def Gd (y : PyData) (a b : Nat) : Prop := bd y ∧ nd y ≤ a ∧ y.depth ≤ b
def Gds (ys : List PyData) (a b : Nat) : Prop := bds ys ∧ nds ys ≤ a ∧ PyData.depthAll ys ≤ b
theorem Gd.le {y : PyData} {a b c d : Nat} (h : Gd y a b) (h1 : a ≤ c) (h2 : b ≤ d) : Gd y c d := ⟨h.1, Nat.le_trans h.2.1 h1, Nat.le_trans h.2.2 h2⟩
theorem Gds.nil : Gds [] 0 0 := ⟨trivial, Nat.le_refl _, Nat.le_refl _⟩
theorem Gds.cons {y : PyData} {ys : List PyData} {a b c d : Nat} (h : Gd y a b) (k : Gds ys c d) : Gds (y :: ys) (a + c) (max b d) := ⟨⟨h.1, k.1⟩, Nat.add_le_add h.2.1 k.2.1, by
  have := h.2.2
  have := k.2.2
  simp only [PyData.depthAll]
  omega⟩
theorem Gd.cons_ {y : PyData} {ys : List PyData} {a b c d : Nat} (h : Gd y a b) (k : Gds ys c d) : Gds (y :: ys) (a + c) (max b d) := Gds.cons h k
theorem Gds.tup {ys : List PyData} {a b : Nat} (h : Gds ys a b) : Gd (.tuple ys) (a + 1) (b + 1) := ⟨h.1, Nat.add_le_add_right h.2.1 1, by
  have := h.2.2
  simp only [PyData.depth]
  omega⟩
theorem Gds.lst {ys : List PyData} {a b : Nat} (h : Gds ys a b) : Gd (.list ys) (a + 1) (b + 1) := ⟨h.1, Nat.add_le_add_right h.2.1 1, by
  have := h.2.2
  simp only [PyData.depth]
  omega⟩
theorem Gd.cons' {a b c d e : PyData} {A B C D E A' B' C' D' E' : Nat} (ha : Gd a A A') (hb : Gd b B B') (hc : Gd c C C') (hd : Gd d D D') (he : Gd e E E') : Gd (.tuple [a, b, c, d, e]) (A + (B + (C + (D + (E + 0)))) + 1) (max A' (max B' (max C' (max D' (max E' 0)))) + 1) := (ha.cons_ (hb.cons_ (hc.cons_ (hd.cons_ (he.cons_ Gds.nil))))).tup
theorem gd_none : Gd .none 1 0 := ⟨trivial, Nat.le_refl _, Nat.le_refl _⟩
theorem gd_bool (b : Bool) : Gd (.bool b) 1 0 := ⟨trivial, Nat.le_refl _, Nat.le_refl _⟩
theorem gd_int {i : Int} (h : i.natAbs ≤ 1000000000000000000000000000000) : Gd (.int i) 1 0 := ⟨by
  have h5 : (1000000000000000000000000000000 : Nat) < 10 ^ 50 := by decide
  show i.natAbs < 10 ^ 50
  omega, Nat.le_refl _, Nat.le_refl _⟩
theorem Gd.shw {y : PyData} {a b : Nat} (h : Gd y a b) (h1 : a ≤ 1000) (h2 : b ≤ 60) : Shw y := shw_of h.1 (Nat.le_trans h.2.1 h1) (Nat.le_trans h.2.2 h2)
theorem mu_endS {μ : Mu} {k : Nat} {p c : Option C} : (μ.set k p ++ [c])[μ.length]? = some c := by
  have := mu_end (μ := μ.set k p) (c := c)
  rwa [List.length_set] at this
theorem mu_setEndS {μ : Mu} {k : Nat} {p c c' : Option C} : (μ.set k p ++ [c]).set μ.length c' = μ.set k p ++ [c'] := by
  have := mu_setEnd (μ := μ.set k p) (c := c) (c' := c')
  rwa [List.length_set] at this
theorem mu_setK {μ ν : Mu} {k : Nat} {p p' c : Option C} (h : μ[k]? = some c) : (μ.set k p ++ ν).set k p' = μ.set k p' ++ ν := by rw [mu_setApp (mu_set h), mu_set2]
theorem fz_pot {μ : Mu} {k n : Nat} {p : Option C} {d : PyData} {R : W → Mu → Prop} (hp : PotOk n p) (q : R (.d d) (μ.set k p)) : Fz μ (.d d) (μ.set k p) R := ⟨_, [], d, by simp, by simp, Keeps.pot hp, .d d, q⟩
theorem fz_potC {μ cs : Mu} {k n : Nat} {p : Option C} {d : PyData} {R : W → Mu → Prop} (hp : PotOk n p) (q : R (.d d) (μ.set k p)) : Fz μ (.d d) (μ.set k p ++ cs) R := ⟨_, cs, d, rfl, by simp, Keeps.pot hp, .d d, q⟩
theorem fz_potI {μ : Mu} {k n : Nat} {p : Option C} {xs : List Int} {R : W → Mu → Prop} (hp : PotOk n p) (q : R (.d (dInts xs)) (μ.set k p)) : Fz μ (.m (μ.set k p).length) (μ.set k p ++ [some (.lst (wInts xs))]) R :=
  ⟨_, [some (.lst (wInts xs))], dInts xs, rfl, by simp, Keeps.pot hp, .m (by simp) mu_end (rns_ints xs), q⟩
theorem enum_d (vs : List PyData) : (vs.map W.d).mapIdx (fun i z => pairW (.d (.int (i : Nat))) z) = vs.zipIdx.map fun p => W.d (.tuple [.int (p.2 : Nat), p.1]) := by
  apply List.ext_getElem?
  intro i
  rw [List.getElem?_mapIdx, List.getElem?_map, List.getElem?_map, List.getElem?_zipIdx]
  cases vs[i]? with
  | none => rfl
  | some x => simp [pairW]
theorem fnG_none {P : Program} {w : World} {K : PySem.W.Frag} {mg : Str → Option Value} {base : Heap} {k : Nat} {f : Addr} {fd : FuncData} {ps : List Str} {F : FS} (h : ∀ ws μ R, ¬ F ws μ R) : FnG P w K mg base CX0 k f fd ps (spD K F) :=
  ⟨fun vs H Q E ⟨_, _, _, _, _, _, _, z, _⟩ => (h _ _ _ z).elim, fun A fr s H args us vs Q E _ _ _ _ _ ⟨_, _, _, _, _, _, _, z, _⟩ => (h _ _ _ z).elim⟩
theorem FnG.lv {P : Program} {w : World} {K : PySem.W.Frag} {mg : Str → Option Value} {base : Heap} {CX : CXT} {k k' : Nat} {f : Addr} {fd : FuncData} {ps : List Str} {sp : Sp} (F : FnG P w K mg base CX k f fd ps sp) (h : k = k') : FnG P w K mg base CX k' f fd ps sp := h ▸ F
end Pd

/-! Pd14: isinstance of a caught error that has a dict; more of texts. -/
namespace PySem.OwnErr
open PySem PySem.W PySem.Spec PySem.Calls PyProof.Rows
variable {prog : Program} {w : World} {A : Around} {E : Value → Shared → Prop} {s : Shared} {K : Frag} {x D : Addr} {ox : Obj} {od : Option Obj}
theorem found_data {C : Addr} {nm : Str} {u v : Value} (h0 : (clsIn K C).isSome = true) (h1 : findIn K (.ref C) nm = some (some u)) (h2 : specialIn K u "__get__" = some (some v)) (h3 : takesIn K u = some true) :
    findObj K C od nm = some (.bind v u) := by
  obtain ⟨c, hc⟩ := Option.isSome_iff_exists.mp h0
  unfold findObj
  rw [hc, Option.bind_some, h1, Option.bind_some]
  simp [h2, h3]
/-- the error's class, asked by its name -/
theorem cls_of_err {Q : Option Value → Shared → Prop} (T : L2.ExcC K D) (X : K.In s.heap) (I : InstAt s.heap x ox D od) (h : Q (some (.ref D)) { s with toks := s.toks + 1 }) : wpAny (model prog w) A (getAttr? (.ref x) "__class__") Q E s := by
  obtain ⟨cD, hcD, _⟩ := any_some T.hd
  have hf : findObj K D od "__class__" = some (.bind (.builtin "getset_descriptor.__get__") (.builtin "object.__class__")) := found_data (by rw [hcD]; rfl) T.ha T.hn T.ht
  obtain ⟨hp, g, dr, t, os⟩ := s
  have K0 := I.type (M := model prog w)
  have K1 := looks_findIn (M := model prog w) X T.hg
  have K2 := looks_findIn (M := model prog w) X T.hk
  have K3 := looks_find (M := model prog w) X I hf
  have isE : Looks (model prog w) hp (isInstance (.ref x) (.type "BaseException")) true := K0.andThen (looks_subIn X T.hs)
  have z0 : (false && onTheHeap (Value.builtin "BaseException.__getattribute__")) = false := rfl
  have z2 : (onTheHeap (Value.ref D) && Value.builtin "BaseException.__getattribute__" == Value.builtin "object.__getattribute__") = false := by
    have e : (Value.builtin "BaseException.__getattribute__" == Value.builtin "object.__getattribute__") = false := by decide +kernel
    rw [e]
    rfl
  unfold getAttr? getAttrBy? getAttrBy
  refine wpAny_bind (wpAny_mkText (wpAny_bind (wpAny_attempt (wpAny_holding (wpAny_bind (K0.at (wpAny_bind (K1.at ?_))))))))
  show wpAny _ _ (if (onTheHeap (Value.ref D) && Value.builtin "BaseException.__getattribute__" == Value.builtin "object.__getattribute__") = true
    then _ else _) _ _ _
  rw [z2, if_neg Bool.false_ne_true]
  unfold getAttrByItsOwn hookBefore
  refine wpAny_bind ?_
  have hz : onTheHeap (Value.ref D) = true := rfl
  rw [if_pos hz]
  refine K2.at (wpAny_bind (wpAny_attempt (wpAny_holding ?_)))
  unfold callGetattribute
  rw [z0, if_neg Bool.false_ne_true]
  unfold boundAndCalled
  rw [PySem.F.excAttr_ValueError.ga.bind (.ref x)]
  refine wpAny_bind (wpAny_pure ?_)
  show wpAny _ _ (call (.builtin "BaseException.__getattribute__")
    [.ref x, .str "__class__" t]) _ _ _
  refine wpAny_call (codeAny_call_builtin PySem.F.excAttr_ValueError.ga.plain PySem.F.entry_bexc_ga (@check_slot (model prog w) _ _ ⟨hp, g, dr, t + 1, os⟩ "BaseException.__getattribute__" "BaseException" "__getattribute__" (.ref x)
    [.str "__class__" t] [] _ (by decide +kernel) (by decide +kernel) isE (PySem.F.args_bexc_ga (.ref x) (.str "__class__" t)) ?_))
  unfold Builtin.«object.__getattribute__»
  refine wpAny_bind (wpAny_of_eq (a := ((Value.ref x : Value), [Value.str "__class__" t])) (by first
    | rfl
    | (simp only [slotArgs]; rfl)) ?_)
  refine wpAny_bind (wpAny_pure (wpAny_bind (K0.at (wpAny_bind (K3.at ?_)))))
  show wpAny _ _ (holding [Value.builtin "object.__class__"]
    (call (.builtin "getset_descriptor.__get__") [.builtin "object.__class__", .ref x, .ref D]) >>= ret) _ _ _
  refine wpAny_bind (wpAny_holding (wpAny_call (class_get (s := ⟨hp, g, dr, t + 1, os⟩) (ox := ox) (od := od) X I T.hm (wpAny_pure ?_))))
  show wpAny _ _ (handedOut (.ref D)) _ _ _
  rw [handedOut_of (v := .ref D) rfl]
  first
    | exact wpAny_pure (wpAny_pure h)
    | exact wpAny_pure h
    | exact wpAny_pure (wpAny_bind (wpAny_pure (wpAny_pure h)))
theorem kitx_err (T : L2.ExcC K D) : KitX K (.ref x) (.ref D) (fun h => InstAt h x ox D od) := by
  obtain ⟨cD, hcD, _⟩ := any_some T.hd
  obtain ⟨oc, oo, sl, ho⟩ : ∃ oc oo sl, K.lookup D = some ⟨oc, oo, .cls cD, sl⟩ := by
    unfold clsIn at hcD
    split at hcD
    · rename_i a b c d e
      cases hcD
      exact ⟨_, _, _, e⟩
    · cases hcD
  refine ⟨fun _ _ _ I => I.type, fun _ _ X _ A' Q' E' s' k q => ?_, fun h tp dd its n sl X htp => Bool.eq_false_iff.mpr fun q => ?_, fun X I k => cls_of_err T X I k⟩
  · unfold isType loadHead
    exact wpAny_bind (wpAny_loadPart (k _ _ (X _ _ ho)) (wpAny_pure q))
  · obtain rfl : D = tp := Value.ref.inj (beq_iff_eq.mp q)
    have z := (X _ _ ho).symm.trans htp
    cases z
end PySem.OwnErr
namespace L2
open PySem PySem.Spec PyProof.Rows PySem.Builtin PySem.Builtin.Str
open Pd (rLeI rGtI rGeI rMulU orR op_leU op_gtU op_geU op_mulU)
variable {X : Cx}
/-! ### texts -/
def rLeS : R2 := fun x y H Q => ∃ i j, x = .str i ∧ y = .str j ∧ Q (.bl (!decide (j.cps.toList < i.cps.toList))) H
def rGtS : R2 := fun x y H Q => ∃ i j, x = .str i ∧ y = .str j ∧ Q (.bl (decide (j.cps.toList < i.cps.toList))) H
def rGeS : R2 := fun x y H Q => ∃ i j, x = .str i ∧ y = .str j ∧ Q (.bl (!decide (i.cps.toList < j.cps.toList))) H
/-- a text some times -/
def repS (x : Str) (n : Nat) : Str := ⟨(List.replicate n x.cps.toList).flatten.toArray⟩
def rMulS : R2 := fun x y H Q => ∃ i n, x = .str i ∧ y = .int n ∧ 0 ≤ n ∧ n ≤ 1000 ∧ i.length ≤ 1000 ∧ Q (.str (repS i n.toNat)) H
theorem foldl_arr : ∀ (n : Nat) (x a : Array Nat), (List.replicate n x).foldl (· ++ ·) a = a ++ (List.replicate n x.toList).flatten.toArray
  | 0, x, a => by simp
  | n + 1, x, a => by
    rw [List.replicate_succ, List.foldl_cons, foldl_arr n x (a ++ x), List.replicate_succ, List.flatten_cons]
    apply Array.ext'
    simp
theorem op_mulS : OpR X (binaryOp .Mult) rMulS := by
  intro pins s σ H x y v u Q I rx ry h
  obtain ⟨i, n, rfl, rfl, n0, n1, hl, q⟩ := h
  obtain ⟨t, rfl⟩ := rx
  obtain ⟨t', rfl⟩ := ry
  have h1 : (decide (n < -(2 ^ 63 : Int)) || decide (n ≥ 2 ^ 63)) = false := by
    rw [decide_eq_false (by omega), decide_eq_false (by omega)]
    rfl
  have h2 : ¬ n < 1 → (n == 1 || i.length == 0) = false → ¬ ((i.length : Int) > (2 ^ 63 - 1) / n) := fun a _ z => by
    have : (1000 : Int) ≤ (2 ^ 63 - 1) / n := (Int.le_ediv_iff_mul_le (by omega)).mpr (by omega)
    omega
  have h3 : i.length * n.toNat ≤ 1000 * 1000 := Nat.mul_le_mul hl (by omega)
  have h4 : ¬ n < 1 → (n == 1 || i.length == 0) = false → tooLong (i.length * n.toNat) = false := fun _ _ => by
    unfold tooLong
    rw [sizeLine_eq]
    exact decide_eq_false (by omega)
  have ans : ∀ z : Str, z = repS i n.toNat → ∀ t k, EP X pins σ Q (.str z t) { s with toks := k } := fun z e t k => ⟨.str z, H, I.tok _, ⟨t, rfl⟩, by rw [e]; exact q⟩
  refine PySem.P.mul_str h1 h2 h4 ?_
  split
  · refine ⟨by decide, ans _ ?_ _ _⟩
    have : n.toNat = 0 := by omega
    rw [this]
    rfl
  · split
    · rename_i a b
      rw [Bool.or_eq_true] at b
      have := ans i ?_ t s.toks
      · exact this
      · rcases b with b | b
        · have : n = 1 := eq_of_beq b
          subst this
          show i = repS i 1
          unfold repS
          rw [List.replicate_succ, List.replicate_zero, List.flatten_cons, List.flatten_nil, List.append_nil]
        · have e : i.cps.toList = [] := List.length_eq_zero_iff.mp (eq_of_beq b)
          have e2 : i = ⟨i.cps.toList.toArray⟩ := rfl
          unfold repS
          rw [e2, e]
          simp
    · have e : (⟨(List.replicate n.toNat i.cps).foldl (· ++ ·) #[]⟩ : Str) = repS i n.toNat := by
        rw [foldl_arr]
        simp [repS]
      rw [e]
      refine ⟨?_, ans _ rfl _ _⟩
      show (repS i n.toNat).length ≤ _
      have l : (repS i n.toNat).length = n.toNat * i.length := by
        unfold repS
        show (List.replicate n.toNat i.cps.toList).flatten.toArray.size = _
        simp
        rfl
      rw [l, sizeLine_eq, Nat.mul_comm]
      omega
/-- a union of what compares numbers and texts -/
def rLeV : R2 := fun x y H Q => rLeI x y H Q ∨ rLeS x y H Q
def rGtV : R2 := fun x y H Q => rGtI x y H Q ∨ rGtS x y H Q
def rGeV : R2 := fun x y H Q => rGeI x y H Q ∨ rGeS x y H Q
def rMulV : R2 := fun x y H Q => rMulU x y H Q ∨ rMulS x y H Q
theorem op_leV : OpR X (compareOp .LtE) rLeV := orR op_leU op_le_str
theorem op_gtV : OpR X (compareOp .Gt) rGtV := orR op_gtU op_gt_str
theorem op_geV : OpR X (compareOp .GtE) rGeV := orR op_geU op_ge_str
theorem op_mulV : OpR X (binaryOp .Mult) rMulV := orR op_mulU op_mulS
def rSindex : V → List V → Hp → VK → Prop := fun x xs H Q => ∃ (a b : Str) (i : Nat) (rest : List Nat), x = .str a ∧ xs = [.str b] ∧ Builtin.Str.occurrences a b 0 a.length 1 = i :: rest ∧ Q (.int (i : Nat)) H
theorem mt_sindexU : MtR X "str.index" rSindex := mt_sindex
/-! ### isinstance(e, y) -/
def tIsE (K : PySem.W.Frag) (a : Addr) (cls : Value) (d : Option Addr) (y : Str) (te : TE) : TE := fun σ H Q => ∀ C0, Pd.clA K y C0 → te σ H fun x H1 => V.ref C0 = V.ref C0 ∧ x = .ref a ∧ ∃ C dd fs b, cls = .ref C ∧ d = some dd ∧ H1 dd = some (.xd fs) ∧ ExcC K C ∧
  PySem.W.kitOne K (.ref C) (.ref C0) = some b ∧ Q (.bl b) H1
theorem pe_isE {y : Str} {a : Addr} {oe : Obj} {cls : Value} {d : Option Addr} {pn : List (Addr × Obj)} {e : Expr} {te : TE} {p py pos : Pos} (hz : Zc cls d oe) (hf : ∃ vs, oe.data = .fields vs) (T : Pd.IsErr X.prog X.K X.mg y) (hm : X.mg "isinstance" = none) (he : PE (X.suite a ((a, oe) :: pn)) e te)
    (hg : Gl X "isinstance" := by rfl) (hgy : Gl X y := by rfl) (hdb : (y == ("__debug__" : Str)) = false := by decide)
    (hst : starEach [e, .Name y py] X.env = (false, eval e X.env) :: starEach [.Name y py] X.env := by rfl) (hst2 : starEach [.Name y py] X.env = (false, eval (.Name y py) X.env) :: starEach [] X.env := by rfl) (hpl : (backTo pos (starEach [.Name y py] X.env)).any (·.1) = false := by rfl) :
    PE (X.suite a ((a, oe) :: pn)) (.Call (.Name "isinstance" p) [e, .Name y py] [] pos) (tIsE X.K a cls d y te) := by
  obtain ⟨C0, hC0, E0⟩ := T
  have hgl : PE (X.suite a ((a, oe) :: pn)) (.Name y py) (tC (.ref C0)) := pe_glob (X := X.suite a ((a, oe) :: pn)) hgy E0.gC rfl hdb
  refine ⟨fun pins s σ H Q I h => ?_⟩
  refine wpAny_Call_Name_kw (ld_blt (X := X.suite a ((a, oe) :: pn)) I hg hm (show bootBuiltins "isinstance" = some (.builtin "isinstance") by decide +kernel) ?_ (by decide) (by decide))
  have ha : PA (X.suite a ((a, oe) :: pn)) [e, .Name y py] (tCons te (tCons (tC (.ref C0)) tNil)) := pa_cons he (pa_cons hgl pa_nil (hs := hst2)) (hs := hst)
  let Q' : List V → Hp → Prop := fun vs H1 => match vs with
    | [x, c] => c = V.ref C0 ∧ x = .ref a ∧ ∃ C dd fs b, cls = .ref C ∧ d = some dd ∧ H1 dd = some (.xd fs) ∧ ExcC X.K C ∧ PySem.W.kitOne X.K (.ref C) (.ref C0) = some b ∧ Q (.bl b) H1
    | _ => False
  exact PyProof.Rows.callWith_builtin1 (thn (ha.run pos pins s σ H Q' I (h C0 hC0)) fun us s1 ⟨vs, H1, I1, r1, q1⟩ => by
    match vs, q1, r1 with
    | [x, c], ⟨ec, ex, C, dd, fs, b, ecl, ed, hdd, TE, hk, q⟩, r1 =>
      subst ec ex ecl ed
      cases r1 with
      | cons rx rr =>
        cases rr with
        | cons ry rr =>
          cases rr
          cases rx
          cases ry
          obtain ⟨hget, _⟩ := I1.pin (a, oe) (List.mem_append.mpr (.inl List.mem_cons_self))
          obtain ⟨vs, hv⟩ := hf
          obtain ⟨mA, hns, hr⟩ : ObjOk X.prog X.w H1 s1.heap dd (.xd fs) := I1.hok dd _ hdd
          obtain ⟨ob, hob, _⟩ := lookIn_ns hns
          have J : PySem.W.InstAt s1.heap a oe C (some ob) := ⟨hget, hz.1, by unfold PySem.W.notCls; rw [hv] <;> rfl, by rw [hz.2]; exact hob⟩
          exact PySem.W.kia_one (PySem.OwnErr.kitx_err TE) I1.kIn J hk (fun z => nomatch z) fun tk => ⟨.bl b, H1, I1.kept (t' := tk) fun _ _ z => z, rfl, q⟩) hst hpl
end L2
namespace Pd
open PySem PySem.Spec L2
open Evl (Ex)
open PyProof.Rows
section
variable {K : PySem.W.Frag} {Γ : G} {μ : Mu} {R : W → Mu → Prop}
/-- isinstance asks the errors that the text calls x rightly -/
def ErrI (K : PySem.W.Frag) (x : Str) : Prop := ∀ C, clA K x C → ExcC K C
/-- an error that the text calls x is one of the class y -/
def IsOf (K : PySem.W.Frag) (x y : Str) (b : Bool) : Prop := ∀ a c, clA K x a → clA K y c → PySem.W.kitOne K (.ref a) (.ref c) = some b
theorem ax_isE {a C d : Addr} {x y : Str} {k i : Nat} {w : W} {b : Bool} (hx : ErrI K x) (hy : IsOf K x y b) (hC : clA K x C) (hi : Γ[i]? = some (some (.k (.ref a)))) (hk : μ[k]? = some (some (.xd d w))) (q : R (.d (.bool b)) μ) :
    AX K (tIsE K a (.ref C) (some d) y (tVar i)) Γ μ R := fun A M σ H c Q q0 C0 hC0 =>
  ax_var (R := fun u μ1 => u = .k (.ref a) ∧ μ1 = μ) hi ⟨rfl, rfl⟩ A M σ H c _ fun M1 H1 v u μ1 mo1 e1 r1 ⟨eu, em⟩ => by
    subst eu em
    cases r1
    have hl : k < M1.length := by
      rw [mo1.len]
      exact (List.getElem?_eq_some_iff.mp hk).1
    obtain ⟨o, ho, ep, v, rfl, rv⟩ := mo1.ct k _ (.xd d w) (List.getElem?_eq_getElem hl) hk
    rw [ep] at ho
    exact ⟨rfl, rfl, C, d, _, b, rfl, rfl, ho, hx C hC, hy C C0 hC hC0, q0 M1 H1 _ _ μ1 mo1 e1 (.d (.bl b)) q⟩
theorem ao_leS {x y : Str} (k : R (.d (.bool (!decide (y.cps.toList < x.cps.toList)))) μ) : AO K rLeS (.d (.str x)) (.d (.str y)) μ R := fun A M H v u mo rv ru Q h => by
  rw [vr_str rv, vr_str ru]
  exact ⟨x, y, rfl, rfl, h M H _ _ μ mo Eff.refl (.d (.bl _)) k⟩
theorem ao_gtS {x y : Str} (k : R (.d (.bool (decide (y.cps.toList < x.cps.toList)))) μ) : AO K rGtS (.d (.str x)) (.d (.str y)) μ R := fun A M H v u mo rv ru Q h => by
  rw [vr_str rv, vr_str ru]
  exact ⟨x, y, rfl, rfl, h M H _ _ μ mo Eff.refl (.d (.bl _)) k⟩
theorem ao_geS {x y : Str} (k : R (.d (.bool (!decide (x.cps.toList < y.cps.toList)))) μ) : AO K rGeS (.d (.str x)) (.d (.str y)) μ R := fun A M H v u mo rv ru Q h => by
  rw [vr_str rv, vr_str ru]
  exact ⟨x, y, rfl, rfl, h M H _ _ μ mo Eff.refl (.d (.bl _)) k⟩
theorem ao_ltS {x y : Str} (k : R (.d (.bool (decide (x.cps.toList < y.cps.toList)))) μ) : AO K rLtS (.d (.str x)) (.d (.str y)) μ R := fun A M H v u mo rv ru Q h => by
  rw [vr_str rv, vr_str ru]
  exact ⟨x, y, rfl, rfl, h M H _ _ μ mo Eff.refl (.d (.bl _)) k⟩
theorem o_ltS {x y : Str} (k : R (.d (.bool (decide (x.cps.toList < y.cps.toList)))) μ) : AO K rLtU (.d (.str x)) (.d (.str y)) μ R := ao_r (ao_ltS k)
theorem o_leS {x y : Str} (k : R (.d (.bool (!decide (y.cps.toList < x.cps.toList)))) μ) : AO K rLeV (.d (.str x)) (.d (.str y)) μ R := ao_r (ao_leS k)
theorem o_gtS {x y : Str} (k : R (.d (.bool (decide (y.cps.toList < x.cps.toList)))) μ) : AO K rGtV (.d (.str x)) (.d (.str y)) μ R := ao_r (ao_gtS k)
theorem o_geS {x y : Str} (k : R (.d (.bool (!decide (x.cps.toList < y.cps.toList)))) μ) : AO K rGeV (.d (.str x)) (.d (.str y)) μ R := ao_r (ao_geS k)
theorem o_leV {i j : Int} (k : R (.d (.bool (decide (i ≤ j)))) μ) : AO K rLeV (.d (.int i)) (.d (.int j)) μ R := ao_l (o_leI k)
theorem o_gtV {i j : Int} (k : R (.d (.bool (decide (j < i)))) μ) : AO K rGtV (.d (.int i)) (.d (.int j)) μ R := ao_l (o_gtI k)
theorem o_geV {i j : Int} (k : R (.d (.bool (decide (j ≤ i)))) μ) : AO K rGeV (.d (.int i)) (.d (.int j)) μ R := ao_l (o_geI k)
theorem ao_mulS {x : Str} {n : Int} (h0 : 0 ≤ n) (h1 : n ≤ 1000) (hl : x.length ≤ 1000) (k : R (.d (.str (repS x n.toNat))) μ) : AO K rMulS (.d (.str x)) (.d (.int n)) μ R := fun A M H v u mo rv ru Q h => by
  rw [vr_str rv, vr_int ru]
  exact ⟨x, n, rfl, rfl, h0, h1, hl, h M H _ _ μ mo Eff.refl (.d (.str _)) k⟩
theorem o_mulS {x : Str} {n : Int} (h0 : 0 ≤ n) (h1 : n ≤ 1000) (hl : x.length ≤ 1000) (k : R (.d (.str (repS x n.toNat))) μ) : AO K rMulV (.d (.str x)) (.d (.int n)) μ R := ao_r (ao_mulS h0 h1 hl k)
theorem o_mulV {i j : Int} (hc : CMul i j) (k : R (.d (.int (i * j))) μ) : AO K rMulV (.d (.int i)) (.d (.int j)) μ R := ao_l (o_mulI hc k)
theorem ao_inS {x y : Str} {neg : Bool} (k : R (.d (.bool (if neg then !(!(Builtin.Str.occurrences y x 0 y.length 1).isEmpty) else !(Builtin.Str.occurrences y x 0 y.length 1).isEmpty))) μ) : AO K (rInS neg) (.d (.str x)) (.d (.str y)) μ R := fun A M H v u mo rv ru Q h => by
  rw [vr_str rv, vr_str ru]
  exact ⟨x, y, rfl, rfl, h M H _ _ μ mo Eff.refl (.d (.bl _)) k⟩
theorem o_inS {x y : Str} {neg : Bool} (k : R (.d (.bool (if neg then !(!(Builtin.Str.occurrences y x 0 y.length 1).isEmpty) else !(Builtin.Str.occurrences y x 0 y.length 1).isEmpty))) μ) : AO K (rInU K neg) (.d (.str x)) (.d (.str y)) μ R := ao_r (ao_inS k)
theorem am_sindex {x y : Str} {i : Nat} {rest : List Nat} (h : Builtin.Str.occurrences x y 0 x.length 1 = i :: rest) (k : R (.d (.int i)) μ) : AM K rSindex (.d (.str x)) [.d (.str y)] μ R := fun A M H v vs mo rv rs Q q => by
  rw [vr_str rv]
  cases rs with
  | cons ry rn =>
    cases rn
    rw [vr_str ry]
    exact ⟨x, y, i, rest, rfl, rfl, h, q M H _ _ μ mo Eff.refl (.d (.int _)) k⟩
end
theorem kit_ref {K : PySem.W.Frag} {C D : Addr} {b : Bool} (h2 : PySem.W.hasDictIn K D = true) (h3 : PySem.W.typeIn K (.ref D) = some (.type "type")) (h4 : PySem.W.subIn K (.ref C) (.ref D) = some b) (hb : C = D → b = true) : PySem.W.kitOne K (.ref C) (.ref D) = some b := by
  obtain ⟨cd, hc, _⟩ := PySem.W.any_some h2
  unfold PySem.W.kitOne
  by_cases e : C = D
  · rw [if_pos (by rw [e]; exact beq_self_eq_true _), hb e]
  · rw [if_neg (by simpa using e)]
    have z : ((PySem.W.clsIn K D).isSome && PySem.W.typeIn K (.ref D) == some (.type "type")) = true := by rw [hc, h3] <;> rfl
    show (if ((PySem.W.clsIn K D).isSome && PySem.W.typeIn K (.ref D) == some (.type "type")) = true
      then PySem.W.subIn K (.ref C) (.ref D) else none) = some b
    rw [if_pos z]
    exact h4
end Pd

/-! Pd15: errors that outlive their clause. -/
namespace L2
open PySem PySem.Spec PyProof.Rows
theorem Inv.track {X : Cx} {pins : List (Addr × Obj)} {σ : St} {H : Hp} {s : Shared} {a C d : Addr} (I : Inv X pins σ H s) (ho : ∃ oe vs, s.heap.get? a = some oe ∧ oe.cls = .ref C ∧ oe.dict = some d ∧ oe.data = .fields vs) (na : H a = none) (nL : a ≠ X.env.locals) (nF : a ∉ X.fs)
    (noS : ∀ o, X.s_0.heap.get? a = some o → X.H_0 a = none → a ∉ X.ex → False) (noP : ∀ p ∈ X.pn ++ pins, p.1 ≠ a) : Inv X pins σ (upd H a (Pd.exk a C d)) s := by
  obtain ⟨ok, os, bare, base, loc, cell, free, freeC, pin, hok, len⟩ := I
  have old : ∀ {b : Addr} {u : HO}, H b = some u → upd H a (Pd.exk a C d) b = some u := fun {b u} q => by rw [upd_ne (ne_of_none q na)]; exact q
  have nC : ∀ x c, X.env.cells.lookup x = some c → c ≠ a := fun x c h e => by
    obtain ⟨v, hv⟩ := cell x c h
    obtain ⟨oe, vs, h1, _, _, h4⟩ := ho
    subst e
    obtain ⟨oc, hc1, hc2⟩ := hv
    rw [h1] at hc1
    cases hc1
    rw [h4] at hc2
    cases hc2
  refine ⟨ok, os, bare, ⟨base.keep, base.slot, fun b o h1 h2 h3 => ?_, base.there, fun b xs h => old (base.tups b xs h), fun b o u h => old (base.frzs b o u h), fun b ps h => ?_⟩, loc, cell, ?_, fun x c h => ?_, fun p hp => ?_, fun b u e => ?_, len⟩
  · by_cases e : b = a
    · subst e
      exact (noS o h1 h2 h3).elim
    · rw [upd_ne e]
      exact base.free b o h1 h2 h3
  · obtain ⟨more, e⟩ := base.tbls b ps h
    exact ⟨more, old e⟩
  · rw [upd_ne (Ne.symm nL)]
    exact free
  · rw [upd_ne (nC x c h)]
    exact freeC x c h
  · obtain ⟨q1, q2, q3⟩ := pin p hp
    exact ⟨q1, by rw [upd_ne (noP p hp)]; exact q2, q3⟩
  · by_cases hb : b = a
    · subst hb
      rw [upd_same] at e
      cases e
      refine ⟨ho, ?_, fun h1 h2 ⟨oe, vs, a1, a2, a3, a4⟩ k => ⟨oe, vs, k _ a1, a2, a3, a4⟩⟩
      obtain ⟨oe, _, h1, _⟩ := ho
      exact ⟨oe, h1⟩
    · rw [upd_ne hb] at e
      exact (hok b u e).stay (fun c v _ q => q) (fun c q => old q) fun c xs q => old q
def Cl.endsK (h : Cl) (a : Addr) (cls : Value) (d : Option Addr) (D : Ends) : Ends := match h.i with
  | none => D
  | some i => { nx := fun σ H => ∃ C dd, cls = .ref C ∧ d = some dd ∧ (H a = none → D.nx (σ.set i none) (upd H a (Pd.exk a C dd))), rt := D.rt, bk := fun σ H => D.bk (σ.set i none) H, ct := fun σ H => D.ct (σ.set i none) H }
/-- what the clauses wish of an error of the body; it is kept -/
def wClsK (K : PySem.W.Frag) (out : WX) (D : Ends) : List Cl → WX
  | [] => out
  | h :: r => fun cls d σ H => ∃ b, PySem.W.exmOne K cls h.c = some b ∧ (b = true → ∀ a, H a = none → h.ts a cls d (h.endsK a cls d D) (h.st a σ) H) ∧ (b = false → wClsK K out D r cls d σ H)
section
variable {X : Cx} {body : List Stmt} {h₀ : ExceptHandler} {hds : List ExceptHandler} {l : List Cl} {pos : Pos} {tb : WX → TS} {out : WX}
theorem ps_tryK (hs : X.stack = X.env :: X.outer) (hf : X.env.frame = some X.env.locals) (tk : Takes X out)
    (hb : ∀ (W : WX) (pn : List (Addr × Obj)) (xe : Value → Shared → Prop), Takes (X.tr pn xe) W → PassesOwn (model X.prog X.w) X.A X.env xe → PSs (X.tr pn xe) body (tb W))
    (hh : ClsOk X (h₀ :: hds) l) : PS X (.Try body (h₀ :: hds) [] [] pos) (fun D σ H => tb (wClsK X.K out D l) D σ H) := by
  refine ⟨fun pins s σ H D I h => ?_⟩
  have ok := I.ok
  have afr : X.A.frames = some (X.env :: X.outer) := ok.frames.trans (by rw [hs])
  refine wpAny_Try_except (wpAny_mono ((hb (wClsK X.K out D l) (X.pn ++ pins) (fun e s₁ => wpAny (model X.prog X.w) X.A (noteFrame e X.env)
    (fun _ s₂ => wpAny (model X.prog X.w) X.A (setFlight e none) (fun _ s₃ => wpAny (model X.prog X.w) X.A (handleBy e X.env (h₀ :: hds)) (SP X pins D) X.xe s₃) X.xe s₂) X.xe s₁) (fun u s' xx => ?_) PassesOwn.looking).run [] s σ H D (I.toTry _) h)
    (fun f s1 hsp => ?_) (fun e s1 he => he))
  · obtain ⟨a, B, sI, pins', σ', H', cls, d, rfl, J', nb, up, sky, na, os, ag, w⟩ := xx
    have J : Inv X pins σ' H' sI := J'.ofTry ok
    rw [show (X.tr (X.pn ++ pins) _).stack = X.env :: X.outer from hs] at sky
    refine (Sky.land Zc.steady afr hf sky fun h3 fl3 up3 => ?_ : wpAny (model X.prog X.w) X.A (noteFrame (.ref a) X.env) _ _ _)
    have J3 : Inv X pins σ' H' { s' with heap := h3 } := J.landed nb fl3.1 (up.trans up3) os ag
    obtain ⟨oe3, vs3, he3, hz3, hd3⟩ := fl3.there
    have nfr : a ∉ frs (X.env :: X.outer) := fun hm => by
      obtain ⟨_, o', e', hnf⟩ := fl3.2.2.1.mem hm
      rw [he3] at e'
      cases e'
      exact hnf _ hd3
    have nL : a ≠ X.env.locals := fun z => nfr (List.mem_filterMap.mpr ⟨X.env, .head _, by rw [hf, z]⟩)
    have nF : a ∉ X.fs := fun hm => by
      obtain ⟨e, he, q⟩ := List.mem_filterMap.mp hm
      exact nfr (List.mem_filterMap.mpr ⟨e, .tail _ he, q⟩)
    have S3 := J3.suite he3 hd3 na nL nF
    have hBa : B.get? a = none := fl3.2.1
    have hIa : sI.heap.get? a = none := by
      cases z : sI.heap.get? a with
      | none => rfl
      | some o =>
        have nfr' : a ∉ frs X.stack := by rw [hs]; exact nfr
        have z2 := nb a o z nfr'
        rw [hBa] at z2
        cases z2
    have noP : ∀ p ∈ X.pn ++ pins, p.1 ≠ a := fun p hp e => by
      have z := (J.pin p hp).1
      rw [e, hIa] at z
      cases z
    have noS : ∀ o, X.s_0.heap.get? a = some o → X.H_0 a = none → a ∉ X.ex → False := fun o h1 h2 h3 => by
      have z := J.base.keep a o h1 h2 nF h3
      rw [hIa] at z
      cases z
    have tyE : PySem.W.Looks (model X.prog X.w) h3 (typeOf (.ref a)) cls := fun A Q E s k q => wpAny_typeOf_ref (k _ _ he3) (by rw [hz3.1]; exact q)
    have asked : ∀ {x : Str} {np : Pos} {c : Value} {Q : Value → Shared → Prop} {E : Value → Shared → Prop}, Names X x c → Q c { s' with heap := h3 } → wpAny (model X.prog X.w) (X.A.mark (some (.ref a))) (eval (.Name x np) X.env) Q E { s' with heap := h3 } := by
      intro x np c Q E hc q
      obtain ⟨hg, hdbg, hm | ⟨hm, hv, hnn⟩⟩ := hc
      · exact ld_glob (X := X.suite a ((a, oe3) :: (X.pn ++ pins))) S3 hg hm q hdbg
      · exact ld_blt (X := X.suite a ((a, oe3) :: (X.pn ++ pins))) S3 hg hm hv q hnn hdbg
    have land4 : ∀ h4, HandSPX.FlyingZ B (X.env :: X.outer) a (Zc cls d) h4 → Heap.UpToSlots h3 h4 → ∃ oe4, (∃ vs, oe4.data = .fields vs) ∧ Zc cls d oe4 ∧ Inv (X.suite a ((a, oe4) :: (X.pn ++ pins))) [] σ' H' { s' with heap := h4 } := fun h4 fl4 up4 => by
      obtain ⟨oe4, vs4, he4, hz4, hd4⟩ := fl4.there
      exact ⟨oe4, ⟨_, hd4⟩, hz4, (J.landed nb fl4.1 ((up.trans up3).trans up4) os ag : Inv X pins σ' H' { s' with heap := h4 }).suite he4 hd4 na nL nF⟩
    have go : ∀ {hds' : List ExceptHandler} {l' : List Cl}, ClsOk X hds' l' → wClsK X.K out D l' cls d σ' H' → wpAny (model X.prog X.w) X.A (handleBy (.ref a) X.env hds') (SP X pins D) X.xe { s' with heap := h3 } := by
      intro hds' l' hk
      induction hk with
      | nil =>
        intro w
        refine wpAny_handleBy_nil ?_
        obtain ⟨_, _, _, oe, vs, T, _, _, he, _, hd, h1, _⟩ := id fl3
        have thrown : wpAny (model X.prog X.w) X.A (setFlight (.ref a) X.env.frame) (fun _ s4 => wpAny (model X.prog X.w) X.A (throw (.ref a) : Sem Flow) (SP X pins D) X.xe s4) X.xe { s' with heap := h3 } := by
          rw [hf]
          exact HandSPX.setFlight_upZ fl3 fun h4 hh4 up4 => wpAny_throw (tk _ _ ⟨a, B, sI, pins, σ', H', cls, d, rfl, J, nb, (up.trans up3).trans up4, .inr (.inr (by rw [hs]; exact hh4)), na, os, ag, w⟩)
        unfold PySem.passOn
        refine wpAny_bind (wpAny_field he hd h1 ?_)
        rw [if_neg (show ¬ ((Value.ref T == Value.none) = true) by simp)]
        first
          | exact wpAny_bind (wpAny_pure (wpAny_bind thrown))
          | exact wpAny_bind thrown
      | @anon x c ts b₀ suite np pos' hds2 l2 hc hsu r ih =>
        intro ⟨b, hb1, hyes, hno⟩
        refine wpAny_handleBy_cons (codeAny_handlers_test (asked hc ((PySem.W.exm_one (M := model X.prog X.w) J3.kIn tyE hb1).here ?_))) (by intro q; cases q)
        cases b with
        | false => exact (ih (hno rfl) : wpAny _ X.A (handleBy (.ref a) X.env hds2) _ _ _)
        | true =>
          refine codeAny_handlers_suite (HandSPX.lands_againZ fl3 fun h4 fl4 up4 => ?_)
          obtain ⟨oe4, hd4, hz4, S4⟩ := land4 h4 fl4 up4
          refine wpAny_mono ((hsu a oe4 cls d (X.pn ++ pins) hz4 hd4).run [] _ _ H' _ S4 (hyes rfl a na)) (fun f s6 hsp => ?_) (fun _ _ z => z.elim)
          match f, hsp with
          | .next, ⟨_, _, S6, q6⟩ => exact ⟨_, _, S6.unsuite ok, q6⟩
          | .brk, ⟨_, _, S6, q6⟩ => exact ⟨_, _, S6.unsuite ok, q6⟩
          | .cont, ⟨_, _, S6, q6⟩ => exact ⟨_, _, S6.unsuite ok, q6⟩
          | .ret u, ⟨_, _, _, S6, r6, q6⟩ => exact ⟨_, _, _, S6.unsuite ok, r6, q6⟩
      | @named x n i c ts b₀ suite np pos' hds2 l2 hc hN hi hln hsu r ih =>
        intro ⟨b, hb1, hyes, hno⟩
        refine wpAny_handleBy_cons (codeAny_handlers_test (asked hc ((PySem.W.exm_one (M := model X.prog X.w) J3.kIn tyE hb1).here ?_))) (by intro q; cases q)
        cases b with
        | false => exact (ih (hno rfl) : wpAny _ X.A (handleBy (.ref a) X.env hds2) _ _ _)
        | true =>
          refine codeAny_handlers_suite_as (HandSPX.lands_againZ fl3 fun h4 fl4 up4 => ?_)
          obtain ⟨oe4, hd4, hz4, S4⟩ := land4 h4 fl4 up4
          refine store_ok (X := X.suite a ((a, oe4) :: (X.pn ++ pins))) (v := .ref a) S4 hN hi (.inl hln) rfl (fun s5 S5 => ?_) (.inr hln)
          refine wpAny_mono ((hsu a oe4 cls d (X.pn ++ pins) hz4 hd4).run [] s5 _ H' _ S5 (hyes rfl a na)) (fun f s6 hsp => ?_) (fun _ _ z => z.elim)
          have goes : ∀ {σ6 : St} {H6 : Hp} {Q : Shared → Prop}, Inv (X.suite a ((a, oe4) :: (X.pn ++ pins))) [] σ6 H6 s6 → (∀ s7, Inv X pins (σ6.set i none) H6 s7 → Q s7) →
              wpAny (model X.prog X.w) X.A (do bindName X.env n .none; unbindBehindTheSuite X.env n pos') (fun _ s7 => Q s7) X.xe s6 := fun {σ6 H6 Q} S6 hq => gone_ok (S6.unsuite ok) hN hi hln hq
          have goesK : ∀ {σ6 : St} {H6 : Hp} {Q : Shared → Prop}, Inv (X.suite a ((a, oe4) :: (X.pn ++ pins))) [] σ6 H6 s6 → (H6 a = none → ∀ C dd, cls = .ref C → d = some dd → ∀ s7, Inv X pins (σ6.set i none) (upd H6 a (Pd.exk a C dd)) s7 → Q s7) → (∀ C dd, cls = .ref C → d = some dd → True) → (∃ C dd, cls = .ref C ∧ d = some dd) →
              wpAny (model X.prog X.w) X.A (do bindName X.env n .none; unbindBehindTheSuite X.env n pos') (fun _ s7 => Q s7) X.xe s6 := fun {σ6 H6 Q} S6 hq _ ⟨C, dd, ec, ed⟩ =>
            gone_ok (X := X.suite a ((a, oe4) :: (X.pn ++ pins))) (pins := []) S6 hN hi hln fun s7 S7 => by
              obtain ⟨g1, g2, g3, g4, g5⟩ := S7.pin (a, oe4) (List.mem_append_left _ (.head _))
              obtain ⟨ve, hve⟩ := hd4
              exact hq g2 C dd ec ed s7 ((S7.unsuite ok).track ⟨oe4, ve, g1, hz4.1.trans ec, hz4.2.trans ed, hve⟩ g2 g3 g4 noS noP)
          match f, hsp with
          | .next, ⟨σ6, H6, S6, C, dd, ec, ed, q6⟩ => exact goesK S6 (fun hn C' dd' ec' ed' s7 J7 => ⟨_, _, J7, by have z1 := ec.symm.trans ec'; have z2 := ed.symm.trans ed'; cases z1; cases z2; exact q6 hn⟩) (fun _ _ _ _ => trivial) ⟨C, dd, ec, ed⟩
          | .brk, ⟨_, _, S6, q6⟩ => exact goes S6 fun s7 J7 => ⟨_, _, J7, q6⟩
          | .cont, ⟨_, _, S6, q6⟩ => exact goes S6 fun s7 J7 => ⟨_, _, J7, q6⟩
          | .ret u, ⟨_, _, _, S6, r6, q6⟩ => exact goes S6 fun s7 J7 => ⟨_, _, _, J7, r6, q6⟩
    exact go hh w
  · match f, hsp with
    | .next, ⟨σ', H', J', q⟩ => exact wpAny_execs_nil ⟨σ', H', J'.ofTry ok, q⟩
    | .brk, ⟨σ', H', J', q⟩ => exact ⟨σ', H', J'.ofTry ok, q⟩
    | .cont, ⟨σ', H', J', q⟩ => exact ⟨σ', H', J'.ofTry ok, q⟩
    | .ret u, ⟨v, σ', H', J', r, q⟩ => exact ⟨v, σ', H', J'.ofTry ok, r, q⟩
end
end L2
namespace L2
open PySem PySem.Spec PyProof.Rows
variable {X : Cx}
theorem exk_at {P : Program} {w : World} {H : Hp} {h : Heap} {a C d : Addr} (hok : HOk P w H h) (e : H a = some (Pd.exk a C d)) : ∃ oe vs, h.get? a = some oe ∧ oe.cls = .ref C ∧ oe.dict = some d ∧ oe.data = .fields vs := by
  obtain ⟨q, _⟩ : ObjOk P w H h a (Pd.exk a C d) := hok a _ e
  exact q
/-- x.value, x an error that was kept -/
def tXvK (K : PySem.W.Frag) (te : TE) : TE := fun σ H Q => te σ H fun x H1 => ∃ a C dd v, x = .ref a ∧ H1 a = some (Pd.exk a C dd) ∧ XfC K C ∧ PySem.W.findIn K (.ref C) "value" = some none ∧ H1 dd = some (.xd [(("value" : PySem.Str), v)]) ∧ Q v H1
theorem pe_xvK {e : Expr} {te : TE} {pos : Pos} (he : PE X e te) (hb : attributeBase e "value" X.env (eval e X.env) = eval e X.env := by rfl) : PE X (.Attribute e "value" pos) (tXvK X.K te) := by
  refine ⟨fun pins s σ H Q I h => attr_of hb (thn (he.run pins s σ H _ I h) fun u s1 ⟨x, H1, I1, rx, a, C, dd, v, ex, ea0, T, hno, ea, q⟩ => ?_)⟩
  subst ex
  obtain rfl : u = Value.ref a := rx
  obtain ⟨oe, vs, h1, h2, h3, h4⟩ := exk_at I1.hok ea0
  obtain ⟨mA, hns, hr⟩ : ObjOk X.prog X.w H1 s1.heap dd (.xd [(("value" : PySem.Str), v)]) := I1.hok dd _ ea
  obtain ⟨od, ho, hl⟩ := lookIn_ns hns
  obtain ⟨u, hu, ru⟩ := RelO.some_of (v := v) (o := mA "value") (by have z := hr "value"; simpa [List.lookup] using z)
  have J : PySem.W.InstAt s1.heap a oe C (some od) := ⟨h1, h2, by unfold PySem.W.notCls; rw [h4] <;> rfl, by rw [h3]; exact ho⟩
  exact HandSPX.exc_get I1.kIn J T.ga T.gg T.exC (PySem.W.findObj_own T.hdC hno rfl (by rw [hl, hu])) (handed_of ru) ⟨v, H1, I1.tok _, ru, q⟩
/-- isinstance(x, y), x an error that was kept -/
def tIsK (K : PySem.W.Frag) (y : Str) (te : TE) : TE := fun σ H Q => ∀ C0, Pd.clA K y C0 → te σ H fun x H1 => V.ref C0 = V.ref C0 ∧ ∃ a C dd fs b, x = .ref a ∧ H1 a = some (Pd.exk a C dd) ∧ H1 dd = some (.xd fs) ∧ ExcC K C ∧ PySem.W.kitOne K (.ref C) (.ref C0) = some b ∧ Q (.bl b) H1
theorem pe_isK {y : Str} {e : Expr} {te : TE} {p py pos : Pos} (T : Pd.IsErr X.prog X.K X.mg y) (hm : X.mg "isinstance" = none) (he : PE X e te)
    (hg : Gl X "isinstance" := by rfl) (hgy : Gl X y := by rfl) (hdb : (y == ("__debug__" : Str)) = false := by decide)
    (hst : starEach [e, .Name y py] X.env = (false, eval e X.env) :: starEach [.Name y py] X.env := by rfl) (hst2 : starEach [.Name y py] X.env = (false, eval (.Name y py) X.env) :: starEach [] X.env := by rfl) (hpl : (backTo pos (starEach [.Name y py] X.env)).any (·.1) = false := by rfl) :
    PE X (.Call (.Name "isinstance" p) [e, .Name y py] [] pos) (tIsK X.K y te) := by
  obtain ⟨C0, hC0, E0⟩ := T
  have hgl : PE X (.Name y py) (tC (.ref C0)) := pe_glob hgy E0.gC rfl hdb
  refine ⟨fun pins s σ H Q I h => ?_⟩
  refine wpAny_Call_Name_kw (ld_blt I hg hm (show bootBuiltins "isinstance" = some (.builtin "isinstance") by decide +kernel) ?_ (by decide) (by decide))
  have ha : PA X [e, .Name y py] (tCons te (tCons (tC (.ref C0)) tNil)) := pa_cons he (pa_cons hgl pa_nil (hs := hst2)) (hs := hst)
  let Q' : List V → Hp → Prop := fun vs H1 => match vs with
    | [x, c] => c = V.ref C0 ∧ ∃ a C dd fs b, x = .ref a ∧ H1 a = some (Pd.exk a C dd) ∧ H1 dd = some (.xd fs) ∧ ExcC X.K C ∧ PySem.W.kitOne X.K (.ref C) (.ref C0) = some b ∧ Q (.bl b) H1
    | _ => False
  exact PyProof.Rows.callWith_builtin1 (thn (ha.run pos pins s σ H Q' I (h C0 hC0)) fun us s1 ⟨vs, H1, I1, r1, q1⟩ => by
    match vs, q1, r1 with
    | [x, c], ⟨ec, a, C, dd, fs, b, ex, ea0, hdd, TE, hk, q⟩, r1 =>
      subst ec ex
      cases r1 with
      | cons rx rr =>
        cases rr with
        | cons ry rr =>
          cases rr
          cases rx
          cases ry
          obtain ⟨oe, vs, h1, h2, h3, h4⟩ := exk_at I1.hok ea0
          obtain ⟨mA, hns, hr⟩ : ObjOk X.prog X.w H1 s1.heap dd (.xd fs) := I1.hok dd _ hdd
          obtain ⟨ob, hob, _⟩ := lookIn_ns hns
          have J : PySem.W.InstAt s1.heap a oe C (some ob) := ⟨h1, h2, by unfold PySem.W.notCls; rw [h4] <;> rfl, by rw [h3]; exact hob⟩
          exact PySem.W.kia_one (PySem.OwnErr.kitx_err TE) I1.kIn J hk (fun z => nomatch z) fun tk => ⟨.bl b, H1, I1.kept (t' := tk) fun _ _ z => z, rfl, q⟩) hst hpl
end L2
namespace L2
open PySem PySem.Spec PyProof.Rows
def rRstrip : V → List V → Hp → VK → Prop := fun x xs H Q => ∃ a b, x = .str a ∧ xs = [.str b] ∧ a.length ≤ sizeLine ∧ Q (.str (Txt.rstripChars a b)) H
theorem mt_rstripU {X : Cx} : MtR X "str.rstrip" rRstrip := mt_rstripChars
end L2
namespace Pd
open PySem PySem.Spec L2
open Evl (Ex)
open PyProof.Rows
theorem am_rstrip {K : PySem.W.Frag} {μ : Mu} {R : W → Mu → Prop} {x y : Str} (h : x.length ≤ sizeLine) (k : R (.d (.str (Txt.rstripChars x y))) μ) : AM K rRstrip (.d (.str x)) [.d (.str y)] μ R := fun A M H v vs mo rv rs Q q => by
  rw [vr_str rv]
  cases rs with
  | cons ry rn =>
    cases rn
    rw [vr_str ry]
    exact ⟨x, y, rfl, rfl, h, q M H _ _ μ mo Eff.refl (.d (.str _)) k⟩
def tTryK (K : PySem.W.Frag) (hs : List Hn) (tb : L2.WX → TS) (out : L2.WX) : TS := fun D σ H => ∀ l, CsOk K hs l → tb (wClsK K out D l) D σ H
theorem ps_tryNK {X : Cx} {body : List Stmt} {h₀ : ExceptHandler} {hds : List ExceptHandler} {hs : List Hn} {pos : Pos} {tb : WX → TS} {out : WX} (tk : Takes X out)
    (hb : ∀ (xw : WX) (pn : List (Addr × Obj)) (xe : Value → Shared → Prop), Takes (X.tr pn xe) xw → PassesOwn (model X.prog X.w) X.A X.env xe → PSs (X.tr pn xe) body (tb xw))
    (hh : HsOk X (h₀ :: hds) hs) (hst : X.stack = X.env :: X.outer := by rfl) (hf : X.env.frame = some X.env.locals := by rfl) : PS X (.Try body (h₀ :: hds) [] [] pos) (tTryK X.K hs tb out) := by
  obtain ⟨l, h1, h2⟩ := hh
  exact ⟨fun pins s σ H D I h => (ps_tryK hst hf tk hb h1).run pins s σ H D I (h l h2)⟩
section
variable {K : PySem.W.Frag}
/-- the end of a suite whose error is kept in the slot j -/
def keepE (i j : Nat) (a d : Addr) (x : Str) (D : AEn) : AEn := { D with nx := fun g m => g[j]? = some (some (.k (.ref a))) ∧ i ≠ j ∧ D.nx ((g.set i none).set j (some (.m m.length))) (m ++ [some (.er x d)]), bk := fun _ _ => False, ct := fun _ _ => False }
/-- clauses, each with a name, whose error goes to the slot j -/
def hXk (K : PySem.W.Frag) (j : Nat) (D : AEn) : List Hn → Str → W → G → Mu → Prop
  | [] => D.xc
  | h :: r => fun x w Γ μ => ∃ b, SubIs K x h.x b ∧ (b = true → ∃ i, h.i = some i ∧ ∀ a C d, clA K x C → AS K (h.ts a (.ref C) (some d)) (keepE i j a d x D) (h.sl a Γ) (μ ++ [some (.xd d w)])) ∧ (b = false → hXk K j D r x w Γ μ)
theorem gr_reset {H : Hp} {M : List Addr} {σ : L2.St} {Γ : G} {j : Nat} {a : Addr} {k : Nat} (h : GR K H M σ Γ) (hj : Γ[j]? = some (some (.k (.ref a)))) (hk : M[k]? = some a) : GR K H M σ (Γ.set j (some (.m k))) := by
  refine ⟨by rw [List.length_set]; exact h.1, fun i w hw => ?_⟩
  rw [List.getElem?_set] at hw
  by_cases e : j = i
  · subst e
    rw [if_pos rfl] at hw
    split at hw
    · have ew : W.m k = w := by simpa using hw
      subst ew
      obtain ⟨v, h1, h2⟩ := h.2 j _ hj
      cases h2
      exact ⟨_, h1, .m hk⟩
    · cases hw
  · rw [if_neg e] at hw
    exact h.2 i w hw
theorem as_tryK {Γ : G} {μ : Mu} {D : AEn} {hs : List Hn} {tb : L2.WX → TS} (j : Nat) (h : ∀ xw : L2.WX, AS K (tb xw) { D with xw := xw, xc := hXk K j D hs } Γ μ) : AS K (tTryK K hs tb D.xw) D Γ μ := fun A M σ H cn E hE l hl => by
  refine h (wClsK K D.xw E l) A M σ H cn E ⟨hE.nx, hE.rt, hE.bk, hE.ct, fun M' σ' H' Γ' x a d w μ' hc c' e' hx => ?_⟩
  show wClsK K D.xw E l (.ref a) (some d) σ' H'
  have hx' : hXk K j D hs x w Γ' μ' := hx
  clear hx h
  induction hs generalizing l with
  | nil =>
    cases l with
    | nil => exact hE.xx M' σ' H' Γ' x a d w μ' hc c' e' hx'
    | cons _ _ => exact hl.elim
  | cons h r ih =>
    cases l with
    | nil => exact hl.elim
    | cons c s =>
      obtain ⟨⟨h1, h2, h3⟩, hr⟩ := hl
      obtain ⟨b, hb, hy, hn⟩ := hx'
      refine ⟨b, hb a c.c hc h1, fun e a0 _ => ?_, fun e => ih s hr (hn e)⟩
      obtain ⟨i0, hi0, q⟩ := hy e
      have q := q a0 a d hc
      obtain ⟨cc, ci, cts⟩ := c
      obtain ⟨hx0, hi, hts⟩ := h
      dsimp only at h2 h3 hi0
      subst h2 h3
      subst hi0
      have hd' : Hd K A (M' ++ [d]) (μ' ++ [some (.xd d w)]) H' D E := hE.after e'
      refine q A _ _ H' ⟨c'.mo, c'.gr.set (.k _)⟩ _ ⟨fun M4 σ4 H4 Γ4 μ4 c4 e4 ⟨hj, hij, h4⟩ => ?_, hd'.rt, fun M4 σ4 H4 Γ4 μ4 c4 e4 h4 => h4.elim, fun M4 σ4 H4 Γ4 μ4 c4 e4 h4 => h4.elim, hd'.xx⟩
      refine ⟨a, d, rfl, rfl, fun hn0 => ?_⟩
      have mo2 : MOk K A (M4 ++ [a0]) (upd H4 a0 (exk a0 a d)) (μ4 ++ [some (.er x d)]) := c4.mo.new (c := .er x d) hn0 ⟨a, hc, rfl⟩
      have e5 : Eff A M4 μ4 H4 (M4 ++ [a0]) (μ4 ++ [some (.er x d)]) (upd H4 a0 (exk a0 a d)) := Eff.new c4.mo hn0
      have g5 : GR K (vw A (M4 ++ [a0]) (μ4 ++ [some (.er x d)]) (upd H4 a0 (exk a0 a d))) (M4 ++ [a0]) (σ4.set i0 none) (Γ4.set i0 none) := (c4.gr.drop).mono e5.ex e5.pre
      refine hd'.nx (M4 ++ [a0]) _ _ _ (μ4 ++ [some (.er x d)]) ⟨mo2, gr_reset (a := a0) g5 ?_ ?_⟩ (e4.trans e5) h4
      · rw [List.getElem?_set, if_neg hij]
        exact hj
      · rw [← c4.mo.len, List.getElem?_append_right (Nat.le_refl _)]
        simp
variable {Γ : G} {μ : Mu} {R : W → Mu → Prop}
theorem hXk_yes {D : AEn} {x y : Str} {w : W} {i j : Nat} {ts : Addr → Value → Option Addr → TS} {r : List Hn} (h : SubIs K x y true) (q : ∀ a C d, clA K x C → AS K (ts a (.ref C) (some d)) (keepE i j a d x D) (Γ.set i (some (.k (.ref a)))) (μ ++ [some (.xd d w)])) : hXk K j D (⟨y, some i, ts⟩ :: r) x w Γ μ :=
  ⟨true, h, fun _ => ⟨i, rfl, fun a C d hc => q a C d hc⟩, fun z => by cases z⟩
theorem hXk_no {D : AEn} {x y : Str} {w : W} {j : Nat} {i : Option Nat} {ts : Addr → Value → Option Addr → TS} {r : List Hn} (h : SubIs K x y false) (q : hXk K j D r x w Γ μ) : hXk K j D (⟨y, i, ts⟩ :: r) x w Γ μ := ⟨false, h, fun z => absurd z (by decide), fun _ => q⟩
theorem er_get {A : Addr → Prop} {M : List Addr} {H : Hp} {v : V} {k k2 : Nat} {x : Str} {d : Addr} {w : W} (mo : MOk K A M H μ) (rv : VR K (vw A M μ H) M v (.m k)) (hk : μ[k]? = some (some (.er x d))) (hk2 : μ[k2]? = some (some (.xd d w))) :
    ∃ a C u, v = .ref a ∧ clA K x C ∧ H a = some (exk a C d) ∧ H d = some (.xd [(("value" : Str), u)]) ∧ VR K (vw A M μ H) M u w := by
  cases rv with
  | m hm =>
    obtain ⟨o, e, C, hC, rfl⟩ := mo.ct _ _ _ hm hk
    have hl : k2 < M.length := by
      rw [mo.len]
      exact (List.getElem?_eq_some_iff.mp hk2).1
    obtain ⟨o2, ho, ep, u, rfl, ru⟩ := mo.ct k2 _ (.xd d w) (List.getElem?_eq_getElem hl) hk2
    rw [ep] at ho
    exact ⟨_, C, u, rfl, hC, e, ho, ru⟩
theorem ax_xvK {i k k2 : Nat} {x : Str} {d : Addr} {w : W} (hx : ErrV K x) (hi : Γ[i]? = some (some (.m k))) (hk : μ[k]? = some (some (.er x d))) (hk2 : μ[k2]? = some (some (.xd d w))) (q : R w μ) : AX K (tXvK K (tVar i)) Γ μ R := fun A M σ H c Q q0 =>
  ax_var (R := fun u μ1 => u = .m k ∧ μ1 = μ) hi ⟨rfl, rfl⟩ A M σ H c _ fun M1 H1 v u μ1 mo1 e1 r1 ⟨eu, em⟩ => by
    subst eu em
    obtain ⟨a, C, u, rfl, hC, h1, h2, ru⟩ := er_get mo1 r1 hk hk2
    exact ⟨a, C, d, u, rfl, h1, (hx C hC).1, (hx C hC).2, h2, q0 M1 H1 _ w μ1 mo1 e1 ru q⟩
theorem ax_isK {i k k2 : Nat} {x y : Str} {d : Addr} {w : W} {b : Bool} (hx : ErrI K x) (hy : IsOf K x y b) (hi : Γ[i]? = some (some (.m k))) (hk : μ[k]? = some (some (.er x d))) (hk2 : μ[k2]? = some (some (.xd d w))) (q : R (.d (.bool b)) μ) : AX K (tIsK K y (tVar i)) Γ μ R := fun A M σ H c Q q0 C0 hC0 =>
  ax_var (R := fun u μ1 => u = .m k ∧ μ1 = μ) hi ⟨rfl, rfl⟩ A M σ H c _ fun M1 H1 v u μ1 mo1 e1 r1 ⟨eu, em⟩ => by
    subst eu em
    obtain ⟨a, C, u, rfl, hC, h1, h2, ru⟩ := er_get mo1 r1 hk hk2
    exact ⟨rfl, a, C, d, _, b, rfl, h1, h2, hx C hC, hy C C0 hC hC0, q0 M1 H1 _ _ μ1 mo1 e1 (.d (.bl b)) q⟩
end
end Pd

/-! Pd16: dicts as cells; sorted lists of ints. -/
namespace L2
open PySem PySem.Spec PyProof.Rows
def rDGet : V → V → Hp → VK → Prop := fun x y H Q => ∃ a v, x = .ref a ∧ DGet H a y (some v) ∧ Q v H
def rDIn : V → V → Hp → VK → Prop := fun y x H Q => ∃ a o, x = .ref a ∧ DGet H a y o ∧ Q (.bl o.isSome) H
def rDNotIn : V → V → Hp → VK → Prop := fun y x H Q => ∃ a o, x = .ref a ∧ DGet H a y o ∧ Q (.bl (!o.isSome)) H
section
variable {X : Cx} {o i e value : Expr} {pos pos' tpos : Pos} {td ty tv : TE}
theorem pe_dgetO (hu : X.A.units + 1 < cLine) (ho : PE X o td) (hi : PE X i ty) (hs : NoSl i) : PE X (.Subscript o i pos) (tOp rDGet td ty) := pe_dget hu ho hi hs
theorem pc_dinO (hu : X.A.units + 1 < cLine) (hi : PE X i ty) (ho : PE X o td) : PC X .In i o (tOp rDIn ty td) := pc_din hu hi ho
theorem u1 {n : Nat} (h : n + 64 < cLine) : n + 1 < cLine := by omega
theorem pe_dinC (hu : X.A.units + 1 < cLine) (hi : PE X i ty) (ho : PE X o td) (hb : behindInMarks .In o = false := by rfl) : PE X (.Compare i [.In] [o] pos) (tOp rDIn ty td) := pe_cmp (pc_din hu hi ho) hb
theorem pe_dnotinC (hu : X.A.units + 1 < cLine) (hi : PE X i ty) (ho : PE X o td) (hb : behindInMarks .NotIn o = false := by rfl) : PE X (.Compare i [.NotIn] [o] pos) (tOp rDNotIn ty td) := pe_cmp (pc_dnotin hu hi ho) hb
theorem pt_dinC (hu : X.A.units + 1 < cLine) (hi : PE X i ty) (ho : PE X o td) (hb : behindInMarks .In o = false := by rfl) : PT X (.Compare i [.In] [o] pos) (tTest (tOp rDIn ty td)) := pt_cmp (pc_din hu hi ho) hb
theorem pt_dnotinC (hu : X.A.units + 1 < cLine) (hi : PE X i ty) (ho : PE X o td) (hb : behindInMarks .NotIn o = false := by rfl) : PT X (.Compare i [.NotIn] [o] pos) (tTest (tOp rDNotIn ty td)) := pt_cmp (pc_dnotin hu hi ho) hb
theorem pc_dnotinO (hu : X.A.units + 1 < cLine) (hi : PE X i ty) (ho : PE X o td) : PC X .NotIn i o (tOp rDNotIn ty td) := pc_dnotin hu hi ho
end
section
variable {X : Cx}
theorem sw_trueD {kx vx : Expr} {gs : List Comprehension} {sc : Scope} {pos py : Pos} {y : Str} {n : Nat} {e : Env} (hk : e.scope.kind = .function) (hy : e.scope.names.lookup y = some .local) (hl : (py.line == pos.line) = true)
    (ha : (sc.names.any fun (n, k) => n == y && (k == .local || k == .cell)) = false) : swapsWith (.DictComp kx vx gs sc pos) (some (.Name y py)) n e = pure true := by
  have b : e.blockKind = .function := (by unfold Env.blockKind; rw [hk]; rfl)
  unfold swapsWith
  simp only [b, show e.kindOf y = some .local from hy, ha, Expr.pos, hl]
  rfl
/-- name = {k: v for ..} on one line, the name a local (as the kit's rule for lists) -/
theorem ps_setDc {i : Nat} {y : Str} {py : Pos} {kx vx tg it : Expr} {ifs : List Expr} {sc : Scope} {own : List (Str × Nat)} {pos sp : Pos} {wi : TI} {g : TG} {tt : TT} {tk tv : TE} (hc : X.calm = true) (hN : X.N.Nodup) (hy : X.N[i]? = some y) (hyl : X.env.scope.names.lookup y = some .local)
    (hw : swapsWith (.DictComp kx vx [⟨tg, it, ifs, 0⟩] sc pos) (some (.Name y py)) sp.line X.env = pure true) (hi : PI X tg it wi) (ok : BlkOk X.N X.env.scope sc own)
    (h1 : ∀ (s : Shared) (H : Hp) (C : Addr) (cl : List (Str × Addr)) (fp : List Addr), PG (X.blk s H sc (compEnvC sc cl C X.env) fp) tg g) (h2 : ∀ (s : Shared) (H : Hp) (C : Addr) (cl : List (Str × Addr)) (fp : List Addr), PTs (X.blk s H sc (compEnvC sc cl C X.env) fp) ifs tt)
    (h3 : ∀ (s : Shared) (H : Hp) (C : Addr) (cl : List (Str × Addr)) (fp : List Addr), PE (X.blk s H sc (compEnvC sc cl C X.env) fp) kx tk)
    (h4 : ∀ (s : Shared) (H : Hp) (C : Addr) (cl : List (Str × Addr)) (fp : List Addr), PE (X.blk s H sc (compEnvC sc cl C X.env) fp) vx tv) (hf : ∀ x, foldedSetIterable it X.env x = pure x := by intro _; rfl) :
    PS X (.Assign [.Name y py] (.DictComp kx vx [⟨tg, it, ifs, 0⟩] sc pos) sp) (tAsg (tDc wi g tt tk tv (own.map (·.2))) (gName i)) := ⟨fun pins s σ H D I (h : tDc wi g tt tk tv (own.map fun (z : Str × Nat) => z.2) σ H (fun x H1 => gName i x σ H1 D.nx)) => by
  rw [exec_Assign_Name_used _ _ _ _ hw]
  refine wpAny_bind (wpAny_standAt (wpAny_bind (?_ : wpAny _ X.A (do let _ ← comprehension (.DictComp kx vx [⟨tg, it, ifs, 0⟩] sc pos) sc X.env (firstIterPos [⟨tg, it, ifs, 0⟩] pos) newDict false (eval it X.env) (some (assign (.Name y py) X.env))) _ _ s)))
  refine wpAny_bind (thn (dc_core (Qf := fun _ s1 => SP X pins D .next s1) hc hN I hi ok h1 h2 h3 h4 hf h fun L C s1 m H1 I1 q hn f => (?_ : wpAny _ _ (assign (.Name y py) X.env (.ref L)) _ _ _)) fun _ _ hq => wpAny_pure (wpAny_pure hq))
  refine wpAny_assign_Name (store_ok2 (v := V.ref L) I1 hN hy (.inl hyl) rfl (fun s2 I2 ⟨a, sb, ha⟩ => ?_) (.inr hyl))
  obtain ⟨f0, f1, _, f3, f4, f5⟩ := f
  refine ⟨m, hn.sameBut sb (ha.elim (fun z => by rw [z]; exact f1) fun z e => f4 y a z e.symm), fun _ sb3 => ⟨_, H1, I2.turned (t' := s2.toks) (fun b o hb e => (sb3.2 b hb).trans e) f0 f1 f3 f4 f5, q⟩⟩⟩
end
end L2
namespace Pd
open PySem PySem.Spec L2
open Evl (Ex)
open PyProof.Rows
def getW (kvs : List (Key × W)) (k : Key) : Option W := (kvs.find? fun kv => decide (kv.1 = k)).map (·.2)
def putW (kvs : List (Key × W)) (k : Key) (v : W) : List (Key × W) :=
  if (kvs.any fun kv => decide (kv.1 = k)) = true then kvs.map (fun kv => if kv.1 = k then (kv.1, v) else kv) else kvs ++ [(k, v)]
def dropW (kvs : List (Key × W)) (k : Key) : List (Key × W) := kvs.filter fun kv => decide (kv.1 ≠ k)
def keyD : Key → PyData
  | .inl i => .int i
  | .inr x => .str x
section
variable {K : PySem.W.Frag} {Hv : Hp} {M : List Addr}
theorem vr_key {v : V} {k : Key} (h : VR K Hv M v (.d (keyD k))) : v = kV k := by
  cases k with
  | inl i => exact vr_int h
  | inr x => exact vr_str h
theorem key_vr (k : Key) : VR K Hv M (kV k) (.d (keyD k)) := by
  cases k with
  | inl i => exact .d (.int i)
  | inr x => exact .d (.str x)
theorem krs_len : ∀ {us : List (Key × V)} {kvs : List (Key × W)}, KRs K Hv M us kvs → us.length = kvs.length
  | [], [], _ => rfl
  | _ :: _, _ :: _, h => congrArg (· + 1) (krs_len h.2.2)
  | [], _ :: _, h => h.elim
  | _ :: _, [], h => h.elim
theorem krs_get (k : Key) : ∀ {us : List (Key × V)} {kvs : List (Key × W)}, KRs K Hv M us kvs → (getW kvs k = none → valV us k = none) ∧ ∀ w, getW kvs k = some w → ∃ v, valV us k = some v ∧ VR K Hv M v w
  | [], [], _ => ⟨fun _ => rfl, fun w h => by cases h⟩
  | (k1, u) :: us, (k2, w) :: kvs, h => by
    obtain ⟨e, r, h⟩ := h
    have ih := krs_get k h
    have e' : k1 = k2 := e
    subst e'
    by_cases q : k1 = k
    · have e1 : getW ((k1, w) :: kvs) k = some w := by simp [getW, List.find?_cons, q]
      rw [e1, valV_pos q]
      exact ⟨fun z => (by cases z), fun w' z => (by cases z; exact ⟨_, rfl, r⟩)⟩
    · have e1 : getW ((k1, w) :: kvs) k = getW kvs k := by simp [getW, List.find?_cons, q]
      rw [e1, valV_neg q]
      exact ih
  | [], _ :: _, h => h.elim
  | _ :: _, [], h => h.elim
theorem krs_any (k : Key) : ∀ {us : List (Key × V)} {kvs : List (Key × W)}, KRs K Hv M us kvs → (us.any fun kv => decide (kv.1 = k)) = (kvs.any fun kv => decide (kv.1 = k))
  | [], [], _ => rfl
  | (k1, u) :: us, (k2, w) :: kvs, h => by
    have e' : k1 = k2 := h.1
    subst e'
    rw [List.any_cons, List.any_cons, krs_any k h.2.2]
  | [], _ :: _, h => h.elim
  | _ :: _, [], h => h.elim
theorem krs_map {k : Key} {v : V} {w : W} (r : VR K Hv M v w) : ∀ {us : List (Key × V)} {kvs : List (Key × W)}, KRs K Hv M us kvs → KRs K Hv M (us.map fun kv => if kv.1 = k then (kv.1, v) else kv) (kvs.map fun kv => if kv.1 = k then (kv.1, w) else kv)
  | [], [], _ => trivial
  | (k1, u) :: us, (k2, x) :: kvs, h => by
    have e' : k1 = k2 := h.1
    subst e'
    rw [List.map_cons, List.map_cons]
    by_cases q : k1 = k
    · rw [if_pos q, if_pos q]
      exact ⟨rfl, r, krs_map r h.2.2⟩
    · rw [if_neg q, if_neg q]
      exact ⟨rfl, h.2.1, krs_map r h.2.2⟩
  | [], _ :: _, h => h.elim
  | _ :: _, [], h => h.elim
theorem krs_snoc {k : Key} {v : V} {w : W} (r : VR K Hv M v w) : ∀ {us : List (Key × V)} {kvs : List (Key × W)}, KRs K Hv M us kvs → KRs K Hv M (us ++ [(k, v)]) (kvs ++ [(k, w)])
  | [], [], _ => ⟨rfl, r, trivial⟩
  | _ :: _, _ :: _, h => ⟨h.1, h.2.1, krs_snoc r h.2.2⟩
  | [], _ :: _, h => h.elim
  | _ :: _, [], h => h.elim
theorem krs_put {k : Key} {v : V} {w : W} {us : List (Key × V)} {kvs : List (Key × W)} (h : KRs K Hv M us kvs) (r : VR K Hv M v w) : KRs K Hv M (putK us k v) (putW kvs k w) := by
  unfold putK putW
  rw [krs_any k h]
  split
  · exact krs_map r h
  · exact krs_snoc r h
theorem krs_drop {k : Key} : ∀ {us : List (Key × V)} {kvs : List (Key × W)}, KRs K Hv M us kvs → KRs K Hv M (dropK us k) (dropW kvs k)
  | [], [], _ => trivial
  | (k1, u) :: us, (k2, x) :: kvs, h => by
    have e' : k1 = k2 := h.1
    subst e'
    have ih := krs_drop (k := k) h.2.2
    unfold dropK dropW at ih ⊢
    by_cases q : k1 = k
    · rw [List.filter_cons_of_neg (by simpa using q), List.filter_cons_of_neg (by simpa using q)]
      exact ih
    · rw [List.filter_cons_of_pos (by simpa using q), List.filter_cons_of_pos (by simpa using q)]
      exact ⟨rfl, h.2.1, ih⟩
  | [], _ :: _, h => h.elim
  | _ :: _, [], h => h.elim
theorem krs_at : ∀ {us : List (Key × V)} {kvs : List (Key × W)} {i : Nat}, KRs K Hv M us kvs → ∀ {k : Key} {v : V}, us[i]? = some (k, v) → ∃ w, kvs[i]? = some (k, w) ∧ VR K Hv M v w
  | (k1, u) :: us, (k2, x) :: kvs, 0, h, k, v, e => by
    have e' : k1 = k2 := h.1
    subst e'
    have : (k1, u) = (k, v) := by simpa using e
    cases this
    exact ⟨x, rfl, h.2.1⟩
  | _ :: us, _ :: kvs, i + 1, h, k, v, e => krs_at (i := i) h.2.2 (by simpa using e)
  | [], [], _, _, _, _, e => by simp at e
  | [], _ :: _, _, h, _, _, _ => h.elim
  | _ :: _, [], _, h, _, _, _ => h.elim
end
/-- the dict at k, locked or not -/
def DkAt (μ : Mu) (k : Nat) (kvs : List (Key × W)) : Prop := μ[k]? = some (some (.dk kvs)) ∨ ∃ od us, μ[k]? = some (some (.fk od us kvs))
section
variable {K : PySem.W.Frag} {A : Addr → Prop} {M : List Addr} {H : Hp} {μ : Mu} {Γ : G} {R : W → Mu → Prop}
theorem dk_get {k : Nat} {kvs : List (Key × W)} {v : V} (mo : MOk K A M H μ) (rv : VR K (vw A M μ H) M v (.m k)) (hk : DkAt μ k kvs) : ∃ a us, v = .ref a ∧ M[k]? = some a ∧ Rd H a (.dK us) ∧ KRs K (vw A M μ H) M us kvs := by
  cases rv with
  | m hm =>
    rcases hk with hk | ⟨od, us, hk⟩
    · obtain ⟨o, e, us, rfl, r⟩ := mo.ct _ _ _ hm hk
      exact ⟨_, us, rfl, hm, .inl e, r⟩
    · obtain ⟨o, e, rfl, r⟩ := mo.ct _ _ _ hm hk
      exact ⟨_, us, rfl, hm, .inr ⟨od, e⟩, r⟩
theorem dk_own {k : Nat} {kvs : List (Key × W)} {v : V} (mo : MOk K A M H μ) (rv : VR K (vw A M μ H) M v (.m k)) (hk : μ[k]? = some (some (.dk kvs))) : ∃ a us, v = .ref a ∧ M[k]? = some a ∧ H a = some (.dK us) ∧ KRs K (vw A M μ H) M us kvs := by
  cases rv with
  | m hm =>
    obtain ⟨o, e, us, rfl, r⟩ := mo.ct _ _ _ hm hk
    exact ⟨_, us, rfl, hm, e, r⟩
theorem o_dget {k : Nat} {kvs : List (Key × W)} {y : Key} {w : W} (hk : DkAt μ k kvs) (hw : getW kvs y = some w) (q : R w μ) : AO K rDGet (.m k) (.d (keyD y)) μ R := fun A M H v u mo rv ru Q h => by
  obtain ⟨a, us, rfl, hm, rd, rk⟩ := dk_get mo rv hk
  rw [vr_key ru]
  obtain ⟨z, hz, rz⟩ := (krs_get y rk).2 w hw
  exact ⟨a, z, rfl, .inl ⟨us, y, rd, rfl, hz.symm⟩, h M H z w μ mo Eff.refl rz q⟩
theorem valV_isSome {us : List (Key × V)} {kvs : List (Key × W)} {Hv : Hp} {y : Key} (rk : KRs K Hv M us kvs) : (valV us y).isSome = (getW kvs y).isSome := by
  cases e : getW kvs y with
  | none => rw [(krs_get y rk).1 e]; rfl
  | some w =>
    obtain ⟨z, hz, _⟩ := (krs_get y rk).2 w e
    rw [hz]; rfl
theorem o_din {k : Nat} {kvs : List (Key × W)} {y : Key} (hk : DkAt μ k kvs) (q : R (.d (.bool (getW kvs y).isSome)) μ) : AO K rDIn (.d (keyD y)) (.m k) μ R := fun A M H v u mo rv ru Q h => by
  obtain ⟨a, us, rfl, hm, rd, rk⟩ := dk_get mo ru hk
  rw [vr_key rv]
  refine ⟨a, _, rfl, .inl ⟨us, y, rd, rfl, rfl⟩, ?_⟩
  rw [valV_isSome rk]
  exact h M H _ _ μ mo Eff.refl (.d (.bl _)) q
theorem o_dnotin {k : Nat} {kvs : List (Key × W)} {y : Key} (hk : DkAt μ k kvs) (q : R (.d (.bool (!(getW kvs y).isSome))) μ) : AO K rDNotIn (.d (keyD y)) (.m k) μ R := fun A M H v u mo rv ru Q h => by
  obtain ⟨a, us, rfl, hm, rd, rk⟩ := dk_get mo ru hk
  rw [vr_key rv]
  refine ⟨a, _, rfl, .inl ⟨us, y, rd, rfl, rfl⟩, ?_⟩
  rw [valV_isSome rk]
  exact h M H _ _ μ mo Eff.refl (.d (.bl _)) q
/-- {} -/
theorem ax_dnew (q : R (.m μ.length) (μ ++ [some (.dk [])])) : AX K tDNewK Γ μ R := fun A M σ H c Q h => fun p hp => by
  have mo' : MOk K A (M ++ [p]) (upd H p (.dK [])) (μ ++ [some (.dk [])]) := c.mo.new hp ⟨[], rfl, trivial⟩
  refine h _ _ _ _ _ mo' (Eff.new c.mo hp) (.m ?_) q
  rw [← c.mo.len, List.getElem?_append_right (Nat.le_refl _)]
  simp
/-- d[y] = v -/
theorem as_dput {td ty tv : TE} {D : AEn} (h : AX K tv Γ μ fun v μ1 => AX K td Γ μ1 fun x μ2 => AX K ty Γ μ2 fun y μ3 => ∃ k kvs key, x = .m k ∧ μ3[k]? = some (some (.dk kvs)) ∧ y = .d (keyD key) ∧ kvs.length < sizeLine ∧ D.nx Γ (μ3.set k (some (.dk (putW kvs key v))))) :
    AS K (sDPut td ty tv) D Γ μ := fun A M σ H c E hE =>
  h A M σ H c _ fun M1 H1 v wv μ1 mo1 e1 r1 h1 => h1 A M1 σ H1 (c.eff e1 mo1) _ fun M2 H2 x wx μ2 mo2 e2 r2 h2 => h2 A M2 σ H2 ((c.eff e1 mo1).eff e2 mo2) _ fun M3 H3 y wy μ3 mo3 e3 r3 ⟨k, kvs, key, ex, hk, ey, hl, q⟩ => by
    subst ex ey
    obtain ⟨a, us, rfl, hm, ea, rk⟩ := dk_own mo3 (r2.mono e3.ex e3.pre) hk
    rw [vr_key r3]
    refine ⟨a, _, rfl, DPut.k ea (by rw [krs_len rk]; exact hl), ?_⟩
    have rv := (r1.mono e2.ex e2.pre).mono e3.ex e3.pre
    have mo4 : MOk K A M3 (upd H3 a (.dK (putK us key v))) (μ3.set k (some (.dk (putW kvs key wv)))) := mo3.write hm hk ⟨_, rfl, krs_put rk rv⟩
    have e4 : Eff A M3 μ3 H3 M3 (μ3.set k (some (.dk (putW kvs key wv)))) (upd H3 a (.dK (putK us key v))) := Eff.write mo3 hm hk
    exact hE.nx M3 σ _ Γ _ ((((c.eff e1 mo1).eff e2 mo2).eff e3 mo3).eff e4 mo4) (((e1.trans e2).trans e3).trans e4) q
theorem dk_isD {k : Nat} {kvs : List (Key × W)} {a : Addr} (mo : MOk K A M H μ) (rv : VR K (vw A M μ H) M (.ref a) (.m k)) (hk : DkAt μ k kvs) : IsD H a := by
  obtain ⟨b, us, e, _, rd, _⟩ := dk_get mo rv hk
  cases e
  exact .inl ⟨us, rd⟩
/-- d.pop(y, z) -/
theorem ax_dpop2 {td ty tx : TE} (h : AX K td Γ μ fun x μ1 => ∃ k kvs0, x = .m k ∧ DkAt μ1 k kvs0 ∧ AX K ty Γ μ1 fun y μ2 => AX K tx Γ μ2 fun z μ3 => ∃ kvs key, μ3[k]? = some (some (.dk kvs)) ∧ y = .d (keyD key) ∧
    (∀ w, getW kvs key = some w → R w (μ3.set k (some (.dk (dropW kvs key))))) ∧ (getW kvs key = none → R z μ3)) : AX K (tDPop2 td ty tx) Γ μ R := fun A M σ H c Q q =>
  h A M σ H c _ fun M1 H1 x wx μ1 mo1 e1 r1 ⟨k, kvs0, ex, hk0, h1⟩ => by
    subst ex
    obtain ⟨a, us0, rfl, hm0, rd0, rk0⟩ := dk_get mo1 r1 hk0
    refine ⟨a, rfl, dk_isD mo1 r1 hk0, h1 A M1 σ H1 (c.eff e1 mo1) _ fun M2 H2 y wy μ2 mo2 e2 r2 h2 => h2 A M2 σ H2 ((c.eff e1 mo1).eff e2 mo2) _ fun M3 H3 z wz μ3 mo3 e3 r3 ⟨kvs, key, hk, ey, q1, q2⟩ => ?_⟩
    subst ey
    obtain ⟨b, us, eb, hm, ea, rk⟩ := dk_own mo3 ((r1.mono e2.ex e2.pre).mono e3.ex e3.pre) hk
    cases eb
    refine ⟨us, key, ea, vr_key (r2.mono e3.ex e3.pre), fun v hv => ?_, fun hv => ?_⟩
    · cases e : getW kvs key with
      | none =>
        rw [(krs_get key rk).1 e] at hv
        cases hv
      | some w =>
        obtain ⟨v', hv', rv⟩ := (krs_get key rk).2 w e
        rw [hv] at hv'
        cases hv'
        have mo4 : MOk K A M3 (upd H3 a (.dK (dropK us key))) (μ3.set k (some (.dk (dropW kvs key)))) := mo3.write hm hk ⟨_, rfl, krs_drop rk⟩
        have e4 : Eff A M3 μ3 H3 M3 (μ3.set k (some (.dk (dropW kvs key)))) (upd H3 a (.dK (dropK us key))) := Eff.write mo3 hm hk
        exact q M3 _ v w _ mo4 (((e1.trans e2).trans e3).trans e4) (rv.mono e4.ex e4.pre) (q1 w e)
    · cases e : getW kvs key with
      | none => exact q M3 H3 z wz μ3 mo3 ((e1.trans e2).trans e3) r3 (q2 e)
      | some w =>
        obtain ⟨v', hv', rv⟩ := (krs_get key rk).2 w e
        rw [hv] at hv'
        cases hv'
/-- an expression that walks the dict at k -/
theorem ax_lock {t : TE} (k : Nat) {kvs : List (Key × W)} (hk : μ[k]? = some (some (.dk kvs))) (h : ∀ od us, AX K t Γ (μ.set k (some (.fk od us kvs))) fun w μ' => μ'[k]? = some (some (.fk od us kvs)) ∧ R w (μ'.set k (some (.dk kvs)))) : AX K (tLockE t) Γ μ R := fun A M σ H c Q q => by
  have hl : k < M.length := by
    rw [c.mo.len]
    exact (List.getElem?_eq_some_iff.mp hk).1
  have hm : M[k]? = some (M[k]'hl) := List.getElem?_eq_getElem hl
  generalize M[k]'hl = a at hm
  obtain ⟨o, ea, us, rfl, rk⟩ := c.mo.ct k a _ hm hk
  refine ⟨a, .dK us, ea, trivial, fun od => ?_⟩
  have mo1 : MOk K A M (upd H a (.frz od (.dK us))) (μ.set k (some (.fk od us kvs))) := c.mo.write hm hk ⟨rfl, rk⟩
  have e1 : Eff A M μ H M (μ.set k (some (.fk od us kvs))) (upd H a (.frz od (.dK us))) := Eff.write c.mo hm hk
  refine h od us A M σ _ (c.eff e1 mo1) _ fun M2 H2 v w μ2 mo2 e2 r2 ⟨hk2, hR⟩ => ?_
  have hm2 := e2.pre k a hm
  obtain ⟨o2, ea2, rfl, rk2⟩ := mo2.ct k a _ hm2 hk2
  have mo3 : MOk K A M2 (upd H2 a (.dK us)) (μ2.set k (some (.dk kvs))) := mo2.write hm2 hk2 ⟨us, rfl, rk2⟩
  have e3 : Eff A M2 μ2 H2 M2 (μ2.set k (some (.dk kvs))) (upd H2 a (.dK us)) := Eff.write mo2 hm2 hk2
  exact ⟨ea2, q M2 _ v w _ mo3 ((e1.trans e2).trans e3) (r2.mono e3.ex e3.pre) hR⟩
/-- for y in d, the dict locked -/
theorem ai_keys {td : TE} {RI : List W → (Mu → Prop) → Mu → Prop} (h : AX K td Γ μ fun x μ1 => ∃ k od us kvs, x = .m k ∧ μ1[k]? = some (some (.fk od us kvs)) ∧ RI (kvs.map fun kv => .d (keyD kv.1)) (fun μ' => μ'[k]? = some (some (.fk od us kvs))) μ1) : AI K (iKeys td) Γ μ RI := fun A M σ H c Q q =>
  h A M σ H c _ fun M1 H1 x wx μ1 mo1 e1 r1 ⟨k, od, us, kvs, ex, hk, hR⟩ => by
    subst ex
    cases r1 with
    | m hm =>
      obtain ⟨o, ea, rfl, rk⟩ := mo1.ct k _ _ hm hk
      refine ⟨_, od, rfl, .inl ⟨us, ea, q M1 H1 _ _ _ μ1 mo1 e1 (fun A' M' H' μ' mo' ex pr hS i => ?_) hR⟩⟩
      obtain ⟨o', ea', rfl, rk'⟩ := mo'.ct k _ _ (pr k _ hm) hS
      refine ⟨fun w' hw => ?_, fun hn => ⟨ea', ?_⟩⟩
      · have hi : i < us.length := by
          rw [krs_len rk']
          have := (List.getElem?_eq_some_iff.mp hw).1
          simpa using this
        refine ⟨⟨ea', hi⟩, fun y H2 hy => ?_⟩
        obtain ⟨rfl, ky, v, e, rfl⟩ := hy
        obtain ⟨w, e2, _⟩ := krs_at rk' e
        rw [List.getElem?_map, e2] at hw
        have : W.d (keyD ky) = w' := by simpa using hw
        subst this
        exact ⟨Ex.refl _, key_vr ky⟩
      · rw [krs_len rk']
        have := List.getElem?_eq_none_iff.mp hn
        simpa using this
/-- for y, v in d.items(), the dict locked -/
theorem ai_items {td : TE} {RI : List W → (Mu → Prop) → Mu → Prop} (h : AX K td Γ μ fun x μ1 => ∃ k od us kvs, x = .m k ∧ μ1[k]? = some (some (.fk od us kvs)) ∧ RI (kvs.map fun kv => pairW (.d (keyD kv.1)) kv.2) (fun μ' => μ'[k]? = some (some (.fk od us kvs))) μ1) : AI K (iItems td) Γ μ RI := fun A M σ H c Q q =>
  h A M σ H c _ fun M1 H1 x wx μ1 mo1 e1 r1 ⟨k, od, us, kvs, ex, hk, hR⟩ => by
    subst ex
    cases r1 with
    | m hm =>
      obtain ⟨o, ea, rfl, rk⟩ := mo1.ct k _ _ hm hk
      refine ⟨_, od, us, rfl, ea, q M1 H1 _ _ _ μ1 mo1 e1 (fun A' M' H' μ' mo' ex pr hS i => ?_) hR⟩
      obtain ⟨o', ea', rfl, rk'⟩ := mo'.ct k _ _ (pr k _ hm) hS
      refine ⟨fun w' hw => ?_, fun hn => ⟨ea', ?_⟩⟩
      · have hi : i < us.length := by
          rw [krs_len rk']
          have := (List.getElem?_eq_some_iff.mp hw).1
          simpa using this
        refine ⟨⟨ea', hi⟩, fun y H2 hy => ?_⟩
        obtain ⟨T, ky, v, e, rfl, hT, rfl⟩ := hy
        obtain ⟨w, e2, rw'⟩ := krs_at rk' e
        rw [List.getElem?_map, e2] at hw
        have : pairW (.d (keyD ky)) w = w' := by simpa using hw
        subst this
        exact ⟨Ex.new hT, vr_pair mo' hT (key_vr ky) rw'⟩
      · rw [krs_len rk']
        have := List.getElem?_eq_none_iff.mp hn
        simpa using this
/-- sorted(x), ints -/
theorem c_sortedI {x : W} {ns : List Int} (hx : LW μ x (wInts ns)) (q : ∀ ns' : List Int, ns'.Perm ns → ns'.Pairwise (· ≤ ·) → NL (wInts ns') μ R) : AC K (rSortedI K) [x] μ R := fun A M H vs mo rs Q h => by
  cases rs with
  | cons rw rn =>
    cases rn
    obtain ⟨a, us, rfl, hs, ru⟩ := hx.get mo rw
    rw [vrs_int ru] at hs
    refine ⟨a, ns, rfl, hs, fun ns' p h1 h2 hp => ?_⟩
    have rv : VRs K (vw A M μ H) M (ns'.map V.int) (wInts ns') := by
      clear h1 h2
      induction ns' with
      | nil => exact .nil
      | cons n ns' ih => exact .cons (.d (.int n)) ih
    obtain ⟨M2, μ2, w, m2, e2, r2, hR⟩ := (q ns' h1 h2).use mo rv hp
    exact h M2 _ _ w μ2 m2 e2 r2 hR
theorem putW_len (k : Key) (w : W) (kvs : List (Key × W)) : (putW kvs k w).length ≤ kvs.length + 1 := by
  unfold putW
  split
  · rw [List.length_map]; omega
  · rw [List.length_append, List.length_singleton]; omega
/-- the state within a comprehension whose dict stands at p -/
def DcI (K : PySem.W.Frag) (A : Addr → Prop) (M1 : List Addr) (μ1 : Mu) (H1 : Hp) (p : Addr) (P : List (Key × W) → Mu → Prop) (H' : Hp) : Prop :=
  ∃ M' μ' us acc, H' p = some (.dK us) ∧ MOk K (addA A p) M' H' μ' ∧ Eff A M1 μ1 H1 M' μ' (delH H' p) ∧ KRs K (vw (addA A p) M' μ' H') M' us acc ∧ P acc μ'
/-- {k: v for ..} -/
theorem ax_dc {wi : TI} {g : TG} {tt : TT} {tk tv : TE} {vs : List Nat} {α : Type} (f : α → W) (ns : List α) (I : List α → List (Key × W) → Mu → Prop) (hz : ns.length ≤ sizeLine) (hw : WipeOk g vs)
    (h : AI K wi Γ μ fun items S μ1 => items = ns.map f ∧ (∀ pre acc μ', I pre acc μ' → S μ') ∧ I [] [] μ1)
    (hs : ∀ pre x post acc μ', ns = pre ++ x :: post → acc.length ≤ pre.length → I pre acc μ' → AG K g (f x) (wipeG Γ vs) μ' fun Γ2 μ2 => AXT K tt Γ2 μ2 fun b μ3 => if b = true then AX K tk Γ2 μ3 fun y μ4 => AX K tv Γ2 μ4 fun w μ5 => ∃ key, y = .d (keyD key) ∧ I (pre ++ [x]) (putW acc key w) μ5 else I (pre ++ [x]) acc μ3)
    (hd : ∀ acc μ', I ns acc μ' → R (.m μ'.length) (μ' ++ [some (.dk acc)])) : AX K (tDc wi g tt tk tv vs) Γ μ R := fun A M σ H cn Q q =>
  h A M σ H cn _ fun M1 H1 J items S μ1 mo1 e1 hJ ⟨hi, hS, h0⟩ => by
    subst hi
    intro p hp
    have hA : ¬ A p := fun z => mo1.aA p z hp
    refine ⟨fun i m H' => i ≤ ns.length ∧ m = ns.length - i ∧ DcI K A M1 μ1 H1 p (fun acc μ' => acc.length ≤ i ∧ I (ns.take i) acc μ') H',
      ⟨ns.length, Nat.zero_le _, rfl, M1, μ1, [], [], upd_same, mo1.add hp, by rw [delH_upd2, delH_none hp]; exact Eff.refl, trivial, Nat.le_refl _, h0⟩, fun i m H' hW => ?_⟩
    obtain ⟨hi, rfl, M', μ', us, acc, hu, mo', e', ru, hal, hI⟩ := hW
    have hex : Ex (vw A M1 μ1 H1) (vw (addA A p) M' μ' H') := by
      rw [vw_add]
      exact e'.ex
    have hit := hJ (addA A p) M' H' μ' mo' hex e'.pre (hS _ _ _ hI) i
    by_cases hlt : i < ns.length
    · have hx : ns[i]? = some ns[i] := List.getElem?_eq_getElem hlt
      have hw' : (ns.map f)[i]? = some (f ns[i]) := by rw [List.getElem?_map, hx]; rfl
      obtain ⟨hgo, hy⟩ := hit.1 _ hw'
      refine .inr ⟨hgo, DcI K A M1 μ1 H1 p (fun acc μ' => acc.length ≤ i + 1 ∧ I (ns.take (i + 1)) acc μ'), fun H2 h2 => ⟨ns.length - (i + 1), by omega, hlt, rfl, h2⟩, fun x H2 hyld => ?_⟩
      obtain ⟨ex2, rx⟩ := hy x H2 hyld
      have eH2 : Eff (addA A p) M' μ' H' M' μ' H2 := Eff.of_ex ex2
      have c0 : GR K (vw A M1 μ1 H1) M1 (wipe σ vs) (wipeG Γ vs) := (cn.gr.mono e1.ex e1.pre).wipeG vs
      have c2 : Cn K (addA A p) M' (wipe σ vs) H2 (wipeG Γ vs) μ' := ⟨mo'.ex ex2, (c0.mono hex e'.pre).mono (vw_ex ex2) (Pre.refl _)⟩
      have hlen : (ns.take i).length = i := by rw [List.length_take]; omega
      refine hw x σ H2 _ ?_
      refine hs (ns.take i) ns[i] (ns.drop (i + 1)) acc μ' (split_at hx) (by omega) hI (addA A p) M' (wipe σ vs) H2 x c2 rx _ fun M3 σ3 H3 Γ3 μ3 c3 e3 h3 => ?_
      refine h3 (addA A p) M3 σ3 H3 c3 _ fun M4 H4 b μ4 mo4 e4 h4 => ?_
      have eA : Eff (addA A p) M' μ' H' M4 μ4 H4 := (eH2.trans e3).trans e4
      have hu4 : H4 p = some (.dK us) := eA.own p _ (.inr rfl) hu
      cases b with
      | false =>
        refine ⟨M4, μ4, us, acc, hu4, mo4, e'.trans eA.del2, ru.mono eA.ex eA.pre, by omega, ?_⟩
        rw [take_snoc hx]
        exact h4
      | true =>
        refine h4 (addA A p) M4 σ3 H4 (c3.eff e4 mo4) _ fun M5 H5 y wy μ5 mo5 e5 r5 h5 => ?_
        refine h5 (addA A p) M5 σ3 H5 ((c3.eff e4 mo4).eff e5 mo5) _ fun M6 H6 z w μ6 mo6 e6 r6 ⟨key, ey, hI6⟩ => ?_
        subst ey
        have eB : Eff (addA A p) M' μ' H' M6 μ6 H6 := (eA.trans e5).trans e6
        have hu6 : H6 p = some (.dK us) := eB.own p _ (.inr rfl) hu
        have rus : KRs K (vw (addA A p) M6 μ6 H6) M6 (putK us key z) (putW acc key w) := krs_put (ru.mono eB.ex eB.pre) r6
        have hpl := putW_len key w acc
        refine ⟨us, key, vr_key r5, hu6, ?_, M6, μ6, putK us key z, putW acc key w, upd_same, mo6.wr hu6 noTb_dK, ?_, ?_, by omega, ?_⟩
        · rw [krs_len ru]
          omega
        · rw [delH_upd2]
          exact e'.trans eB.del2
        · rw [vw_add, delH_upd2, ← vw_add]
          exact rus
        · rw [take_snoc hx]
          exact hI6
    · have hei : i = ns.length := by omega
      subst hei
      refine .inl ⟨hit.2 (by simp), ?_⟩
      rw [List.take_length] at hI
      have md := mo'.del hA hu noTb_dK
      have rd : KRs K (vw A M' μ' (delH H' p)) M' us acc := by
        rw [← vw_add]
        exact ru
      have hn : delH H' p p = none := if_pos rfl
      have m2 : MOk K A (M' ++ [p]) (upd (delH H' p) p (.dK us)) (μ' ++ [some (.dk acc)]) := md.new hn ⟨us, rfl, rd⟩
      have e2 : Eff A M' μ' (delH H' p) (M' ++ [p]) (μ' ++ [some (.dk acc)]) (upd (delH H' p) p (.dK us)) := Eff.new md hn
      rw [delH_upd hu] at m2 e2
      refine q (M' ++ [p]) H' _ (.m μ'.length) _ m2 ((e1.trans e').trans e2) (.m ?_) (hd acc μ' hI)
      rw [← mo'.len, List.getElem?_append_right (Nat.le_refl _)]
      simp
/-- a statement that walks the dict at k -/
theorem as_lock {t : TS} {D : AEn} (k : Nat) {kvs : List (Key × W)} (hk : μ[k]? = some (some (.dk kvs)))
    (h : ∀ od us, AS K t { nx := fun Γ' μ' => μ'[k]? = some (some (.fk od us kvs)) ∧ D.nx Γ' (μ'.set k (some (.dk kvs))), rt := fun w μ' => μ'[k]? = some (some (.fk od us kvs)) ∧ D.rt w (μ'.set k (some (.dk kvs))), bk := fun Γ' μ' => μ'[k]? = some (some (.fk od us kvs)) ∧ D.bk Γ' (μ'.set k (some (.dk kvs))), ct := fun Γ' μ' => μ'[k]? = some (some (.fk od us kvs)) ∧ D.ct Γ' (μ'.set k (some (.dk kvs))) } Γ (μ.set k (some (.fk od us kvs)))) : AS K (tLock t) D Γ μ := fun A M σ H c E hE => by
  have hl : k < M.length := by
    rw [c.mo.len]
    exact (List.getElem?_eq_some_iff.mp hk).1
  have hm : M[k]? = some (M[k]'hl) := List.getElem?_eq_getElem hl
  generalize M[k]'hl = a at hm
  obtain ⟨o, ea, us, rfl, rk⟩ := c.mo.ct k a _ hm hk
  refine ⟨a, .dK us, ea, trivial, fun od => ?_⟩
  have mo1 : MOk K A M (upd H a (.frz od (.dK us))) (μ.set k (some (.fk od us kvs))) := c.mo.write hm hk ⟨rfl, rk⟩
  have e1 : Eff A M μ H M (μ.set k (some (.fk od us kvs))) (upd H a (.frz od (.dK us))) := Eff.write c.mo hm hk
  have back : ∀ M2 H2 μ2, MOk K A M2 H2 μ2 → Eff A M (μ.set k (some (.fk od us kvs))) (upd H a (.frz od (.dK us))) M2 μ2 H2 → μ2[k]? = some (some (.fk od us kvs)) →
      H2 a = some (.frz od (.dK us)) ∧ MOk K A M2 (upd H2 a (.dK us)) (μ2.set k (some (.dk kvs))) ∧ Eff A M2 μ2 H2 M2 (μ2.set k (some (.dk kvs))) (upd H2 a (.dK us)) := fun M2 H2 μ2 mo2 e2 hk2 => by
    have hm2 := e2.pre k a hm
    obtain ⟨o2, ea2, rfl, rk2⟩ := mo2.ct k a _ hm2 hk2
    exact ⟨ea2, mo2.write hm2 hk2 ⟨us, rfl, rk2⟩, Eff.write mo2 hm2 hk2⟩
  refine h od us A M σ _ (c.eff e1 mo1) _ ⟨fun M2 σ2 H2 Γ2 μ2 c2 e2 ⟨hk2, hR⟩ => ?_, fun M2 H2 v w μ2 mo2 e2 r2 ⟨hk2, hR⟩ => ?_, fun M2 σ2 H2 Γ2 μ2 c2 e2 ⟨hk2, hR⟩ => ?_, fun M2 σ2 H2 Γ2 μ2 c2 e2 ⟨hk2, hR⟩ => ?_, fun _ _ _ _ _ _ _ _ _ _ _ _ z => z.elim⟩
  · obtain ⟨b1, b2, b3⟩ := back M2 H2 μ2 c2.mo e2 hk2
    exact ⟨b1, hE.nx M2 σ2 _ Γ2 _ (c2.eff b3 b2) ((e1.trans e2).trans b3) hR⟩
  · obtain ⟨b1, b2, b3⟩ := back M2 H2 μ2 mo2 e2 hk2
    exact ⟨b1, hE.rt M2 _ v w _ b2 ((e1.trans e2).trans b3) (r2.mono b3.ex b3.pre) hR⟩
  · obtain ⟨b1, b2, b3⟩ := back M2 H2 μ2 c2.mo e2 hk2
    exact ⟨b1, hE.bk M2 σ2 _ Γ2 _ (c2.eff b3 b2) ((e1.trans e2).trans b3) hR⟩
  · obtain ⟨b1, b2, b3⟩ := back M2 H2 μ2 c2.mo e2 hk2
    exact ⟨b1, hE.ct M2 σ2 _ Γ2 _ (c2.eff b3 b2) ((e1.trans e2).trans b3) hR⟩
end
end Pd

/-! Pd17: set(list of ints), sorted of it. -/
namespace L2
open PySem PySem.Spec PyProof.Rows
section
variable {P : Program} {w : World} {A : Around} {E : Value → Shared → Prop} {s : Shared}
abbrev eS (w : World) : Obj := { cls := .type "set", dict := none, data := .set #[] 0 (.fresh 0 0 (!w.params.followText "set-order")) }
/-- a set of the members of ns has been made at the end of h0 -/
def MadeS (w : World) (h0 : Heap) (ns : List Int) (h1 : Heap) : Prop := ∃ c, SetR w h1 h0.objs.size (fun j => decide (j ∈ ns)) c ∧ c ≤ ns.length ∧ ∀ b o, h0.get? b = some o → h1.get? b = some o
theorem init_lst {l : Addr} {xs : Array Value} (ns : List Int) (g0 : A.handled = none) (gl : s.heap.IsList l xs) (gi : IntsAre xs.toList ns) (gb : ns.length + 1 < scanBound) :
    codeAny (model P w) A (.call (.builtin "set.__init__") ⟨[.ref s.heap.objs.size, .ref l], []⟩) (wants (fun r s2 => r = .none ∧ ∃ h1 k1, s2 = { s with heap := h1, toks := k1 } ∧ MadeS w s.heap ns h1) E) { s with heap := s.heap.push (eS w) } := by
  have gn : xs.size = ns.length := Array.length_toList.symm.trans (IntsAre.length gi)
  have e0 : (s.heap.push (eS w)).get? s.heap.objs.size = some (eS w) := Heap.get?_push_size _ rfl
  have e1 : (s.heap.push (eS w)).objs.size = s.heap.objs.size + 1 := Heap.size_push ..
  refine codeAny_call_builtin F.called_set.init.plain F.entry_set_init (check_set_init_1 (⟨_, e0, rfl⟩ : Shared.TypeIs { s with heap := s.heap.push (eS w) } (.ref s.heap.objs.size) "set") ?_)
  obtain ⟨⟨oc, od, oo, os⟩, ho, hoc, ov, hod⟩ := gl
  cases hoc
  cases hod
  have l0 : l < s.heap.objs.size := Heap.lt_size ho
  have q1 : (s.heap.push (eS w)).get? l = some { cls := .type "list", dict := od, data := .seq xs ov, slots := os } := Heap.get?_push_of_some _ ho
  have q2 : (s.heap.push (eS w)).IsList l xs := ⟨_, q1, rfl, ov, rfl⟩
  have q3 := F.sub_list_set
  have q4 := F.sub_list_frozenset
  have q5 : (Value.type "list" == Value.type "dict") = false := by decide
  unfold Builtin.«set.__init__» noKeywords Builtin.Frozenset.updateFrom
  generalize hPI : pyIter = PI
  wp_walk
  subst hPI
  refine wpAny_pyIter_list q2 (wpAny_bind (wpAny_runValue ?_))
  have n1 : l ≠ (s.heap.push (eS w)).objs.size := Nat.ne_of_lt (by rw [e1]; exact Nat.lt_succ_of_lt l0)
  have n2 : s.heap.objs.size ∉ [(s.heap.push (eS w)).objs.size, l] := fun z => by
    rcases List.mem_cons.mp z with z | z
    · exact Nat.ne_of_lt (Nat.lt_succ_self _) (z.trans e1)
    · exact Nat.ne_of_gt l0 (List.mem_singleton.mp z)
  refine set_update_ints ((Walks.list (by simp [g0]) _ l n1 xs).toS) s.heap.objs.size n2 ns gn gb (fun i v hv => ?_) (xs.size - 0) 0 _ (by omega) (Nat.zero_le _) ⟨⟨_, Heap.get?_push_size _ rfl, rfl, rfl⟩, q2.push _⟩ ⟨0, Nat.le_refl 0, setR_new_at (Heap.get?_push_of_some _ e0)⟩ ?_
  · have hi : i < ns.length := gn ▸ (Array.getElem?_eq_some_iff.mp hv).1
    obtain ⟨t, e⟩ := PyProof.Rows.IntsAre.int_at gi i v (by rw [Array.getElem?_toList]; exact hv)
    refine ⟨ns[i], t, List.getElem?_eq_getElem hi, e.trans ?_⟩
    rw [List.getD_eq_getElem?_getD, List.getElem?_eq_getElem hi]
    rfl
  · rintro ⟨h1, a1, a2, k1, a3⟩ c hm hc hS
    cases (show a1 = s.gens from hm.gens)
    cases (show a2 = s.drawn from hm.drawn)
    cases (show a3 = s.os from hm.os)
    refine wpAny_pure (?_ : wpAny _ _ (ret Value.none) _ _ _)
    refine wpAny_pure ⟨rfl, h1, k1, rfl, c, hS, gn ▸ hc, fun b o e => ?_⟩
    have b0 : b < s.heap.objs.size := Heap.lt_size e
    refine hm.heap b o (fun z => ?_) (Heap.get?_push_of_some _ (Heap.get?_push_of_some _ e))
    rcases List.mem_cons.mp z with z | z
    · exact Nat.ne_of_lt b0 z
    · exact Nat.ne_of_lt (Nat.lt_succ_of_lt b0) ((List.mem_singleton.mp z).trans e1)
theorem call_set_lst {p : Addr} {xs : Array Value} (ns : List Int) {Q : Value → Shared → Prop} (g0 : A.handled = none) (gl : s.heap.IsList p xs) (gi : IntsAre xs.toList ns) (gb : ns.length + 1 < scanBound)
    (q : ∀ h1 k1, MadeS w s.heap ns h1 → Q (.ref s.heap.objs.size) { s with heap := h1, toks := k1 }) : wpAny (model P w) A (call (.type "set") [.ref p]) Q E s := by
  obtain ⟨c, tl, x1⟩ := F.called_set.mro
  have x2 := F.called_set.made
  have x3 := F.called_set.sub
  refine wpAny_call (codeAny_of_tree (show wpAny _ _ (callAny (.type "set") _) _ _ _ from wpAny_pure ⟨Code.quiet_builtin _ (by decide +kernel), codeAny_builtin F.entry_type_call ?_⟩))
  rw [Around.under_plain (weight_type_call_type "set" [.ref p] []) rfl]
  have x4 := F.called_set.notType
  have x5 := F.called_set.canCreate
  have x6 := F.typeCall_set_1 (.ref p)
  (repeat (any_goals (first | assumption | wp_step)))
  refine codeAny_mono (code_set_led1 (.ref p) (E := E) (Q₁ := fun o s1 => o = .ref s.heap.objs.size ∧ s1 = { s with heap := s.heap.push (eS w) }) ⟨rfl, rfl⟩) fun r s1 hr => ?_
  match r, hr with
  | .error _, hr => exact hr
  | .ok (.ret o), hr =>
    obtain ⟨rfl, rfl⟩ := hr
    have y1 := F.called_set.init.lookup
    have y2 := F.called_set.init.bind (.ref s.heap.objs.size)
    have y3 : Shared.TypeIs { s with heap := s.heap.push (eS w) } (.ref s.heap.objs.size) "set" := ⟨_, Heap.get?_push_size _ rfl, rfl⟩
    (repeat (any_goals (first | assumption | wp_step)))
    refine codeAny_mono (init_lst (E := E) ns (by simp [g0]) gl gi gb) fun r2 s2 h2 => ?_
    match r2, h2 with
    | .error _, h2 => exact h2
    | .ok (.ret o2), h2 =>
      obtain ⟨rfl, h1, k1, rfl, hm⟩ := h2
      (repeat (any_goals (first | assumption | wp_step)))
      exact q _ _ hm
    | .ok .next, h2 => exact h2.elim
    | .ok .brk, h2 => exact h2.elim
    | .ok .cont, h2 => exact h2.elim
  | .ok .next, hr => exact hr.elim
  | .ok .brk, hr => exact hr.elim
  | .ok .cont, hr => exact hr.elim
end
/-- set(xs), a list of few ints -/
def rSetOfI (K : PySem.W.Frag) (w : World) : List V → Hp → VK → Prop := fun vs H Q => ∃ (a : Addr) (ns : List Int), vs = [V.ref a] ∧ SqL K H a (ns.map V.int) ∧ ns.length < 60 ∧
  ∀ (p : Addr) (c : Nat), H p = none → c ≤ ns.length → Q (.ref p) (upd H p (SetO w p (fun j => decide (j ∈ ns)) c))
/-- sorted(set(xs)), a list of few ints: two new objects -/
def rSortSet (K : PySem.W.Frag) : List V → Hp → VK → Prop := fun vs H Q => ∃ (a : Addr) (ns : List Int), vs = [V.ref a] ∧ SqL K H a (ns.map V.int) ∧ ns.length < 60 ∧
  ∀ (p p2 : Addr) (o : HO) (ks : List Int), H p = none → upd H p o p2 = none → ks.Pairwise (· < ·) → (∀ k, k ∈ ks ↔ k ∈ ns) → Q (.ref p2) (upd (upd H p o) p2 (.lst (ks.map V.int)))
section
variable {X : Cx}
theorem cr_setOfI (hc : X.calm = true) : CallR X (.type "set") (rSetOfI X.K X.w) := by
  rintro pins s σ H vs us Q I r ⟨a, ns, rfl, hs, hb, q⟩
  obtain ⟨its, rv, hl, _⟩ := I.list hs
  rw [Vals.ref1 r]
  refine call_set_lst ns (I.ok.hd hc) hl.isList rv.ints (Nat.lt_of_lt_of_le (Nat.succ_lt_succ hb) (show 61 ≤ scanBound by decide)) fun h1 k1 ⟨c, hS, hl2, hk⟩ => ?_
  exact ⟨.ref _, upd H s.heap.objs.size (SetO X.w s.heap.objs.size (fun j => decide (j ∈ ns)) c), I.laid (t' := k1) hk (Nat.le_refl _) (setO_new hS), rfl, q _ c (I.hok.fresh (Nat.le_refl _)) hl2⟩
/-- te, whose post may be made weaker -/
theorem pe_weak {e : Expr} {te : TE} (he : PE X e te) (Q0 : VK) : PE X e (fun σ H Q => te σ H Q0 ∧ ∀ x H1, Q0 x H1 → Q x H1) :=
  ⟨fun pins s σ H Q I ⟨h1, h2⟩ => thn (he.run pins s σ H Q0 I h1) fun u s1 ⟨x, H1, I1, r, q⟩ => ⟨x, H1, I1, r, h2 x H1 q⟩⟩
theorem pe_sortSet {e : Expr} {te : TE} {p p2 q pos : Pos} (hc : X.calm = true) (hg : Gl X "sorted") (hm : X.mg "sorted" = none) (hg2 : Gl X "set") (hm2 : X.mg "set" = none) (he : PE X e te)
    (n1 : starEach [e] X.env = (false, eval e X.env) :: starEach [] X.env := by rfl) : PE X (.Call (.Name "sorted" p) [.Call (.Name "set" p2) [e] [] q] [] pos) (tCB (rSortSet X.K) (tCons te tNil)) := ⟨fun pins s σ H Q I h => by
  have hset : PE X (.Call (.Name "set" p2) [e] [] q) _ := pe_callTy (cr_setOfI hc) hg2 hm2 (by decide +kernel) (pa_cons (pe_weak he (fun x H1 => rSortSet X.K [x] H1 Q)) pa_nil (hs := n1)) (he := n1)
  have hso : PE X (.Call (.Name "sorted" p) [.Call (.Name "set" p2) [e] [] q] [] pos) _ := pe_callB (cr_sortedSet hc) hg hm (by decide +kernel) (pa_cons hset pa_nil)
  exact hso.run pins s σ H Q I ⟨h, fun x H1 ⟨a, ns, ex, hs, hb, q⟩ => ⟨a, ns, ex, hs, hb, fun p c hp hcl => ⟨p, _, c, rfl, upd_same, by omega, fun ks p2 h1 h2 _ hp2 => q p p2 _ ks hp hp2 h1 fun k => (h2 k).trans (by simp)⟩⟩⟩⟩
end
end L2
namespace Pd
open PySem PySem.Spec L2
open Evl (Ex)
open PyProof.Rows
theorem c_sortSet {K : PySem.W.Frag} {μ : Mu} {R : W → Mu → Prop} {x : W} {ns : List Int} (hx : LW μ x (wInts ns)) (hb : ns.length < 60) (q : ∀ ks : List Int, ks.Pairwise (· < ·) → (∀ k, k ∈ ks ↔ k ∈ ns) → NL (wInts ks) μ R) : AC K (rSortSet K) [x] μ R := fun A M H vs mo rs Q h => by
  cases rs with
  | cons rw rn =>
    cases rn
    obtain ⟨a, us, rfl, hs, ru⟩ := hx.get mo rw
    rw [vrs_int ru] at hs
    refine ⟨a, ns, rfl, hs, hb, fun p p2 o ks hp hp2 h1 h2 => ?_⟩
    have mo1 := mo.ex (Ex.new (o := o) hp)
    have rv : VRs K (vw A M μ (upd H p o)) M (ks.map V.int) (wInts ks) := by
      clear h1 h2
      induction ks with
      | nil => exact .nil
      | cons n ks ih => exact .cons (.d (.int n)) ih
    obtain ⟨M2, μ2, w, m2, e2, r2, hR⟩ := (q ks h1 h2).use mo1 rv hp2
    exact h M2 _ _ w μ2 m2 ((Eff.of_ex (Ex.new hp)).trans e2) r2 hR
end Pd

/-! Pd18: sorted of tuples of two whose firsts are different ints. -/
namespace SrtO
open PySem PyProof.Rows Srt
section
variable {prog : Program} {w : World} {A : Around} {E : Value → Shared → Prop} {s : Shared}
def IsFst (h : Heap) (v : Value) (x : Int) : Prop := ∃ a o t u n, v = .ref a ∧ h.get? a = some o ∧ o.cls = .type "tuple" ∧ o.data = .seq #[.int x t, u] n
theorem IsFst.keeps {h h' : Heap} {v : Value} {x : Int} (p : IsFst h v x) (k : ∀ b o, h.get? b = some o → o.cls = .type "tuple" → h'.get? b = some o) : IsFst h' v x :=
  let ⟨a, o, t, u, n, e, ho, hc, hd⟩ := p
  ⟨a, o, t, u, n, e, k a o ho hc, hc, hd⟩
def ltF (k : Value → Int) (v u : Value) : Bool := decide (k v < k u)
theorem swo_F (k : Value → Int) : Swo (ltF k) :=
  ⟨fun x y h => decide_eq_false (p := k y < k x) (by have := of_decide_eq_true (p := k x < k y) h; omega),
   fun x y z h1 h2 => decide_eq_false (p := k z < k x) (by have := of_decide_eq_false (p := k y < k x) h1; have := of_decide_eq_false (p := k z < k y) h2; omega)⟩
theorem fst_cmp {vs : List Value} {k : Value → Int} (hp : ∀ v ∈ vs, IsFst s.heap v (k v)) (hi : ∀ v ∈ vs, ∀ u ∈ vs, k v = k u → v = u) : Cmp prog w A s (tuples' true) (fun p => p.1 ∈ vs) (lt2 (ltF k)) := fun p q m1 m2 => by
  have i := hi _ m1 _ m2
  obtain ⟨a, o, t, u, n, e, ho, hc, hd⟩ := hp _ m1
  obtain ⟨b, o2, t2, u2, n2, e2, ho2, hc2, hd2⟩ := hp _ m2
  refine (?_ : wpAny (model prog w) A (keyLt' (tuples' true) p.1 q.1) (fun r s' => s' = s ∧ r = decide (k p.1 < k q.1)) (fun _ _ => False) s)
  generalize k p.1 = x at *
  generalize k q.1 = y at *
  rw [e, e2]
  refine PySem.W.kat_lt ho hd ho2 hd2 (?_ : PySem.W.KatLex prog w A true (decide (2 < 2)) _ [(.int x t, .int y t2), (u, u2)] 0 s)
  refine PySem.W.kat_cons (SeqAt.EqAt.int_int x t y t2 prog w _ _ (PySem.W.kat_go (fun h => ?_) fun h => ?_))
  · have hx : x = y := by simpa using h
    have ev := i hx
    rw [e, e2] at ev
    cases ev
    rw [ho] at ho2
    cases ho2
    rw [hd] at hd2
    cases hd2
    refine PySem.W.kat_yes (PySem.W.kat_cons (SeqAt.EqAt.same u prog w _ _ (PySem.W.kat_go (fun _ => PySem.W.kat_yes (PySem.W.kat_nil ⟨rfl, ?_⟩)) fun z => by cases z)))
    exact (decide_eq_false (by omega)).symm
  · exact PySem.W.kat_no (oneLt_int ⟨rfl, rfl⟩)
theorem fsts_of {h : Heap} : ∀ {vs : List Value}, (∀ v ∈ vs, ∃ x, IsFst h v x) → ∃ fs : List Value, PySem.W.KatTups h vs fs ∧ fs.length = vs.length ∧ ∀ f ∈ fs, ∃ x t, f = Value.int x t
  | [], _ => ⟨[], .nil, rfl, fun _ m => (by simp at m)⟩
  | v :: vs, hp => by
    obtain ⟨fs, g1, g2, g3⟩ := fsts_of (vs := vs) fun u m => hp u (.tail _ m)
    obtain ⟨x, a, o, t, u, n, rfl, ho, hc, hd⟩ := hp v (.head _)
    refine ⟨.int x t :: fs, PySem.W.KatTups.cons ho hc hd rfl g1, congrArg (· + 1) g2, fun f m => ?_⟩
    rcases List.mem_cons.mp m with e | m
    · exact ⟨x, t, e⟩
    · exact g3 f m
theorem fst_sortable {a : Addr} {vs : List Value} {k : Value → Int} (h0 : 0 < vs.length) (hp : ∀ v ∈ vs, IsFst s.heap v (k v)) (hi : ∀ v ∈ vs, ∀ u ∈ vs, k v = k u → v = u) (ha : ∀ o, s.heap.get? a = some o → o.cls ≠ .type "tuple") : SortableO prog w A s a vs (ltF k) := fun h' keep => by
  have hp' : ∀ v ∈ vs, IsFst h' v (k v) := fun v m => (hp v m).keeps fun b o e c => keep b o (fun z => ha o (z ▸ e) c) e
  obtain ⟨fs, h1, h2, h3⟩ := fsts_of fun v m => ⟨_, hp' v m⟩
  refine ⟨tuples' true, fun Q E hq => PySem.W.kat_kind (T := .type "int") h1 (by omega) (fun f m => ?_) (by rfl) ?_, fst_cmp hp' hi⟩
  · obtain ⟨x, t, rfl⟩ := h3 f m
    exact PySem.W.Looks.now
  · rw [show (Value.type "int" != Value.type "tuple") = true from by decide +kernel]
    exact hq
theorem sorted_fst {l : Addr} {vs : List Value} {k : Value → Int} {Q : Value → Shared → Prop} (hl : s.heap.IsList l vs.toArray) (hz : vs.length ≤ sizeLine) (hp : ∀ v ∈ vs, IsFst s.heap v (k v)) (hi : ∀ v ∈ vs, ∀ u ∈ vs, k v = k u → v = u)
    (h : ∀ out : List Value, out.Perm vs → out.Pairwise (fun v u => k v ≤ k u) → Q (.ref (s.heap.objs.size + 1)) { s with heap := sortedAll s.heap vs out.toArray }) : wpAny (model prog w) A (call (.builtin "sorted") [.ref l]) Q E s :=
  sorted_ord (swo_F k) hl hz (fun h2 h₁ a ha kk => fst_sortable (s := { s with heap := h₁ }) (by omega) (fun v m => (hp v m).keeps fun b o e _ => (kk b o e).2) hi fun o e c => by
    have e' := e.symm.trans ha
    cases e'
    exact absurd (Value.type.inj c) (by decide)) fun out hs hb => h out hb.perm (hs.imp fun {x y} z => Int.not_lt.mp (of_decide_eq_false (p := k y < k x) z))
end
end SrtO
namespace L2
open PySem PySem.Spec PyProof.Rows
/-- sorted(xs), xs a list of tuples of two, told with their firsts, which are different ints -/
def rSortedF (K : PySem.W.Frag) : List V → Hp → VK → Prop := fun vs H Q => ∃ (a : Addr) (xs : List (V × Int)), vs = [V.ref a] ∧ SqL K H a (xs.map (·.1)) ∧ (∀ p ∈ xs, ∃ t y, p.1 = V.ref t ∧ SqT K H t [.int p.2, y]) ∧ (∀ p ∈ xs, ∀ q ∈ xs, p.2 = q.2 → p = q) ∧
  ∀ (zs : List (V × Int)) (p : Addr), zs.Perm xs → zs.Pairwise (fun u v => u.2 ≤ v.2) → H p = none → Q (.ref p) (upd H p (.lst (zs.map (·.1))))
/-- the first of the tuple that stands there -/
def fstAt (h : Heap) (v : Value) : Int := match v with
  | .ref a => (match h.get? a with
    | some o => (match o.data with
      | .seq arr _ => (match (arr[0]? : Option Value) with
        | some (Value.int x _) => x
        | _ => 0)
      | _ => 0)
    | none => 0)
  | _ => 0
theorem fstAt_of {h : Heap} {v : Value} {x : Int} (p : SrtO.IsFst h v x) : fstAt h v = x := by
  obtain ⟨a, o, t, u, n, rfl, ho, hc, hd⟩ := p
  simp [fstAt, ho, hd]
theorem zip_back {k : Value → Int} : ∀ {its : List Value} {xs : List (V × Int)}, xs.map (·.1) = its.map backV → (∀ v ∈ its, ∀ p ∈ xs, p.1 = backV v → k v = p.2) → its.map (fun v => (backV v, k v)) = xs
  | [], [], _, _ => rfl
  | v :: its, p :: xs, e, h => by
    rw [List.map_cons, List.map_cons] at e
    obtain ⟨e1, e2⟩ := List.cons.inj e
    rw [List.map_cons, zip_back e2 fun u m q mq => h u (.tail _ m) q (.tail _ mq), ← e1, h v (.head _) p (.head _) e1]
  | [], _ :: _, e, _ => by cases e
  | _ :: _, [], e, _ => by cases e
section
variable {X : Cx}
theorem cr_sortedF : CallR X (.builtin "sorted") (rSortedF X.K) := by
  rintro pins s σ H vs us Q I r ⟨a, xs, rfl, hs, hx, hi, q⟩
  obtain ⟨its, rv, hl, hz⟩ := I.list hs
  rw [Vals.ref1 r]
  have hfst : ∀ p ∈ xs, ∃ t, p.1 = V.ref t ∧ SrtO.IsFst s.heap (.ref t) p.2 := fun p hp => by
    obtain ⟨t, y, e, ht⟩ := hx p hp
    obtain ⟨its2, r2, pt, _⟩ := I.tuple ht
    obtain ⟨u1, u2, rfl, ⟨t1, rfl⟩, _⟩ := vals2 r2
    obtain ⟨o, ho, hc, n, hd⟩ := pt
    exact ⟨t, e, t, o, t1, u2, n, rfl, ho, hc, hd⟩
  obtain ⟨e1, e2⟩ := refs_back rv fun x m => by
    obtain ⟨p, hp, rfl⟩ := List.mem_map.mp m
    obtain ⟨t, e, _⟩ := hfst p hp
    exact ⟨t, e⟩
  have same : ∀ v ∈ its, ∀ p ∈ xs, p.1 = backV v → SrtO.IsFst s.heap v p.2 := fun v m p hp e => by
    obtain ⟨b, rfl⟩ := e2 v m
    obtain ⟨t, et, hf⟩ := hfst p hp
    rw [et] at e
    have : t = b := by simpa [backV] using e
    rw [← this]
    exact hf
  have some' : ∀ v ∈ its, ∃ p ∈ xs, p.1 = backV v := fun v m => by
    have : backV v ∈ xs.map (·.1) := by rw [e1]; exact List.mem_map.mpr ⟨v, m, rfl⟩
    obtain ⟨p, hp, e⟩ := List.mem_map.mp this
    exact ⟨p, hp, e⟩
  refine SrtO.sorted_fst (k := fstAt s.heap) hl.isList (by rw [← rv.length]; exact hz) (fun v m => ?_) (fun v m u mu e => ?_) fun out pm pw => ?_
  · obtain ⟨p, hp, e⟩ := some' v m
    have f := same v m p hp e
    rw [fstAt_of f]
    exact f
  · obtain ⟨p, hp, ep⟩ := some' v m
    obtain ⟨p2, hp2, ep2⟩ := some' u mu
    rw [fstAt_of (same v m p hp ep), fstAt_of (same u mu p2 hp2 ep2)] at e
    have z := hi p hp p2 hp2 e
    obtain ⟨b, rfl⟩ := e2 v m
    obtain ⟨b2, rfl⟩ := e2 u mu
    have z2 : backV (.ref b) = backV (.ref b2) := by rw [← ep, ← ep2, z]
    have z3 : b = b2 := by simpa [backV] using z2
    rw [z3]
  · have h3 : ∀ u ∈ out, ∃ a, u = Value.ref a := fun u hu => e2 u (pm.mem_iff.mp hu)
    obtain ⟨c, hc⟩ := PyProof.Rows.sortedAll_at s.heap its out.toArray
    have hzs : (out.map fun v => (backV v, fstAt s.heap v)).Perm xs := by
      have z := pm.map fun v => (backV v, fstAt s.heap v)
      rw [zip_back e1 fun v m p hp e => fstAt_of (same v m p hp e)] at z
      exact z
    have hq := q _ (s.heap.objs.size + 1) hzs (List.pairwise_map.mpr pw) (I.hok.fresh (Nat.le_succ _))
    rw [List.map_map] at hq
    refine ⟨.ref _, upd H (s.heap.objs.size + 1) (.lst (out.map backV)), I.laid (t' := s.toks) (fun _ _ => PyProof.Rows.sortedAll_old) (Nat.le_succ _) ⟨?_, out, c, vals_back h3, hc⟩, rfl, hq⟩
    rw [List.length_map, pm.length_eq, ← rv.length]
    exact hz
end
end L2
namespace Pd
open PySem PySem.Spec L2
open Evl (Ex)
open PyProof.Rows
theorem perm_lift {α β : Type} (g : α → β) {l k : List β} (h : l.Perm k) : ∀ m : List α, k = m.map g → ∃ m' : List α, m'.Perm m ∧ l = m'.map g := by
  induction h with
  | nil => exact fun m e => ⟨m, .refl _, e⟩
  | cons x _ ih =>
    intro m e
    cases m with
    | nil => cases e
    | cons a m =>
      rw [List.map_cons] at e
      obtain ⟨e1, e2⟩ := List.cons.inj e
      obtain ⟨m', p, e'⟩ := ih m e2
      exact ⟨a :: m', p.cons a, by rw [List.map_cons, e1, e']⟩
  | swap x y l =>
    intro m e
    match m, e with
    | a :: b :: m, e =>
      rw [List.map_cons, List.map_cons] at e
      obtain ⟨e1, e2⟩ := List.cons.inj e
      obtain ⟨e2, e3⟩ := List.cons.inj e2
      exact ⟨b :: a :: m, .swap _ _ _, by rw [List.map_cons, List.map_cons, e1, e2, e3]⟩
    | [], e => cases e
    | [a], e => cases e
  | trans _ _ ih1 ih2 =>
    intro m e
    obtain ⟨m2, p2, e2⟩ := ih2 m e
    obtain ⟨m1, p1, e1⟩ := ih1 m2 e2
    exact ⟨m1, p1.trans p2, e1⟩
theorem nodup_inj {α β : Type} (f : α → β) : ∀ {l : List α}, (l.map f).Nodup → ∀ x ∈ l, ∀ y ∈ l, f x = f y → x = y
  | [], _, _, h, _, _, _ => by cases h
  | a :: l, hn, x, hx, y, hy, e => by
    rw [List.map_cons, List.nodup_cons] at hn
    rcases List.mem_cons.mp hx with ea | hx2 <;> rcases List.mem_cons.mp hy with eb | hy2
    · rw [ea, eb]
    · exact absurd (List.mem_map.mpr ⟨y, hy2, by rw [← e, ea]⟩) hn.1
    · exact absurd (List.mem_map.mpr ⟨x, hx2, by rw [e, eb]⟩) hn.1
    · exact nodup_inj f hn.2 x hx2 y hy2 e
def tupW (p : Int × PyData) : W := .d (.tuple [.int p.1, p.2])
section
variable {K : PySem.W.Frag} {A : Addr → Prop} {M : List Addr} {H : Hp} {μ : Mu} {R : W → Mu → Prop}
theorem vrs_zip {Hv : Hp} : ∀ {us : List V} {ps : List (Int × PyData)}, VRs K Hv M us (ps.map tupW) → (us.zip ps).map (·.1) = us ∧ (us.zip ps).map (·.2) = ps ∧ ∀ t ∈ us.zip ps, VR K Hv M t.1 (tupW t.2)
  | [], [], _ => ⟨rfl, rfl, fun t h => by cases h⟩
  | [], _ :: _, h => by cases h
  | _ :: _, [], h => by cases h
  | u :: us, p :: ps, h => by
    cases h with
    | cons h1 h2 =>
      obtain ⟨a, b, c⟩ := vrs_zip h2
      refine ⟨?_, ?_, fun t ht => ?_⟩
      · rw [List.zip_cons_cons, List.map_cons, a]
      · rw [List.zip_cons_cons, List.map_cons, b]
      · rcases List.mem_cons.mp ht with rfl | ht
        · exact h1
        · exact c t ht
theorem vrs_of {Hv : Hp} : ∀ {T : List (V × (Int × PyData))}, (∀ t ∈ T, VR K Hv M t.1 (tupW t.2)) → VRs K Hv M (T.map (·.1)) (T.map fun t => tupW t.2)
  | [], _ => .nil
  | t :: T, h => .cons (h t (.head _)) (vrs_of fun u m => h u (.tail _ m))
theorem c_sortedF {x : W} {ps : List (Int × PyData)} (hx : LW μ x (ps.map tupW)) (hn : (ps.map (·.1)).Nodup) (q : ∀ zs : List (Int × PyData), zs.Perm ps → zs.Pairwise (fun u v => u.1 ≤ v.1) → NL (zs.map tupW) μ R) : AC K (rSortedF K) [x] μ R := fun A M H vs mo rs Q h => by
  cases rs with
  | cons rw' rn =>
    cases rn
    obtain ⟨a, us, rfl, hs, ru⟩ := hx.get mo rw'
    obtain ⟨t1, t2, t3⟩ := vrs_zip ru
    generalize us.zip ps = T at t1 t2 t3
    subst t1 t2
    refine ⟨a, T.map fun t => (t.1, t.2.1), rfl, ?_, fun p hp => ?_, fun p hp p2 hp2 e => ?_, fun zs p h1 h2 hp => ?_⟩
    · rw [List.map_map]
      exact hs
    · obtain ⟨t, ht, rfl⟩ := List.mem_map.mp hp
      have r := t3 t ht
      generalize t.1 = v at r
      unfold tupW at r
      cases r with
      | d r =>
        cases r with
        | tup r1 r2 =>
          cases r2 with
          | cons ra rb =>
            cases rb with
            | cons rc rd =>
              cases rd
              cases ra
              exact ⟨_, _, rfl, Evl.ex_t vw_le r1⟩
    · obtain ⟨t, ht, rfl⟩ := List.mem_map.mp hp
      obtain ⟨u, hu, rfl⟩ := List.mem_map.mp hp2
      rw [List.map_map] at hn
      rw [nodup_inj _ hn t ht u hu e]
    · obtain ⟨T2, pT, rfl⟩ := perm_lift _ h1 T rfl
      have rv := vrs_of (K := K) (Hv := vw A M μ H) (M := M) (T := T2) fun t ht => t3 t (pT.mem_iff.mp ht)
      have hq := q (T2.map (·.2)) (pT.map _) (by rw [List.pairwise_map] at h2 ⊢; exact h2)
      rw [List.map_map] at hq ⊢
      obtain ⟨M2, μ2, w, m2, e2, r2, hR⟩ := hq.use mo rv hp
      exact h M2 _ _ w μ2 m2 e2 r2 hR
end
end Pd

/-! Pd19: x in a list or tuple of ints or strs; dict steps with int keys. -/
namespace Pd
open PySem PySem.Spec PyProof.Rows L2
open Evl (Ex)
section
variable {K : PySem.W.Frag} {μ : Mu} {R : W → Mu → Prop}
theorem rng_split {n : Nat} {pre post : List Nat} {x : Nat} (h : List.range n = pre ++ x :: post) : x = pre.length ∧ x < n := by
  have e : (List.range n)[pre.length]? = some x := by rw [h]; simp
  have hl : pre.length < n := by
    have := (List.getElem?_eq_some_iff.mp e).1
    simpa using this
  rw [List.getElem?_range hl] at e
  have := Option.some.inj e
  omega
theorem inV_ints (x : Int) (ns : List Int) : inV (.int x) (ns.map V.int) = decide (x ∈ ns) := by
  unfold inV
  rw [List.any_map, Bool.eq_iff_iff, List.any_eq_true, decide_eq_true_iff]
  constructor
  · rintro ⟨y, hy, e⟩
    have : y = x := by simpa [eqV] using e
    subst this
    exact hy
  · intro h
    exact ⟨x, h, by simp [eqV]⟩
theorem inV_strs (x : Str) (ns : List Str) : inV (.str x) (ns.map V.str) = decide (x ∈ ns) := by
  unfold inV
  rw [List.any_map, Bool.eq_iff_iff, List.any_eq_true, decide_eq_true_iff]
  constructor
  · rintro ⟨y, hy, e⟩
    have : y = x := by simpa [eqV] using e
    subst this
    exact hy
  · intro h
    exact ⟨x, h, by simp [eqV]⟩
theorem flat_ints (ns : List Int) : (ns.map V.int).all flatV = true := by simp [List.all_map, flatV]
theorem flat_strs (ns : List Str) : (ns.map V.str).all flatV = true := by simp [List.all_map, flatV]
abbrev wStrs (ns : List Str) : List W := ns.map fun n => W.d (.str n)
theorem vrs_str : ∀ {vs : List V} {ns : List Str} {Hv : Hp} {M : List Addr}, VRs K Hv M vs (wStrs ns) → vs = ns.map V.str
  | _, [], _, _, h => by cases h; rfl
  | _, n :: ns, _, _, h => by
    cases h with
    | cons r t => rw [vr_str r, vrs_str t]; rfl
theorem o_inL {x : Int} {y : W} {ns : List Int} {neg : Bool} (hy : LW μ y (wInts ns)) (q : R (.d (.bool (if neg then !decide (x ∈ ns) else decide (x ∈ ns)))) μ) : AO K (rInU K neg) (.d (.int x)) y μ R := ao_l fun A M H v u mo rv ru Q h => by
  obtain ⟨a, vs, rfl, hs, rs⟩ := hy.get mo ru
  rw [vr_int rv]
  have e := vrs_int rs
  subst e
  exact ⟨a, _, rfl, .inl hs, rfl, flat_ints ns, by rw [inV_ints]; exact h M H _ _ μ mo Eff.refl (.d (.bl _)) q⟩
theorem o_inT {x : Int} {y : W} {ns : List Int} {neg : Bool} (hy : TW y (wInts ns)) (q : R (.d (.bool (if neg then !decide (x ∈ ns) else decide (x ∈ ns)))) μ) : AO K (rInU K neg) (.d (.int x)) y μ R := ao_l fun A M H v u mo rv ru Q h => by
  obtain ⟨a, vs, rfl, hs, rs⟩ := hy.get ru
  rw [vr_int rv]
  have e := vrs_int rs
  subst e
  exact ⟨a, _, rfl, .inr (Evl.ex_t vw_le hs), rfl, flat_ints ns, by rw [inV_ints]; exact h M H _ _ μ mo Eff.refl (.d (.bl _)) q⟩
theorem o_inLS {x : Str} {y : W} {ns : List Str} {neg : Bool} (hy : LW μ y (wStrs ns)) (q : R (.d (.bool (if neg then !decide (x ∈ ns) else decide (x ∈ ns)))) μ) : AO K (rInU K neg) (.d (.str x)) y μ R := ao_l fun A M H v u mo rv ru Q h => by
  obtain ⟨a, vs, rfl, hs, rs⟩ := hy.get mo ru
  rw [vr_str rv]
  have e := vrs_str rs
  subst e
  exact ⟨a, _, rfl, .inl hs, rfl, flat_strs ns, by rw [inV_strs]; exact h M H _ _ μ mo Eff.refl (.d (.bl _)) q⟩
theorem o_inTS {x : Str} {y : W} {ns : List Str} {neg : Bool} (hy : TW y (wStrs ns)) (q : R (.d (.bool (if neg then !decide (x ∈ ns) else decide (x ∈ ns)))) μ) : AO K (rInU K neg) (.d (.str x)) y μ R := ao_l fun A M H v u mo rv ru Q h => by
  obtain ⟨a, vs, rfl, hs, rs⟩ := hy.get ru
  rw [vr_str rv]
  have e := vrs_str rs
  subst e
  exact ⟨a, _, rfl, .inr (Evl.ex_t vw_le hs), rfl, flat_strs ns, by rw [inV_strs]; exact h M H _ _ μ mo Eff.refl (.d (.bl _)) q⟩
theorem gd_str {x : Str} (h : ∀ c ∈ x.cps.toList, c < 16 ^ 8) {n : Nat} (hn : x.cps.size + 1 ≤ n) : Gd (.str x) n 0 := ⟨h, hn, Nat.le_refl _⟩
theorem gd_intW {i : Int} (h : i.natAbs < 10 ^ 50) : Gd (.int i) 1 0 := ⟨h, Nat.le_refl _, Nat.le_refl _⟩
theorem gds_of {a b : Nat} : ∀ {xs : List PyData}, (∀ x ∈ xs, Gd x a b) → Gds xs (a * xs.length) b
  | [], _ => ⟨trivial, Nat.zero_le _, Nat.zero_le _⟩
  | x :: xs, h => by
    have h1 := Gds.cons (h x (by simp)) (gds_of fun y hy => h y (List.mem_cons_of_mem _ hy))
    refine ⟨h1.1, Nat.le_trans h1.2.1 ?_, Nat.le_trans h1.2.2 (by omega)⟩
    rw [List.length_cons, Nat.mul_succ]
    omega
theorem Gds.le {ys : List PyData} {a b c d : Nat} (h : Gds ys a b) (h1 : a ≤ c) (h2 : b ≤ d) : Gds ys c d := ⟨h.1, Nat.le_trans h.2.1 h1, Nat.le_trans h.2.2 h2⟩
theorem gds_le {a b n : Nat} {xs : List PyData} (h : ∀ x ∈ xs, Gd x a b) (hl : xs.length ≤ n) : Gds xs (a * n) b := (gds_of h).le (Nat.mul_le_mul_left a hl) (Nat.le_refl _)
theorem fz_potD {μ : Mu} {k n : Nat} {p : Option C} {xs : List PyData} (hp : PotOk n p) (q : R (.d (.list xs)) (μ.set k p)) : Fz μ (.m μ.length) (μ.set k p ++ [some (.lst (xs.map W.d))]) R :=
  ⟨_, [some (.lst (xs.map W.d))], .list xs, rfl, by simp, Keeps.pot hp, .m (Nat.le_refl _) mu_endS (Rns.ds xs), q⟩
theorem ne_self {α : Type} [DecidableEq α] {a : α} : (!decide (a = a)) = false := by simp
theorem eq_self' {α : Type} [DecidableEq α] {a : α} : decide (a = a) = true := by simp
theorem tw_ints (ns : List Int) : TW (.d (.tuple (ns.map PyData.int))) (wInts ns) := by
  rw [ints_d]
  exact .d _
theorem ntInts {ns : List Int} (q : R (.d (.tuple (ns.map PyData.int))) μ) : NT (wInts ns) μ R := NT.d (xs := ns.map PyData.int) q (ints_d ns)
end
theorem o_dinI {K : PySem.W.Frag} {μ : Mu} {R : W → Mu → Prop} {k : Nat} {kvs : List (Key × W)} {y : Int} (hk : DkAt μ k kvs) (q : R (.d (.bool (getW kvs (.inl y)).isSome)) μ) : AO K rDIn (.d (.int y)) (.m k) μ R := o_din (y := .inl y) hk q
theorem o_dnotinI {K : PySem.W.Frag} {μ : Mu} {R : W → Mu → Prop} {k : Nat} {kvs : List (Key × W)} {y : Int} (hk : DkAt μ k kvs) (q : R (.d (.bool (!(getW kvs (.inl y)).isSome))) μ) : AO K rDNotIn (.d (.int y)) (.m k) μ R := o_dnotin (y := .inl y) hk q
theorem o_dgetI {K : PySem.W.Frag} {μ : Mu} {R : W → Mu → Prop} {k : Nat} {kvs : List (Key × W)} {y : Int} {w : W} (hk : DkAt μ k kvs) (hw : getW kvs (.inl y) = some w) (q : R w μ) : AO K rDGet (.m k) (.d (.int y)) μ R := o_dget (y := .inl y) hk hw q
/-- the dict whose keys are ints and whose values are data -/
def kvD {D : Type} (f : D → PyData) (l : List (Int × D)) : List (Key × W) := l.map fun e => (.inl e.1, .d (f e.2))
theorem get_kvD {D : Type} (f : D → PyData) (l : List (Int × D)) (k : Int) : getW (kvD f l) (.inl k) = ((l.find? fun e => decide (e.1 = k)).map (·.2)).map fun d => W.d (f d) := by
  unfold getW kvD
  rw [List.find?_map]
  have : ((fun kv : Key × W => decide (kv.1 = Sum.inl k)) ∘ fun e : Int × D => (Sum.inl e.1, W.d (f e.2))) = fun e : Int × D => decide (e.1 = k) := funext fun e => by simp
  rw [this]
  cases l.find? fun e => decide (e.1 = k) <;> rfl
theorem drop_kvD {D : Type} (f : D → PyData) (l : List (Int × D)) (k : Int) : dropW (kvD f l) (.inl k) = kvD f (l.filter fun e => decide (e.1 ≠ k)) := by
  unfold dropW kvD
  rw [List.filter_map]
  congr 1
  refine List.filter_congr fun e _ => ?_
  simp
theorem put_kvD {D : Type} (f : D → PyData) (l : List (Int × D)) (k : Int) (c : D) : putW (kvD f l) (.inl k) (.d (f c)) = kvD f (if (l.any fun e => decide (e.1 = k)) = true then l.map (fun e => if e.1 = k then (e.1, c) else e) else l ++ [(k, c)]) := by
  have h : ((kvD f l).any fun kv => decide (kv.1 = (Sum.inl k : Key))) = l.any fun e => decide (e.1 = k) := by
    unfold kvD
    rw [List.any_map]
    congr 1
    exact funext fun e => by simp
  unfold putW
  rw [h]
  split
  · unfold kvD
    rw [List.map_map, List.map_map]
    refine List.map_congr_left fun e _ => ?_
    show (if (Sum.inl e.1 : Key) = Sum.inl k then _ else _) = _
    by_cases z : e.1 = k
    · simp [z]
    · simp [z]
  · unfold kvD
    rw [List.map_append]
    rfl
end Pd

/-! Pd20: len(set(ints)), list(d.items()), d.get(k, z), tuple * int, list.insert, x in a list of data. -/
namespace L2
open PySem PySem.Spec PyProof.Rows
theorem step_dedup_mem (σ : List Int) (k x : Int) : x ∈ step_dedup σ k ↔ x ∈ σ ∨ x = k := by
  unfold step_dedup
  split
  · rename_i h
    obtain ⟨y, hy, e⟩ := List.any_eq_true.mp h
    have : y = k := by simpa using e
    subst this
    exact ⟨.inl, fun z => z.elim id fun z => z ▸ hy⟩
  · simp
theorem step_dedup_nodup {σ : List Int} (k : Int) (h : σ.Nodup) : (step_dedup σ k).Nodup := by
  unfold step_dedup
  split
  · exact h
  · rename_i hn
    rw [List.nodup_append]
    refine ⟨h, by simp, fun a ha b hb z => hn ?_⟩
    have : b = k := by simpa using hb
    subst this
    subst z
    exact List.any_eq_true.mpr ⟨a, ha, by simp⟩
theorem dedup_all : ∀ (ns σ : List Int), σ.Nodup → (ns.foldl step_dedup σ).Nodup ∧ ∀ x, x ∈ ns.foldl step_dedup σ ↔ x ∈ σ ∨ x ∈ ns
  | [], σ, h => ⟨h, fun x => by simp⟩
  | n :: ns, σ, h => by
    obtain ⟨h1, h2⟩ := dedup_all ns (step_dedup σ n) (step_dedup_nodup n h)
    refine ⟨h1, fun x => ?_⟩
    rw [List.foldl_cons, h2, step_dedup_mem, List.mem_cons]
    constructor
    · rintro ((a | a) | a)
      · exact .inl a
      · exact .inr (.inl a)
      · exact .inr (.inr a)
    · rintro (a | a | a)
      · exact .inl (.inl a)
      · exact .inl (.inr a)
      · exact .inr a
theorem firstMet_all (ns : List Int) : (firstMet (fun i => ns.getD i 0) ns.length).Nodup ∧ ∀ x, x ∈ firstMet (fun i => ns.getD i 0) ns.length ↔ x ∈ ns := by
  have e : (List.range ns.length).map (fun i => ns.getD i 0) = ns := by
    apply List.ext_getElem
    · simp
    · intro i h1 h2
      simp [List.getElem?_eq_getElem h2]
  unfold firstMet
  rw [e]
  obtain ⟨h1, h2⟩ := dedup_all ns [] List.nodup_nil
  exact ⟨h1, fun x => by rw [h2]; simp⟩
section
variable {X : Cx}
/-- len(set(xs)), xs ints -/
def tLenSetA (K : PySem.W.Frag) (ta : TE) : TE := fun σ H Q => ta σ H fun x H1 => ∃ (l : Addr) (ns : List Int), x = V.ref l ∧ SqL K H1 l (ns.map V.int) ∧ ns.length < 64 ∧ ∀ ds : List Int, ds.Nodup → (∀ y, y ∈ ds ↔ y ∈ ns) → Q (.int ds.length) H1
theorem pe_lenSetA {a : Expr} {ta : TE} {p p2 q pos : Pos} (hc : X.calm = true) (hg : Gl X "len") (hm : X.mg "len" = none) (hg2 : Gl X "set") (hm2 : X.mg "set" = none) (ha : PE X a ta)
    (na : starEach [a] X.env = (false, eval a X.env) :: starEach [] X.env := by rfl) : PE X (.Call (.Name "len" p) [.Call (.Name "set" p2) [a] [] q] [] pos) (tLenSetA X.K ta) := by
  refine ⟨fun pins s σ H Q I h => ?_⟩
  refine Call_ (ld_blt I hg hm PySem.boot_len ?_)
  refine PyProof.Rows.callWith_builtin1 (PyProof.Rows.args_cons ?_ rfl) rfl rfl
  refine Call_ (ld_blt I hg2 hm2 PyProof.Rows.boot_set ?_)
  refine PyProof.Rows.callWith_type1 (PyProof.Rows.args_cons (thn (ha.run pins s σ H _ I h) fun v s1 ⟨x, H1, I1, r1, q1⟩ => PyProof.Rows.args_nil ?_) na) na rfl
  obtain ⟨l, ns, rfl, hq, h1, q1⟩ := q1
  cases r1
  obtain ⟨its, r, pl, hz⟩ := I1.list hq
  have hl : its.toArray.size = ns.length := by rw [List.size_toArray, ← r.length, List.length_map]
  refine call_set_list (I1.ok.hd hc) pl.isList (ns := ns) (by simpa using r.ints) (by unfold scanBound; omega) fun h' tk hS hk => ?_
  obtain ⟨f1, f2⟩ := firstMet_all ns
  have f3 : (firstMet (fun i => ns.getD i 0) ns.length).length ≤ ns.length := f1.length_le_of_subset fun x hx => (f2 x).mp hx
  rw [hl] at hS
  generalize firstMet (fun i => ns.getD i 0) ns.length = ds at *
  refine PyProof.Rows.args_nil ?_
  obtain ⟨o, es, ep, t, ho, hex, hd, _, _, _, hf, hn⟩ := hS
  have I2 : Inv X pins σ H1 { s1 with heap := h', toks := tk } := I1.kept fun b o e => hk b o (Heap.lt_size e) e
  refine call_len_set ho hex hd hf (by rw [hn] <;> omega) ⟨.int ds.length, H1, I2.tok _, ⟨_, by rw [hn]⟩, q1 ds f1 f2⟩
/-! ### t * 1 -/
theorem tuple_mul1 (l : Addr) (items : Array Value) (n : Nat) (dd : Option Addr) (sl : Array (Option Value)) (x : Int) (u : Tok) (c0 : (decide (x < -(2 ^ 63)) || decide (x ≥ 2 ^ 63)) = false) (c1 : (items.isEmpty || x == 1) = true) :
    Meets (Builtin.«tuple.__mul__» ⟨[.ref l, .int x u], []⟩) (fun _ R s => s.heap.get? l = some { cls := .type "tuple", dict := dd, data := .seq items n, slots := sl } ∧ R (.ok (.ret (Value.ref l))) s) :=
  .of_wp fun prog w A R s h => by
    obtain ⟨hp, g, d, tk, os⟩ := s
    obtain ⟨hl, h⟩ := h
    have f1 := AutoSeq1.idx_int
    wp_walk using wpAny_loadPart' hl
    repeat (first
      | (refine wpAny_ite_false (decide_eq_false (by rw [c0]; exact Bool.false_ne_true)) ?_; wp_walk using wpAny_loadPart' hl)
      | (refine wpAny_ite_true (decide_eq_true c1) ?_; wp_walk using wpAny_loadPart' hl))
    exact ⟨_, rfl, h⟩
def rRepT1 (K : PySem.W.Frag) : R2 := fun x y H Q => ∃ l xs, x = .ref l ∧ y = .int 1 ∧ SqT K H l xs ∧ Q (.ref l) H
theorem op_repT1 : OpR X (binaryOp .Mult) (rRepT1 X.K) := by
  intro pins s σ H x y v u Q I rx ry h
  obtain ⟨l, xs, rfl, rfl, hT, q⟩ := h
  cases rx
  obtain ⟨t, rfl⟩ := ry
  obtain ⟨its, r, ⟨⟨cls, dd, data, sl⟩, ho, hc, n, hd⟩, hs⟩ := I.tuple hT
  simp only at hc hd
  subst hc hd
  refine wpAny_binaryOp_repeat_ref (T := "tuple") (U := "int") (by decide) ⟨_, ho, rfl⟩ (fun s' => typeIs_int s' 1 t) noFill_tuple_mul F.fills_int_mul F.slot_int_rmul repeat_tuple F.slot_int_index.lookup
    (call_meets F.slot_int_rmul (typeIs_int s 1 t) F.entry_int_rmul (F.args_int_rmul_2 _ _) (int_rmul_tuple 1 t l its.toArray n dd sl)
      ⟨ho, rfl, ⟨_, ho, rfl⟩, call_meets F.slot_tuple_mul ⟨_, ho, rfl⟩ F.entry_tuple_mul (F.args_tuple_mul_2 _ _) (tuple_mul1 l its.toArray n dd sl 1 t rfl (by simp)) ⟨ho, ?_⟩⟩)
  exact ⟨.ref l, H, I, rfl, q⟩
end
end L2
namespace Pd
open PySem PySem.Spec PyProof.Rows L2
open Evl (Ex)
section
variable {X : Cx}
/-- t * n, n from 1 -/
def rRepTU (K : PySem.W.Frag) : R2 := fun x y H Q => rRepT1 K x y H Q ∨ rRepT K x y H Q
theorem op_repTU : OpR X (binaryOp .Mult) (rRepTU X.K) := orR op_repT1 op_repT
/-- x in xs: flat items, texts, data -/
def rInDD (K : PySem.W.Frag) (neg : Bool) : R2 := fun x y H Q => ∃ d ds, Dp K H x d ∧ Dp K H y (.list ds) ∧ SeqAt.shaped d = true ∧ SeqAt.shaped (.list ds) = true ∧ Q (.bl (if neg then !ds.any fun z => PyData.eqv z d else ds.any fun z => PyData.eqv z d)) H
theorem op_inDD (hu : X.A.units + 65 < cLine) : OpR X (compareOp .In) (rInDD X.K false) := op_inD hu
theorem op_niDD (hu : X.A.units + 65 < cLine) : OpR X (compareOp .NotIn) (rInDD X.K true) := op_notInD hu
end
variable {K : PySem.W.Frag} {Γ : G} {μ : Mu} {R : W → Mu → Prop}
theorem o_repT {x : W} {ws : List W} {k : Int} (hx : TW x ws) (h0 : ws ≠ []) (hk : 1 ≤ k ∧ k ≤ 1000) (hl : ws.length ≤ 1000) (q : NT (List.replicate k.toNat ws).flatten μ R) : AO K (rRepTU K) x (.d (.int k)) μ R := fun A M H v u mo rv ru Q h => by
  obtain ⟨a, vs, rfl, ha, ra⟩ := hx.get rv
  rw [vr_int ru]
  by_cases e : k = 1
  · subst e
    rw [show (List.replicate (1 : Int).toNat ws).flatten = ws by simp] at q
    exact .inl ⟨a, vs, rfl, rfl, Evl.ex_t vw_le ha, q.same mo ha ra h⟩
  · have hn : vs ≠ [] := fun z => by
      subst z
      cases ra
      exact h0 rfl
    have rr : ∀ m : Nat, VRs K (vw A M μ H) M (List.replicate m vs).flatten (List.replicate m ws).flatten := fun m => by
      induction m with
      | zero => exact .nil
      | succ m ih =>
        rw [List.replicate_succ, List.replicate_succ, List.flatten_cons, List.flatten_cons]
        exact ra.append ih
    refine .inr ⟨a, k, vs, rfl, rfl, Evl.ex_t vw_le ha, hn, by omega, hk.2, by rw [ra.length]; exact hl, fun p hp => ?_⟩
    obtain ⟨w, m2, e2, r2, hR⟩ := q.use mo (rr _) hp
    exact h M _ _ w μ m2 e2 r2 hR
theorem ao_inD {x y : W} {d : PyData} {ds : List PyData} {neg : Bool} (hx : Rs μ x d) (hy : Rs μ y (.list ds)) (sd : SeqAt.shaped d = true) (se : SeqAt.shaped (.list ds) = true) (k : R (.d (.bool (if neg then !ds.any fun z => PyData.eqv z d else ds.any fun z => PyData.eqv z d))) μ) : AO K (rInDD K neg) x y μ R := fun A M H v u mo rv ru Q h =>
  ⟨d, ds, hx.dp mo rv, hy.dp mo ru, sd, se, h M H _ _ μ mo Eff.refl (.d (.bl _)) k⟩
/-- len(set(xs)) -/
theorem ax_lenSet {ta : TE} (h : AX K ta Γ μ fun x μ1 => ∃ ns : List Int, LW μ1 x (wInts ns) ∧ ns.length < 64 ∧ ∀ ds : List Int, ds.Nodup → (∀ y, y ∈ ds ↔ y ∈ ns) → R (.d (.int ds.length)) μ1) : AX K (tLenSetA K ta) Γ μ R := fun A M σ H c Q q =>
  h A M σ H c _ fun M1 H1 v x μ1 mo1 e1 r1 ⟨ns, hx, hl, hk⟩ => by
    obtain ⟨a, vs, rfl, hs, rs⟩ := hx.get mo1 r1
    have e := vrs_int rs
    subst e
    exact ⟨a, ns, rfl, hs, hl, fun ds d1 d2 => q M1 H1 _ _ μ1 mo1 e1 (.d (.int _)) (hk ds d1 d2)⟩
/-- d.get(y, z) -/
theorem ax_dget2 {td ty tx : TE} (h : AX K td Γ μ fun x μ1 => ∃ k kvs0, x = .m k ∧ DkAt μ1 k kvs0 ∧ AX K ty Γ μ1 fun y μ2 => AX K tx Γ μ2 fun z μ3 => ∃ kvs key, DkAt μ3 k kvs ∧ y = .d (keyD key) ∧ R ((getW kvs key).getD z) μ3) : AX K (tDGet2 td ty tx) Γ μ R := fun A M σ H c Q q =>
  h A M σ H c _ fun M1 H1 x wx μ1 mo1 e1 r1 ⟨k, kvs0, ex, hk0, h1⟩ => by
    subst ex
    obtain ⟨a, us0, rfl, hm0, rd0, rk0⟩ := dk_get mo1 r1 hk0
    refine ⟨a, rfl, dk_isD mo1 r1 hk0, h1 A M1 σ H1 (c.eff e1 mo1) _ fun M2 H2 y wy μ2 mo2 e2 r2 h2 => h2 A M2 σ H2 ((c.eff e1 mo1).eff e2 mo2) _ fun M3 H3 z wz μ3 mo3 e3 r3 ⟨kvs, key, hk, ey, q1⟩ => ?_⟩
    subst ey
    obtain ⟨b, us, eb, hm, ea, rk⟩ := dk_get mo3 ((r1.mono e2.ex e2.pre).mono e3.ex e3.pre) hk
    cases eb
    have ek := vr_key (r2.mono e3.ex e3.pre)
    refine ⟨valV us key, ek ▸ .inl ⟨us, key, ea, rfl, rfl⟩, ?_⟩
    cases e : getW kvs key with
    | none =>
      rw [(krs_get key rk).1 e]
      rw [e] at q1
      exact q M3 H3 z wz μ3 mo3 ((e1.trans e2).trans e3) r3 q1
    | some w =>
      obtain ⟨v', hv', rv⟩ := (krs_get key rk).2 w e
      rw [hv']
      rw [e] at q1
      exact q M3 H3 v' w μ3 mo3 ((e1.trans e2).trans e3) rv q1
/-- list(d.items()) -/
theorem vr_pair' {Hv : Hp} {M : List Addr} {T : Addr} {x y : V} {a b : W} (hs : SqT K Hv T [x, y]) (rx : VR K Hv M x a) (ry : VR K Hv M y b) : VR K Hv M (.ref T) (pairW a b) := by
  have g : VRs K Hv M [x, y] [a, b] := .cons rx (.cons ry .nil)
  cases a with
  | d a =>
    cases b with
    | d b => exact .d (.tup hs (VRs.dp (ds := [a, b]) g))
    | m _ => exact .t hs g
    | t _ => exact .t hs g
    | f _ => exact .t hs g
    | k _ => exact .t hs g
  | m _ => exact .t hs g
  | t _ => exact .t hs g
  | f _ => exact .t hs g
  | k _ => exact .t hs g
theorem paired_vrs {A : Addr → Prop} {H H' : Hp} {M : List Addr} (mo : MOk K A M H μ) (e : Ex H H') : ∀ {ts : List Addr} {us : List (Key × V)} {kvs : List (Key × W)}, (∀ t ∈ ts, H t = none) → PySem.Paired (fun (t : Addr) (q : Key × V) => H' t = some (.tup [kV q.1, q.2])) ts us → KRs K (vw A M μ H) M us kvs →
    VRs K (vw A M μ H') M (ts.map V.ref) (kvs.map fun kv => pairW (.d (keyD kv.1)) kv.2)
  | _, _, [], _, .nil, _ => .nil
  | _, _, _ :: _, _, .nil, h => h.elim
  | _, _, [], _, .cons _ _, h => h.elim
  | t :: ts, u :: us, kv :: kvs, hn, .cons h1 h2, hk => by
    obtain ⟨k1, k2, k3⟩ := hk
    refine .cons ?_ (paired_vrs mo e (fun t ht => hn t (List.mem_cons_of_mem _ ht)) h2 k3)
    refine vr_pair' (SqT.of (vw_of (mo.ne_hid (hn t (by simp))) h1)) ?_ (k2.mono (vw_ex e) (Pre.refl _))
    rw [← k1]
    exact key_vr _
theorem ax_listItems {td : TE} (h : AX K td Γ μ fun x μ1 => ∃ k kvs, x = .m k ∧ μ1[k]? = some (some (.dk kvs)) ∧ NL (kvs.map fun kv => pairW (.d (keyD kv.1)) kv.2) μ1 R) : AX K (LiI.tListItems td) Γ μ R := fun A M σ H c Q q =>
  h A M σ H c _ fun M1 H1 x wx μ1 mo1 e1 r1 ⟨k, kvs, ex, hk, hN⟩ => by
    subst ex
    obtain ⟨a, us, rfl, hm, ea, rk⟩ := dk_own mo1 r1 hk
    refine ⟨a, us, rfl, ea, fun H' p ts eX hp hts hpn hl hP => ?_⟩
    have pne : ∀ b o, H1 b = some o → b ≠ p := fun b o z w => by
      rw [w, hp] at z
      cases z
    have eD : Ex H1 (delH H' p) := fun b o z => by
      unfold delH
      rw [if_neg (pne b o z)]
      exact eX b o z
    have dp : delH H' p p = none := by
      unfold delH
      rw [if_pos rfl]
    have hP' : PySem.Paired (fun (t : Addr) (q : Key × V) => delH H' p t = some (.tup [kV q.1, q.2])) ts us := by
      have : ∀ {ts : List Addr} {us : List (Key × V)}, p ∉ ts → PySem.Paired (fun (t : Addr) (q : Key × V) => H' t = some (.tup [kV q.1, q.2])) ts us → PySem.Paired (fun (t : Addr) (q : Key × V) => delH H' p t = some (.tup [kV q.1, q.2])) ts us := fun {ts us} hn hh => by
        induction hh with
        | nil => exact .nil
        | cons h1 h2 ih =>
          refine .cons ?_ (ih fun z => hn (List.mem_cons_of_mem _ z))
          show delH H' p _ = _
          unfold delH
          rw [if_neg fun z => hn (by rw [z]; simp)]
          exact h1
      exact this hpn hP
    have mo2 : MOk K A M1 (delH H' p) μ1 := mo1.ex eD
    obtain ⟨M2, μ2, w, m2, e2, r2, hR⟩ := hN.use mo2 (paired_vrs mo1 eD hts hP' rk) dp
    rw [delH_upd hl] at m2 e2 r2
    exact q M2 H' _ w μ2 m2 ((e1.trans (Eff.of_ex eD)).trans e2) r2 hR
def rInsert : V → List V → Hp → VK → Prop := fun x vs H Q => ∃ (l : Addr) (xs : List V) (i : Int) (y : V), x = .ref l ∧ vs = [.int i, y] ∧ H l = some (.lst xs) ∧ xs.length < sizeLine ∧ 0 ≤ i ∧ i < 2 ^ 63 ∧
    Q .non (upd H l (.lst (xs.take i.toNat ++ [y] ++ xs.drop i.toNat)))
theorem mt_insertU {X : Cx} : MtR X "list.insert" rInsert := mt_insert
theorem am_insert {k : Nat} {ws : List W} {w : W} {i : Int} (hk : μ[k]? = some (some (.lst ws))) (hl : ws.length < sizeLine) (hi : 0 ≤ i ∧ i < 2 ^ 63) (q : R (.d .none) (μ.set k (some (.lst (ws.take i.toNat ++ [w] ++ ws.drop i.toNat))))) : AM K rInsert (.m k) [.d (.int i), w] μ R := fun A M H v vs mo rv rs Q h => by
  obtain ⟨a, us, rfl, hm, e, ru⟩ := cell_get mo rv hk
  cases rs with
  | cons ri rs =>
    cases rs with
    | cons rw rn =>
      cases rn
      rename_i yv
      rw [vr_int ri]
      have r' := ((ru.take i.toNat).snoc rw).append (ru.drop i.toNat)
      refine ⟨a, us, i, _, rfl, rfl, e, by rw [ru.length]; exact hl, hi.1, hi.2, ?_⟩
      have mo' : MOk K A M (upd H a (.lst (us.take i.toNat ++ [yv] ++ us.drop i.toNat))) (μ.set k (some (.lst (ws.take i.toNat ++ [w] ++ ws.drop i.toNat)))) := mo.write hm hk ⟨_, rfl, r'⟩
      have e' : Eff A M μ H M (μ.set k (some (.lst (ws.take i.toNat ++ [w] ++ ws.drop i.toNat)))) (upd H a (.lst (us.take i.toNat ++ [yv] ++ us.drop i.toNat))) := Eff.write mo hm hk
      exact h M _ _ _ _ mo' e' (.d .non) q
end Pd

/-! Pd21: == of data without bools: equality. -/
namespace Pd
open PySem PySem.Spec PyProof.Rows L2
open Evl (Ex)
mutual
/-- data of ints, texts, None, lists and tuples -/
def pl : PyData → Bool
  | .none | .int _ | .str _ => true
  | .list xs | .tuple xs => pls xs
  | .bool _ | .dict _ => false
def pls : List PyData → Bool
  | [] => true
  | x :: xs => pl x && pls xs
end
mutual
theorem eqv_pl : ∀ d e : PyData, pl d = true → pl e = true → (PyData.eqv d e = true ↔ d = e)
  | .none, e, _, he => by cases e <;> simp [PyData.eqv, pl] at *
  | .int i, e, _, he => by cases e <;> simp [PyData.eqv, pl] at *
  | .str i, e, _, he => by cases e <;> simp [PyData.eqv, pl] at *
  | .list xs, e, hd, he => by
    cases e with
    | list ys =>
      have := eqvAll_pl xs ys (by simpa [pl] using hd) (by simpa [pl] using he)
      simpa [PyData.eqv] using this
    | _ => simp [PyData.eqv, pl] at *
  | .tuple xs, e, hd, he => by
    cases e with
    | tuple ys =>
      have := eqvAll_pl xs ys (by simpa [pl] using hd) (by simpa [pl] using he)
      simpa [PyData.eqv] using this
    | _ => simp [PyData.eqv, pl] at *
  | .bool _, _, hd, _ => by simp [pl] at hd
  | .dict _, _, hd, _ => by simp [pl] at hd
theorem eqvAll_pl : ∀ xs ys : List PyData, pls xs = true → pls ys = true → (PyData.eqvAll xs ys = true ↔ xs = ys)
  | [], [], _, _ => by simp [PyData.eqvAll]
  | [], _ :: _, _, _ => by simp [PyData.eqvAll]
  | _ :: _, [], _, _ => by simp [PyData.eqvAll]
  | x :: xs, y :: ys, hx, hy => by
    have hx' : pl x = true ∧ pls xs = true := by simpa [pls] using hx
    have hy' : pl y = true ∧ pls ys = true := by simpa [pls] using hy
    have h1 := eqv_pl x y hx'.1 hy'.1
    have h2 := eqvAll_pl xs ys hx'.2 hy'.2
    simp [PyData.eqvAll, h1, h2]
end
/-- data that == compares, of a depth -/
def Eqb (d : PyData) (n : Nat) : Prop := pl d = true ∧ d.canLay0 = true ∧ d.depth ≤ n
def Eqbs (ds : List PyData) (n : Nat) : Prop := pls ds = true ∧ PyData.canLayAll0 ds = true ∧ PyData.depthAll ds ≤ n
theorem Eqb.le {d : PyData} {a b : Nat} (h : Eqb d a) (l : a ≤ b) : Eqb d b := ⟨h.1, h.2.1, Nat.le_trans h.2.2 l⟩
theorem Eqbs.nil : Eqbs [] 0 := ⟨rfl, rfl, Nat.le_refl _⟩
theorem Eqbs.cons {d : PyData} {ds : List PyData} {a b : Nat} (h : Eqb d a) (k : Eqbs ds b) : Eqbs (d :: ds) (max a b) := by
  refine ⟨by simp [pls, h.1, k.1], by simp [PyData.canLayAll0, h.2.1, k.2.1], ?_⟩
  have := h.2.2
  have := k.2.2
  simp only [PyData.depthAll]
  omega
theorem Eqb.cons_ {d : PyData} {ds : List PyData} {a b : Nat} (h : Eqb d a) (k : Eqbs ds b) : Eqbs (d :: ds) (max a b) := Eqbs.cons h k
theorem Eqbs.le {ds : List PyData} {a b : Nat} (h : Eqbs ds a) (l : a ≤ b) : Eqbs ds b := ⟨h.1, h.2.1, Nat.le_trans h.2.2 l⟩
theorem Eqbs.of {a : Nat} : ∀ {ds : List PyData}, (∀ d ∈ ds, Eqb d a) → Eqbs ds a
  | [], _ => Eqbs.nil.le (Nat.zero_le _)
  | d :: ds, h => (Eqbs.cons (h d (by simp)) (Eqbs.of fun x hx => h x (List.mem_cons_of_mem _ hx))).le (by omega)
theorem Eqbs.tup {ds : List PyData} {a : Nat} (h : Eqbs ds a) : Eqb (.tuple ds) (a + 1) := ⟨h.1, h.2.1, by
  have := h.2.2
  simp only [PyData.depth]
  omega⟩
theorem Eqbs.lst {ds : List PyData} {a : Nat} (h : Eqbs ds a) : Eqb (.list ds) (a + 1) := ⟨h.1, h.2.1, by
  have := h.2.2
  simp only [PyData.depth]
  omega⟩
theorem eqb_none : Eqb .none 0 := ⟨rfl, rfl, Nat.le_refl _⟩
theorem eqb_int (i : Int) : Eqb (.int i) 0 := ⟨rfl, rfl, Nat.le_refl _⟩
theorem eqb_str {x : Str} (h : (PyData.str x).canLay0 = true) : Eqb (.str x) 0 := ⟨rfl, h, Nat.le_refl _⟩
theorem eqb_ints (ns : List Int) : Eqbs (ns.map PyData.int) 0 := Eqbs.of fun d hd => by
  obtain ⟨i, _, rfl⟩ := List.mem_map.mp hd
  exact eqb_int i
theorem Eqb.sh {d : PyData} {n : Nat} (h : Eqb d n) (l : n ≤ 64) : SeqAt.shaped d = true := by
  unfold SeqAt.shaped
  rw [h.2.1, decide_eq_true (Nat.le_trans h.2.2 l)]
  rfl
section
variable {K : PySem.W.Frag} {μ : Mu} {R : W → Mu → Prop}
theorem o_eqP {x y : W} {d e : PyData} {n m : Nat} (hx : Rs μ x d) (hy : Rs μ y e) (sd : Eqb d n) (se : Eqb e m) (hn : n ≤ 64) (hm : m ≤ 64) (k : ∀ b : Bool, (b = true ↔ d = e) → R (.d (.bool b)) μ) : AO K (rEqU K) x y μ R :=
  o_eqD hx hy (sd.sh hn) (se.sh hm) (k _ (eqv_pl d e sd.1 se.1))
theorem o_neP {x y : W} {d e : PyData} {n m : Nat} (hx : Rs μ x d) (hy : Rs μ y e) (sd : Eqb d n) (se : Eqb e m) (hn : n ≤ 64) (hm : m ≤ 64) (k : ∀ b : Bool, (b = true ↔ d = e) → R (.d (.bool (!b))) μ) : AO K (rNeU K) x y μ R :=
  o_neD hx hy (sd.sh hn) (se.sh hm) (k _ (eqv_pl d e sd.1 se.1))
/-- x in xs, data without bools -/
theorem o_inP {x y : W} {d : PyData} {ds : List PyData} {neg : Bool} {n m : Nat} (hx : Rs μ x d) (hy : Rs μ y (.list ds)) (sd : Eqb d n) (se : Eqbs ds m) (hn : n ≤ 64) (hm : m < 64) (k : ∀ b : Bool, (b = true ↔ d ∈ ds) → R (.d (.bool (if neg then !b else b))) μ) : AO K (rInDD K neg) x y μ R := by
  refine ao_inD hx hy (sd.sh hn) (se.lst.sh hm) (k _ ?_)
  rw [List.any_eq_true]
  have hp : ∀ z ∈ ds, pl z = true := by
    have : ∀ {ds : List PyData}, pls ds = true → ∀ z ∈ ds, pl z = true := by
      intro ds
      induction ds with
      | nil => intro _ z hz; cases hz
      | cons a l ih =>
        intro h z hz
        have h' : pl a = true ∧ pls l = true := by simpa [pls] using h
        rcases List.mem_cons.mp hz with rfl | hz
        · exact h'.1
        · exact ih h'.2 z hz
    exact this se.1
  constructor
  · rintro ⟨z, hz, e⟩
    rw [← (eqv_pl z d (hp z hz) sd.1).mp e]
    exact hz
  · intro h
    exact ⟨d, h, (eqv_pl d d sd.1 sd.1).mpr rfl⟩
end
end Pd

/-! Pd22: a lambda with one parameter and captured names, as the key of sorted. -/
namespace L2
open PySem PySem.Spec PyProof.Rows LamX NdefX
open PySem.W (EachIs)
section
variable {X : Cx} {pins : List (Addr × Obj)} {σ : L2.St} {H : Hp} {s : Shared} {A : Around} {k : Nat} {f : Addr} {F : NF} {body : Expr} {pm ctv : Value} {N fr : List Str} {a : Str} {ws : List (Option V)} {t : TE}
/-- the lambda at f, called with one value -/
theorem lam_call {u : Value} {v : V} {Q : VK} (I : Inv X pins σ H s) (hA : A.frames = some X.stack) (hr : Room (k + 1) A) (S : NScope N [a] fr F.scope)
    (ho : s.heap.get? f = some (PySem.W.kla_obj F.name F.qual F.params body F.scope F.cl pm F.c ctv)) (hc : H F.c = some (CodeO F.c F.qual)) (C : CellsAt F.cl fr ws s.heap H)
    (hb : bindArgs (PySem.W.kla_fn F.name F.qual F.params body F.scope F.cl pm (.ref F.c) ctv) ⟨[u], []⟩ = pure ([a].zip [u])) (r : RelV v u)
    (hbody : Room k (A.deeper (envF F f s.heap.objs.size)) → PE (ncx CX0 X.prog X.w X.K X.mg X.base N F f A X.stack s H E0) body t) (ht : t (startF N [v] ws) H Q) :
    codeAny (model X.prog X.w) A (.call (.ref f) ⟨[u], []⟩) (CR CX0 X.stack X.prog X.w H s Q E0) s := by
  have e0 := I.env0
  have e1 : Env0 X.prog X.w X.K X.mg X.base A X.stack s H := ⟨hA, e0.mod, e0.bs, e0.bsz, e0.funs, e0.frf, e0.hok, e0.bare⟩
  have nl : s.heap.NoLimit := e0.mod.nolimit.keeps fun b o e => (e0.bs b o e).1
  refine PySem.W.kla_callFunE hr.depth ho rfl S.co S.gen rfl (codeO_at e0.hok hc) ?_
  rw [hb]
  refine wpAny_pure (wpAny_newFunctionEnv S.nocell (fun ⟨n, _⟩ hy => S.par n (List.of_mem_zip hy).1) (fun g hns hsb => ⟨nl.fresh _ hsb, ?_⟩) S.kind)
  show codeAny _ _ (.expr body (envF F f s.heap.objs.size)) _ _
  have kp : ∀ b o, s.heap.get? b = some o → g.get? b = some o := fun b o e => hsb.extBut b o (Nat.ne_of_lt (Heap.lt_size e)) (Heap.get?_push_of_some _ e)
  have J : Inv (ncx CX0 X.prog X.w X.K X.mg X.base N F f A X.stack s H E0) [] (startF N [v] ws) H { s with heap := g, toks := s.toks + ([a].zip [u]).length } := inv_startN S hr.hd e1 rfl (.cons r .nil) C hns kp
  refine PySem.W.kla_codeExpr (wpAny_mono ((hbody (hr.deeper _)).run [] _ _ H Q J ht) (fun x s' hq => ?_) fun _ _ hq => hq)
  obtain ⟨y, H', J', rv, q⟩ := hq
  exact ⟨y, H', J'.os, J'.bare, J'.base, J'.hok, rv, q⟩
end
/-- a function's frame whose one parameter is a cell of its own -/
theorem lam_newenv {M : Model} {A : Around} {E : Value → Shared → Prop} {s : Shared} {scope : Scope} {g bi : Addr} {cl : List (Str × Addr)} {a qual : Str} {u code : Value} {func : Option Addr} {Q : Env → Shared → Prop} (hk : scope.kind = .function) (ha : scope.names.lookup a = some .cell)
    (one : ∀ n acc, cellsFrom n scope.names acc = (a, n) :: acc)
    (hQ : ∀ h', (∀ b o, s.heap.get? b = some o → h'.get? b = some o) → h'.Ns s.heap.objs.size (fun _ => none) → h'.IsCell (s.heap.objs.size + 1) (some u) → Q (newEnv scope s.heap.objs.size g ((a, s.heap.objs.size + 1) :: cl) qual func code none bi) { s with heap := h' }) :
    wpAny M A (newFunctionEnv scope g cl [(a, u)] qual func code none bi) Q E s := by
  simp only [newFunctionEnv, Option.isSome_none, Bool.false_eq_true, if_false]
  have hsz : (s.heap.push ({ cls := .type "frame", data := .dict #[] } : Obj)).objs.size = s.heap.objs.size + 1 := Heap.size_push ..
  refine wpAny_bind (wpAny_alloc (wpAny_bind (wpAny_layCells _ (fun _ kd _ => by cases e : kd == NameKind.cell <;> simp [e]) _ _ _ _ ?_)))
  show wpAny _ _ _ _ _ { s with heap := pushCells (s.heap.push { cls := .type "frame", data := .dict #[] }) scope.names }
  have ok := cellsFrom_ok scope.names (s.heap.push { cls := .type "frame", data := .dict #[] }) (s.heap.objs.size + 1) [] ⟨fun _ _ z => (nomatch z), List.Pairwise.nil⟩ (Nat.le_of_eq hsz.symm)
  rw [hsz, one] at ok
  obtain ⟨hc, _⟩ := ok.empty a (s.heap.objs.size + 1) (by simp)
  show wpAny _ _ (do
    let _ ← forIn [(a, u)] PUnit.unit _
    pure _) _ _ _
  rw [List.forIn_cons, one]
  rw [show ({ s with heap := s.heap.push { cls := .type "frame", data := .dict #[] } } : Shared).heap.objs.size = s.heap.objs.size + 1 from hsz]
  have hne : s.heap.objs.size ≠ s.heap.objs.size + 1 := by omega
  have hns : (pushCells (s.heap.push { cls := .type "frame", data := .dict #[] }) scope.names).Ns s.heap.objs.size (fun _ => none) := (Heap.Ns.new s.heap (.type "frame")).keeps (pushCells_keeps _ _)
  have kp : ∀ b o, s.heap.get? b = some o → (pushCells (s.heap.push { cls := .type "frame", data := .dict #[] }) scope.names).get? b = some o := fun b o e => pushCells_keeps _ _ b o (Heap.get?_push_of_some _ e)
  generalize pushCells (s.heap.push { cls := .type "frame", data := .dict #[] }) scope.names = h1 at hc hns kp ⊢
  have hlk : ((a, s.heap.objs.size + 1) :: cl).lookup a = some (s.heap.objs.size + 1) := by simp
  refine wpAny_bind (wpAny_bind (wpAny_bind (wpAny_storeName_cell (c := s.heap.objs.size + 1) hk (by show Env.kindOf _ _ = _; unfold Env.kindOf; exact ha) hlk hc fun h' hc' hs' => ?_)))
  refine wpAny_pure (wpAny_pure (wpAny_pure (hQ h' (fun b o e => ?_) (hns.sameBut hs' hne) hc')))
  exact (hs'.2 b (Nat.ne_of_lt (Nat.lt_succ_of_lt (Heap.lt_size e)))).trans (kp b o e)
/-- a lambda's names: its parameter, a cell of its own; the captured ones; what its comprehensions bind -/
structure LScope (N : List Str) (a : Str) (fr : List Str) (sc : Scope) : Prop where
  kind : sc.kind = .function
  co : sc.isCoroutine = false
  gen : sc.isGenerator = false
  nd : N.Nodup
  pre : N.take (1 + fr.length) = a :: fr
  par : sc.names.lookup a = some .cell
  one : ∀ n acc, cellsFrom n sc.names acc = (a, n) :: acc
  cel : ∀ y ∈ sc.names, y.2 = .cell → y.1 = a
  free : ∀ y ∈ sc.names, y.2 = .free → y.1 ∈ fr
  frk : ∀ x ∈ fr, sc.names.lookup x = some .free
abbrev ownF (F : NF) (a : Str) (n : Addr) : NF := { F with cl := (a, n) :: F.cl }
section
variable {CX : CXT} {P : Program} {w : World} {K : PySem.W.Frag} {mg : Str → Option Value} {base : Heap} {N fr : List Str} {F : NF} {f : Addr} {A : Around} {outer : List Env} {s : Shared} {H : Hp} {E : XK} {a : Str} {u : Value} {v : V} {ws : List (Option V)}
theorem inv_startL {g : Heap} {tk : Nat} (S : LScope N a fr F.scope) (hd : A.handled = none) (e0 : Env0 P w K mg base A outer s H) (r : RelV v u) (C : CellsAt F.cl fr ws s.heap H) (hns : g.Ns s.heap.objs.size fun _ => none)
    (hc : g.IsCell (s.heap.objs.size + 1) (some u)) (kp : ∀ b o, s.heap.get? b = some o → g.get? b = some o) : Inv (ncx CX P w K mg base N (ownF F a (s.heap.objs.size + 1)) f A outer s H E) [] (startF N [v] ws) H { s with heap := g, toks := tk } := by
  have hlt : ∀ y c, F.cl.lookup y = some c → c < s.heap.objs.size := fun y c e => by
    obtain ⟨_, w, z⟩ := C.all y c e
    exact z.lt
  have look : ∀ {y c}, ((a, s.heap.objs.size + 1) :: F.cl).lookup y = some c → (y = a ∧ c = s.heap.objs.size + 1) ∨ (y ≠ a ∧ F.cl.lookup y = some c) := fun {y c} e => by
    rw [List.lookup_cons] at e
    cases q : y == a with
    | true =>
      rw [q] at e
      exact .inl ⟨beq_iff_eq.mp q, (Option.some.inj e).symm⟩
    | false =>
      rw [q] at e
      exact .inr ⟨fun z => by rw [z] at q; simp at q, e⟩
  have lookO : ∀ {y c}, y ≠ a → F.cl.lookup y = some c → ((a, s.heap.objs.size + 1) :: F.cl).lookup y = some c := fun {y c} hn e => by
    rw [List.lookup_cons, show (y == a) = false from beq_eq_false_iff_ne.mpr hn]
    exact e
  have lookA : ((a, s.heap.objs.size + 1) :: F.cl).lookup a = some (s.heap.objs.size + 1) := by simp
  have hpl : 1 + fr.length ≤ N.length := by
    have q := congrArg List.length S.pre
    rw [List.length_take, List.length_cons] at q
    omega
  have anf : a ∉ fr := fun z => by
    have q := S.nd.sublist (List.take_sublist (1 + fr.length) N)
    rw [S.pre] at q
    exact (List.nodup_cons.mp q).1 z
  have cellK : ∀ {c : Addr} {x : Option Value}, s.heap.IsCell c x → g.IsCell c x := fun {c x} ⟨o, ho, hd⟩ => ⟨o, kp _ _ ho, hd⟩
  have noA : ∀ b : Addr, b ∉ (ncx CX P w K mg base N (ownF F a (s.heap.objs.size + 1)) f A outer s H E).ex := fun b z => absurd (show b ∈ ([] : List Addr) from z) (by simp)
  refine ⟨⟨e0.mod, S.kind, rfl, rfl, Nat.le_refl _, fun x y c e1 e2 => ?_, fun y hy => ?_, fun y c z _ => ?_, fun _ => hd, Around.frames_deeper e0.frames, .inr ⟨rfl, rfl⟩, fun b z => absurd z (noA b), e0.bs, e0.bsz, fun b _ _ => noA b, fun b z => absurd z (noA b), e0.funs, e0.frf⟩,
    rfl, e0.bare, Un.kept kp, ⟨_, hns, fun i y x e1 e2 e3 => ?_⟩, fun y c e => ?_, e0.hok.fresh (Nat.le_refl _), fun y c e => ?_, fun q hq => absurd (show q ∈ ([] : List (Addr × Obj)) ++ [] from hq) (by simp), e0.hok.kept kp, ?_⟩
  · rcases look e1 with ⟨x1, c1⟩ | ⟨_, x1⟩ <;> rcases look e2 with ⟨y1, c2⟩ | ⟨_, y1⟩
    · rw [x1, y1]
    · have z := hlt y c y1
      rw [c1] at z
      exact absurd (Nat.lt_trans (Nat.lt_succ_self _) z) (Nat.lt_irrefl _)
    · have z := hlt x c x1
      rw [c2] at z
      exact absurd (Nat.lt_trans (Nat.lt_succ_self _) z) (Nat.lt_irrefl _)
    · exact C.inj x y c x1 y1
  · rcases (show F.scope.names.lookup y = some .cell ∨ F.scope.names.lookup y = some .free from hy) with hy | hy
    · have e := S.cel _ (PySem.mem_of_lookup hy) rfl
      have e : y = a := e
      exact ⟨_, by rw [e]; exact lookA⟩
    · have hm := S.free _ (PySem.mem_of_lookup hy) rfl
      obtain ⟨i, hi⟩ := List.mem_iff_getElem?.mp hm
      obtain ⟨c, hc, _⟩ := C.has i y hi
      exact ⟨c, lookO (fun z => anf (by rw [← z]; exact hm)) hc⟩
  · have z : false = true := z
    cases z
  · have e1 : N[i]? = some y := e1
    have clen := C.len
    unfold startF at e2
    have hq : ∀ j, j < 1 + fr.length → N[j]? = (a :: fr)[j]? := fun j hj => by rw [← S.pre, List.getElem?_take_of_lt hj]
    cases i with
    | zero =>
      rw [hq 0 (by omega)] at e1
      cases e1
      have e2 : x = v := by simpa using e2.symm
      subst e2
      exact ⟨u, r, .inr ⟨.inl S.par, _, lookA, hc⟩⟩
    | succ i =>
      have e2 : (ws ++ List.replicate (N.length - 1 - ws.length) none)[i]? = some (some x) := by simpa using e2
      by_cases h2 : i < fr.length
      · rw [hq (i + 1) (by omega), List.getElem?_cons_succ] at e1
        rw [List.getElem?_append_left (by omega)] at e2
        have hm := List.mem_of_getElem? e1
        obtain ⟨c, hcl, hv⟩ := C.has i y e1
        obtain ⟨u', ru, hu⟩ := hv x e2
        exact ⟨u', ru, .inr ⟨.inr (S.frk y hm), c, lookO (fun z => anf (by rw [← z]; exact hm)) hcl, cellK hu⟩⟩
      · rw [List.getElem?_append_right (by omega), List.getElem?_replicate] at e2
        split at e2 <;> cases e2
  · rcases look e with ⟨_, c1⟩ | ⟨_, x1⟩
    · rw [c1]
      exact ⟨_, hc⟩
    · obtain ⟨x, z⟩ := (C.all y c x1).2
      exact ⟨x, cellK z⟩
  · rcases look e with ⟨_, c1⟩ | ⟨_, x1⟩
    · rw [c1]
      exact e0.hok.fresh (Nat.le_succ _)
    · exact (C.all y c x1).1
  · have clen := C.len
    unfold startF
    show _ = N.length
    rw [List.length_append, List.length_append, List.length_map, List.length_replicate, List.length_singleton]
    omega
end
section
variable {X : Cx} {pins : List (Addr × Obj)} {σ : L2.St} {H : Hp} {s : Shared} {A : Around} {k : Nat} {f : Addr} {F : NF} {body : Expr} {pm ctv : Value} {N fr : List Str} {a : Str} {ws : List (Option V)} {t : TE}
/-- the lambda at f, called with one value, its parameter a cell -/
theorem lam_callL {u : Value} {v : V} {Q : VK} (I : Inv X pins σ H s) (hA : A.frames = some X.stack) (hr : Room (k + 1) A) (S : LScope N a fr F.scope)
    (ho : s.heap.get? f = some (PySem.W.kla_obj F.name F.qual F.params body F.scope F.cl pm F.c ctv)) (hc : H F.c = some (CodeO F.c F.qual)) (C : CellsAt F.cl fr ws s.heap H)
    (hb : bindArgs (PySem.W.kla_fn F.name F.qual F.params body F.scope F.cl pm (.ref F.c) ctv) ⟨[u], []⟩ = pure ([a].zip [u])) (r : RelV v u)
    (hbody : Room k (A.deeper (envF (ownF F a (s.heap.objs.size + 1)) f s.heap.objs.size)) → PE (ncx CX0 X.prog X.w X.K X.mg X.base N (ownF F a (s.heap.objs.size + 1)) f A X.stack s H E0) body t) (ht : t (startF N [v] ws) H Q) :
    codeAny (model X.prog X.w) A (.call (.ref f) ⟨[u], []⟩) (CR CX0 X.stack X.prog X.w H s Q E0) s := by
  have e0 := I.env0
  have e1 : Env0 X.prog X.w X.K X.mg X.base A X.stack s H := ⟨hA, e0.mod, e0.bs, e0.bsz, e0.funs, e0.frf, e0.hok, e0.bare⟩
  have nl : s.heap.NoLimit := e0.mod.nolimit.keeps fun b o e => (e0.bs b o e).1
  refine PySem.W.kla_callFunE hr.depth ho rfl S.co S.gen rfl (codeO_at e0.hok hc) ?_
  rw [hb]
  refine wpAny_pure (lam_newenv S.kind S.par S.one fun g kp hns hcl => ⟨nl.keeps kp, ?_⟩)
  show codeAny _ _ (.expr body (envF (ownF F a (s.heap.objs.size + 1)) f s.heap.objs.size)) _ _
  have J := inv_startL (CX := CX0) (f := f) (E := E0) (tk := s.toks) S hr.hd e1 r C hns hcl kp
  refine PySem.W.kla_codeExpr (wpAny_mono ((hbody (hr.deeper _)).run [] _ _ H Q J ht) (fun x s' hq => ?_) fun _ _ hq => hq)
  obtain ⟨y, H', J', rv, q⟩ := hq
  exact ⟨y, H', J'.os, J'.bare, J'.base, J'.hok, rv, q⟩
end
/-- either kind of scope -/
def LamSc (N : List Str) (a : Str) (fr : List Str) (sc : Scope) : Prop := NScope N [a] fr sc ∨ LScope N a fr sc
theorem lam_callG {X : Cx} {pins : List (Addr × Obj)} {σ : L2.St} {H : Hp} {s : Shared} {A : Around} {k : Nat} {f : Addr} {F : NF} {body : Expr} {pm ctv : Value} {N fr : List Str} {a : Str} {ws : List (Option V)} {t : TE} {u : Value} {v : V} {Q : VK}
    (I : Inv X pins σ H s) (hA : A.frames = some X.stack) (hr : Room (k + 1) A) (S : LamSc N a fr F.scope)
    (ho : s.heap.get? f = some (PySem.W.kla_obj F.name F.qual F.params body F.scope F.cl pm F.c ctv)) (hc : H F.c = some (CodeO F.c F.qual)) (C : CellsAt F.cl fr ws s.heap H)
    (hb : bindArgs (PySem.W.kla_fn F.name F.qual F.params body F.scope F.cl pm (.ref F.c) ctv) ⟨[u], []⟩ = pure ([a].zip [u])) (r : RelV v u)
    (hbody : ∀ cl, Room k (A.deeper (envF { F with cl := cl } f s.heap.objs.size)) → PE (ncx CX0 X.prog X.w X.K X.mg X.base N { F with cl := cl } f A X.stack s H E0) body t) (ht : t (startF N [v] ws) H Q) :
    codeAny (model X.prog X.w) A (.call (.ref f) ⟨[u], []⟩) (CR CX0 X.stack X.prog X.w H s Q E0) s := by
  rcases S with S | S
  · exact lam_call I hA hr S ho hc C hb r (hbody F.cl) ht
  · exact lam_callL I hA hr S ho hc C hb r (hbody _) ht
section
variable {X : Cx} {pins : List (Addr × Obj)} {σ : L2.St} {H : Hp} {s : Shared}
/-- an object of one's own that is not tracked may be written -/
theorem inv_priv {it : Addr} {h' : Heap} {tk : Nat} (I : Inv X pins σ H s) (fp : FpOk X pins H it) (kb : ∀ b ob, b ≠ it → s.heap.get? b = some ob → h'.get? b = some ob) : Inv X pins σ H { s with heap := h', toks := tk } := by
  obtain ⟨hn, hL, hfs, h1, h2, h3⟩ := fp
  refine I.call (ch := [it]) ⟨fun b o q _ _ hx => kb b o (by simpa using hx) q, fun b o q _ _ hx => ⟨o.slots, kb b o (by simpa using hx) q⟩, fun _ _ _ n _ => n, fun b o q hx => ⟨o, kb b o (by simpa using hx) q⟩, fun _ _ q => q, fun _ _ _ q => q, fun _ ps q => ⟨#[], by rw [q]; simp⟩⟩ (fun b u e => ?_) I.bare fun b hb => ?_
  · refine (I.hok b u e).stay (fun c w hc q => kb c w ?_ q) (fun _ q => q) fun _ _ q => q
    rintro rfl
    rcases hc with rfl | hc
    · rw [hn] at e; cases e
    · rw [hn] at hc; cases hc
  · obtain rfl : b = it := by simpa using hb
    exact ⟨h1, hL, h2, h3⟩
end
/-- the keys of the items, one call after the other -/
def tKeys (c : Addr) (q : Str) (tb : TE) (N : List Str) (ws : List (Option V)) : List V → List V → Hp → (List V → Hp → Prop) → Prop
  | [], ks, H, Q => Q ks H
  | x :: xs, ks, H, Q => H c = some (CodeO c q) ∧ tb (startF N [x] ws) H fun v H' => tKeys c q tb N ws xs (ks ++ [v]) H' Q
def KEnd (K : PySem.W.Frag) (xs : List V) (Q : VK) (ks : List V) (H : Hp) : Prop :=
  ∃ kz : List PyData, DpAll K H ks kz ∧ PySem.W.AllAlike kz ∧ PySem.W.Sortable kz ∧ (∀ d ∈ kz, d.depth ≤ 100) ∧ ∀ p, H p = none → Q (.ref p) (upd H p (.lst (((xs.zip kz).mergeSort (PySem.W.dataLe false Prod.snd)).map Prod.fst)))
theorem each_pairs {R : Value → V × PyData → Prop} : ∀ {xs : List V} {kz : List PyData} {us : List Value}, Vals xs us → kz.length = us.length → (∀ x u d, RelV x u → R u (x, d)) → EachIs R us (xs.zip kz)
  | [], _, [], _, _, _ => .nil
  | [], _, _ :: _, h, _, _ => by cases h
  | _ :: _, _, [], h, _, _ => by cases h
  | _ :: _, [], _ :: _, _, h, _ => by simp at h
  | x :: xs, d :: kz, u :: us, h, hl, hR => by
    cases h with
    | cons h1 h2 => exact .cons (hR _ _ _ h1) (each_pairs h2 (by simpa using hl) hR)
theorem vals_of_each : ∀ {us : List Value} {ps : List (V × PyData)}, EachIs (fun u p => RelV p.1 u) us ps → Vals (ps.map Prod.fst) us
  | [], [], _ => .nil
  | [], _ :: _, h => by cases h
  | _ :: _, [], h => by cases h
  | _ :: _, _ :: _, h => by
    cases h with
    | cons h1 h2 => exact .cons h1 (vals_of_each h2)
theorem reads_each {h : Heap} {us : List Value} {ds : List PyData} {as : List Addr} (r : ReadsAll h us ds as) : EachIs (fun v d => ∃ as, Reads h v d as) us ds := by
  induction us generalizing ds as with
  | nil => cases r; exact .nil
  | cons u us ih =>
    cases r with
    | cons h1 h2 => exact .cons ⟨_, h1⟩ (ih h2)
theorem dpall_len {K : PySem.W.Frag} {H : Hp} : ∀ {ks : List V} {kz : List PyData}, DpAll K H ks kz → ks.length = kz.length
  | _, _, .nil => rfl
  | _, _, .cons _ t => congrArg (· + 1) (dpall_len t)
section
variable {X : Cx} {pins : List (Addr × Obj)} {σ : L2.St} {H : Hp} {s : Shared} {k : Nat} {f l : Addr} {F : NF} {body : Expr} {pm ctv : Value} {N fr : List Str} {a : Str} {js : List Nat} {t : TE} {xs : List V} {Q : VK}
/-- the walk over the items, at its turn i -/
def KWalk (X : Cx) (pins : List (Addr × Obj)) (σ : L2.St) (F : NF) (t : TE) (N : List Str) (js : List Nat) (xs : List V) (Q : VK) (f kS p : Addr) (fo : Obj) (e1 : Nat) (i : Nat) (s : Shared) : Prop :=
  ∃ H ks kA e, Inv X pins σ H s ∧ FpOk X pins H kS ∧ FpOk X pins H p ∧ s.heap.get? kS = some (seqObj "list" kA e) ∧ s.heap.get? p = some (seqObj "list" #[] e1) ∧ s.heap.get? f = some fo ∧ H f = none ∧ Vals ks kA.toList ∧ ks.length = i ∧
    tKeys F.c F.qual t N (js.map (NdefX.slotAt σ)) (xs.drop i) ks H (KEnd X.K xs Q)
theorem sort_lam (I : Inv X pins σ H s) (hr : Room (k + 3) X.A) (hs : SqL X.K H l xs) (ho : s.heap.get? f = some (PySem.W.kla_obj F.name F.qual F.params body F.scope F.cl pm F.c ctv)) (hfn : H f = none) (hff : f ∉ frs X.stack) (S : LamSc N a fr F.scope) (cp : Caps X F.cl fr js)
    (hb : ∀ u, bindArgs (PySem.W.kla_fn F.name F.qual F.params body F.scope F.cl pm (.ref F.c) ctv) ⟨[u], []⟩ = pure ([a].zip [u]))
    (hbody : ∀ (cl : List (Str × Addr)) (A : Around) (s : Shared) (H : Hp), A.guards = X.A.guards → Room k (A.deeper (envF { F with cl := cl } f s.heap.objs.size)) → PE (ncx CX0 X.prog X.w X.K X.mg X.base N { F with cl := cl } f A X.stack s H E0) body t)
    (hq : tKeys F.c F.qual t N (js.map (NdefX.slotAt σ)) xs [] H (KEnd X.K xs Q)) :
    wpAny (model X.prog X.w) X.A (call (.builtin "sorted") [.ref l] [(Str.ofString "key", .ref f)]) (EP X pins σ Q) X.xe s := by
  obtain ⟨its, rv, hl, hz⟩ := I.list hs
  have hzl : its.length = xs.length := rv.length.symm
  have hZ : its.length ≤ sizeLine := by rw [hzl]; exact hz
  refine PySem.W.sorted_of_sort hl.isList hZ (PyProof.Rows.ksk_s1 _ _) (fun _ => PyProof.Rows.ksk_l1 _ _) fun E' => ?_
  rw [PyProof.Rows.ksk_t1]
  have hp := PySem.W.copyHeap_at s.heap its
  have cold : ∀ b o, s.heap.get? b = some o → (PySem.W.copyHeap s.heap its).get? b = some o := fun b o => PySem.W.copyHeap_old
  have fp : FpOk X pins H (s.heap.objs.size + 1) := I.fpOk (Nat.le_succ _) (I.hok.fresh (Nat.le_succ _))
  have fp0 : s.heap.get? (s.heap.objs.size + 1) = none := Heap.get?_none_of_le (Nat.le_succ _)
  generalize s.heap.objs.size + 1 = p at hp fp fp0
  generalize PySem.W.copyHeap s.heap its = h1 at hp cold
  have I1 : Inv X pins σ H { s with heap := h1 } := I.kept (t' := s.toks) cold
  obtain ⟨e1, ho1⟩ : ∃ e1, (h1.update p (Obj.mapSeq fun _ => (#[] : Array Value))).get? p = some (seqObj "list" #[] e1) := ⟨_, get?_update_seq hp fun _ => #[]⟩
  unfold PyProof.Rows.ksk_tree
  refine wpAny_bind (listItems_at hp rfl (wpAny_bind (listUpdate_at hp rfl (wpAny_bind (seqEpoch_at ho1 rfl (wpAny_bind (wpAny_newTuple (wpAny_bind (wpAny_newList (wpAny_holding ?_) (Nat.zero_le _))) hZ)))) (by rw [List.size_toArray]; exact hZ) (Nat.zero_le _))))
  have I2 : Inv X pins σ H { s with heap := h1.update p (Obj.mapSeq fun _ => (#[] : Array Value)) } := inv_priv (s := { s with heap := h1 }) (tk := s.toks) I1 fp fun b ob hb e => ((Heap.SameBut.update h1 p _).2 b hb).trans e
  have hfp : f ≠ p := fun z => by rw [z, fp0] at ho; cases ho
  have hf2 : (h1.update p (Obj.mapSeq fun _ => (#[] : Array Value))).get? f = some (PySem.W.kla_obj F.name F.qual F.params body F.scope F.cl pm F.c ctv) := ((Heap.SameBut.update h1 p _).2 f hfp).trans (cold _ _ ho)
  generalize h1.update p (Obj.mapSeq fun _ => (#[] : Array Value)) = h2 at I2 ho1 hf2 ⊢
  have kp3 : ∀ b o, h2.get? b = some o → (h2.push (seqObj "tuple" its.toArray 0)).get? b = some o := fun b o e => Heap.get?_push_of_some _ e
  have I3 : Inv X pins σ H { s with heap := h2.push (seqObj "tuple" its.toArray 0) } := I2.kept (t' := s.toks) kp3
  have ho3 := kp3 _ _ ho1
  have ho0 : (h2.push (seqObj "tuple" its.toArray 0)).get? f = some (PySem.W.kla_obj F.name F.qual F.params body F.scope F.cl pm F.c ctv) := kp3 _ _ hf2
  show wpAny _ _ _ _ _ { s with heap := (h2.push (seqObj "tuple" its.toArray 0)).push (seqObj "list" #[] 0) }
  have I4 : Inv X pins σ H { s with heap := (h2.push (seqObj "tuple" its.toArray 0)).push (seqObj "list" #[] 0) } := I3.kept (t' := s.toks) fun b o e => Heap.get?_push_of_some _ e
  have fk : FpOk X pins H (h2.push (seqObj "tuple" its.toArray 0)).objs.size := I3.fpOk (Nat.le_refl _) (I3.hok.fresh (Nat.le_refl _))
  have nk : ((h2.push (seqObj "tuple" its.toArray 0)).push (seqObj "list" #[] 0)).get? (h2.push (seqObj "tuple" its.toArray 0)).objs.size = some (seqObj "list" #[] 0) := Heap.get?_push_size _ rfl
  have hka : (h2.push (seqObj "tuple" its.toArray 0)).objs.size ≠ p := Nat.ne_of_gt (Heap.lt_size ho3)
  have hkf : (h2.push (seqObj "tuple" its.toArray 0)).objs.size ≠ f := Nat.ne_of_gt (Heap.lt_size ho0)
  have na : ((h2.push (seqObj "tuple" its.toArray 0)).push (seqObj "list" #[] 0)).get? p = some (seqObj "list" #[] e1) := Heap.get?_push_of_some _ ho3
  have nf : ((h2.push (seqObj "tuple" its.toArray 0)).push (seqObj "list" #[] 0)).get? f = some (PySem.W.kla_obj F.name F.qual F.params body F.scope F.cl pm F.c ctv) := Heap.get?_push_of_some _ ho0
  show wpAny _ _ (PyProof.Rows.ksk_rest p (.ref f) false its.toArray e1 (.ref (h2.push (seqObj "tuple" its.toArray 0)).objs.size)) _ _ _
  generalize (h2.push (seqObj "tuple" its.toArray 0)).objs.size = kS at *
  generalize (h2.push (seqObj "tuple" its.toArray 0)).push (seqObj "list" #[] 0) = h4 at *
  -- the walk
  have hU : X.A.in1.in1.units = X.A.units + 2 := rfl
  have hr2 : Room (k + 1) X.A.in1.in1 := (show Room (k + 2) X.A.in1 from hr.in1).in1
  unfold PyProof.Rows.ksk_rest
  refine wpAny_bind (wpAny_rule ?_)
  first | rw [List.forIn_toArray] | (rw [← Array.forIn_toList]; simp only [List.toList_toArray]) | rw [← Array.forIn_toList]
  refine wpAny_bind (ksk_fold (KWalk X pins σ F t N js xs Q f kS p (PySem.W.kla_obj F.name F.qual F.params body F.scope F.cl pm F.c ctv) e1) its 0 _ ⟨H, [], #[], 0, I4, fk, fp, nk, na, nf, hfn, .nil, rfl, by simpa using hq⟩ ?step ?done)
  case step =>
    rintro j u s' hu ⟨H', ks, kA, e, I', fk', fp', nk', na', nf', hf', rk, lk, hk⟩
    simp only [Nat.zero_add] at hk lk ⊢
    have hj : j < its.length := (List.getElem?_eq_some_iff.mp hu).1
    have hjx : j < xs.length := by omega
    have rx : RelV xs[j] u := by
      obtain ⟨u', h1, h2⟩ := rv.get (List.getElem?_eq_getElem hjx)
      rw [hu] at h1
      cases h1
      exact h2
    rw [List.drop_eq_getElem_cons hjx] at hk
    obtain ⟨hc, hk⟩ := hk
    have hcall := lam_callG I' (A := X.A.in1.in1) I'.env0.frames hr2 S nf' hc (cells_of I' cp) (hb u) rx (fun cl => hbody cl X.A.in1.in1 s' H' rfl) hk
    refine wpAny_bind (wpAny_attempt (wpAny_call (codeAny_mono hcall fun r s2 hq => ?_)))
    match r, hq with
    | .error e, hq => exact hq.elim
    | .ok (.ret v'), ⟨v, H2, os, bare, un, hok, rv', q⟩ =>
      have nfr : ∀ {b : Addr} {H : Hp}, FpOk X pins H b → b ∉ frs X.stack := fun {b H} z hb => (List.mem_cons.mp (I.stkSub b hb)).elim z.2.1 z.2.2.1
      have I2' : Inv X pins σ H2 s2 := I'.call' (ch := []) os un hok bare (by simp)
      have fk2 : FpOk X pins H2 kS := ⟨un.free _ _ nk' fk'.1 (by simp), fk'.2⟩
      have fp2 : FpOk X pins H2 p := ⟨un.free _ _ na' fp'.1 (by simp), fp'.2⟩
      have nk2 := un.keep _ _ nk' fk'.1 (nfr fk') (by simp)
      have na2 := un.keep _ _ na' fp'.1 (nfr fp') (by simp)
      have nf2 := un.keep _ _ nf' hf' hff (by simp)
      have hf2' := un.free _ _ nf' hf' (by simp)
      have hks : kA.size = j := by rw [← lk, rk.length, Array.length_toList]
      have sb := Heap.SameBut.update s2.heap kS (Obj.mapSeq (·.push v'))
      obtain ⟨c2, hc2⟩ : ∃ c2, (s2.heap.update kS (Obj.mapSeq (·.push v'))).get? kS = some (seqObj "list" (kA.push v') c2) := ⟨_, get?_update_seq nk2 (·.push v')⟩
      refine wpAny_bind (listUpdate_at nk2 rfl (wpAny_pure ⟨rfl, ?_⟩) (by omega) (by rw [Array.size_push]; omega))
      refine ⟨H2, ks ++ [v], kA.push v', c2, inv_priv (tk := s2.toks) I2' fk2 (fun b ob hb e => (sb.2 b hb).trans e), fk2, fp2, hc2, (sb.2 p hka.symm).trans na2, (sb.2 f hkf.symm).trans nf2, hf2', ?_, by simp [lk], q⟩
      rw [Array.toList_push]
      exact rk.append (.cons rv' .nil)
  case done =>
    rintro s' ⟨H', ks, kA, e, I', fk', fp', nk', na', nf', hf', rk, lk, hk⟩
    rw [Nat.zero_add, List.drop_of_length_le (by omega)] at hk
    obtain ⟨kz, dp, hal, hsk, hdep, hQ⟩ := hk
    have lks : kz.length = its.length := by rw [← dpall_len dp, lk]; omega
    have hks : kA.size = its.length := by rw [← Array.length_toList, ← rk.length, lk]; omega
    obtain ⟨as, ra⟩ := Dp.readsAll I' kz ks kA.toList dp rk
    refine wpAny_bind (listItems_at nk' rfl ?_)
    obtain ⟨G, g1, g2⟩ := restrict s'.heap fun b => decide (b ≠ kS)
    have gS : G.get? kS = none := g2 kS (by simp)
    have gk : ∀ b o, b ≠ kS → s'.heap.get? b = some o → G.get? b = some o := fun b o hb e => by
      rw [g1 b (by simpa using hb)]
      exact e
    have gb : PySem.W.KeepsBut p G s'.heap := fun b o _ e => by
      by_cases hb : b = kS
      · rw [hb, gS] at e
        cases e
      · rw [g1 b (by simpa using hb)] at e
        exact e
    have IG : Inv X pins σ H' { s' with heap := G } := inv_priv (tk := s'.toks) I' fk' gk
    have hun : ∀ d, d ∈ kz → X.A.in1.in1.units + d.depth < cLine := fun d hd => by
      have h1 := hdep d hd
      have h2 := hr.un
      rw [hU]
      omega
    have hE := reads_each ra
    refine PySem.W.keyH_end (κ := PySem.W.dataKind s'.heap kz) gb gS nk' na' hka (PySem.W.SortsAt.data hE hal hsk hun) hks hZ fun h' tk c kp' hp' => ⟨rfl, ?_⟩
    have ko : PySem.W.KeyedOut false ((xs.zip kz).map Prod.snd) its (PySem.W.sortVals (PySem.W.dataKind s'.heap kz) false kA.toList its) := by
      rw [List.map_snd_zip (by omega)]
      exact ⟨s'.heap, kA.toList, hal, rfl, hE⟩
    have rO := vals_of_each (PySem.W.keyedOut_each Prod.snd ko (each_pairs (R := fun u p => RelV p.1 u) rv lks fun _ _ _ r => r))
    refine ⟨.ref p, upd H' p (.lst (((xs.zip kz).mergeSort (PySem.W.dataLe false Prod.snd)).map Prod.fst)), ?_, rfl, hQ p fp'.1⟩
    have hz2 : (((xs.zip kz).mergeSort (PySem.W.dataLe false Prod.snd)).map Prod.fst).length ≤ sizeLine := by
      rw [List.length_map, List.length_mergeSort, List.length_zip]
      omega
    exact Inv.take (s := { s' with heap := G }) (t' := tk) IG (fun b ob hb e => kp' b ob hb e) fp' ⟨hz2, _, c, rO, hp'⟩
end
theorem lam_hu {A : Around} (h : Room 0 A) : A.units + 64 < cLine := by have := h.un; omega
theorem lam_hv {A : Around} (h : Room 0 A) : A.units + 65 < cLine := by have := h.un; omega
end L2
namespace Pd
open PySem PySem.Spec L2 PyProof.Rows
/-! ### the tables of K -/
def HdP (K : PySem.W.Frag) (x : PySem.Str) (P : Addr) : Prop := ∃ (f : Addr) (o : Obj) (fd : FuncData) (c : Addr), PySem.W.nsIn K PySem.mainGlobals x = some (some (.ref f)) ∧ K.lookup f = some o ∧ o.data = .func fd ∧ fd.code = .ref c ∧ PySem.W.codeHdIn K c P = true
theorem codeHd_inj {K : PySem.W.Frag} {c P P' : Addr} (h : PySem.W.codeHdIn K c P = true) (h' : PySem.W.codeHdIn K c P' = true) : P = P' := by
  unfold PySem.W.codeHdIn at h h'
  generalize K.lookup c = z at h h'
  split at h
  · simp only [Bool.and_eq_true] at h h'
    obtain ⟨⟨⟨⟨⟨h1, _⟩, _⟩, _⟩, _⟩, _⟩ := h
    obtain ⟨⟨⟨⟨⟨h1', _⟩, _⟩, _⟩, _⟩, _⟩ := h'
    split at h1
    · rename_i e2
      rw [e2] at h1'
      exact (beq_iff_eq.mp h1).symm.trans (beq_iff_eq.mp h1')
    · cases h1
  · exact absurd h Bool.false_ne_true
theorem HdP.inj {K : PySem.W.Frag} {x : PySem.Str} {P P' : Addr} (h : HdP K x P) (h' : HdP K x P') : P = P' := by
  obtain ⟨f, o, fd, c, e1, e2, e3, e4, e5⟩ := h
  obtain ⟨f', o', fd', c', g1, g2, g3, g4, g5⟩ := h'
  rw [e1] at g1
  cases g1
  rw [e2] at g2
  cases g2
  rw [e3] at g3
  cases g3
  rw [e4] at g4
  cases g4
  exact codeHd_inj e5 g5
open Classical in
noncomputable def TK (K : PySem.W.Frag) : List (Addr × PySem.Str) := lamNames.filterMap fun x => if h : ∃ P, HdP K x.1 P then some (h.choose, x.2) else none
theorem tk_mem {K : PySem.W.Frag} {P : Addr} {q : PySem.Str} : (P, q) ∈ TK K ↔ TbN K P q := by
  unfold TK
  rw [List.mem_filterMap]
  constructor
  · rintro ⟨x, hx, e⟩
    split at e
    · rename_i h
      cases e
      exact ⟨x, hx, rfl, h.choose_spec⟩
    · cases e
  · rintro ⟨x, hx, rfl, h⟩
    refine ⟨x, hx, ?_⟩
    have h' : ∃ P, HdP K x.1 P := ⟨P, h⟩
    rw [dif_pos h', HdP.inj h'.choose_spec h]
theorem tabs_of {K : PySem.W.Frag} {H : Hp} (t : TabK K H) : LamX.Tabs (TK K) H := fun p hp => t p.1 p.2 (tk_mem.mp hp)
theorem tabK_of {K : PySem.W.Frag} {H : Hp} (t : LamX.Tabs (TK K) H) : TabK K H := fun P q h => t (P, q) (tk_mem.mpr h)
/-- the code object cdv of a def whose lambda is q -/
def LamAt (K : PySem.W.Frag) (mg : PySem.Str → Option Value) (base : Heap) (cdv : Value) (q : PySem.Str) : Prop := ∃ c P, cdv = .ref c ∧ LamX.TabB base mg c P ∧ TbN K P q ∧ ∀ q', TbN K P q' → q' = q
end Pd
namespace L2
open PySem PySem.Spec PyProof.Rows LamX NdefX
theorem sql_extN {K : PySem.W.Frag} {H H' : Hp} {a : Addr} {xs : List V} (h : SqL K H a xs) (e : ExtN H H') : SqL K H' a xs := by
  rcases h with (h | ⟨o, h⟩) | h
  · exact .inl (.inl (e _ _ h fun _ z => by cases z))
  · exact .inl (.inr ⟨o, e _ _ h fun _ z => by cases z⟩)
  · exact .inr h
/-- sorted(e, key=lambda a: body); js: where the captured names stand among the running frame's -/
def tSortLam (K : PySem.W.Frag) (q : Str) (N : List Str) (js : List Nat) (te tb : TE) : TE := fun σ H Q => te σ H fun v H0 => ∃ l xs, [v] = [V.ref l] ∧ SqL K H0 l xs ∧ Pd.TabK K H0 ∧
  ∀ c H1, ExtN H0 H1 → Pd.TabK K H1 → H1 c = some (CodeO c q) → tKeys c q tb N (js.map (NdefX.slotAt σ)) xs [] H1 (KEnd K xs Q)
theorem pe_sortLam {X : Cx} {k : Nat} {e : Expr} {te tb : TE} {ar : Arguments} {lb : Expr} {lsc : Scope} {lp kp p pos : Pos} {q a : Str} {N fr : List Str} {js : List Nat} (hr : Room (k + 3) X.A) (L : Pd.LamAt X.K X.mg X.base X.env.code q) (hq : X.env.qual ++ "<lambda>" = q) (he : PE X e te) (hg : Gl X "sorted") (hm : X.mg "sorted" = none)
    (S : LamSc N a fr lsc) (hdef : defaultsOf ar X.env = ([], [])) (hfree : ∀ y ∈ lsc.names, y.2 = .free → X.env.scope.names.lookup y.1 = some .cell ∨ X.env.scope.names.lookup y.1 = some .free) (hfr : ∀ y ∈ fr, (y, NameKind.free) ∈ lsc.names) (hjs : js.map (fun j => X.N[j]?) = fr.map some)
    (hb : ∀ (q : Str) (cl : List (Str × Addr)) (pm cv ctv u : Value), bindArgs (PySem.W.kla_fn "<lambda>" q ar lb lsc cl pm cv ctv) ⟨[u], []⟩ = pure ([a].zip [u]))
    (hbody : ∀ (cl : List (Str × Addr)) (c f : Addr) (A : Around) (s : Shared) (H : Hp), A.guards = X.A.guards → Room k (A.deeper (envF ⟨"<lambda>", q, ar, [], lsc, cl, c⟩ f s.heap.objs.size)) → PE (ncx CX0 X.prog X.w X.K X.mg X.base N ⟨"<lambda>", q, ar, [], lsc, cl, c⟩ f A X.stack s H E0) lb tb)
    (n1 : starEach [e] X.env = (false, eval e X.env) :: starEach [] X.env := by rfl) (n2 : backTo pos (starEach [e] X.env) = (false, eval e X.env) :: backTo pos (starEach [] X.env) := by rfl) (n3 : (backTo pos (starEach [e] X.env)).any (·.1) = false := by rfl) :
    PE X (.Call (.Name "sorted" p) [e] [⟨some "key", .Lambda ar lb lsc lp, kp⟩] pos) (tSortLam X.K q N js te tb) := by
  have ha : PA X [e] (tCons te tNil) := pa_cons he pa_nil (hs := n1)
  refine ⟨fun pins s σ H Q I h => ?_⟩
  refine wpAny_Call_Name_kw (ld_blt I hg hm (u := .builtin "sorted") (by decide +kernel) ?_ (by decide) (by decide))
  have h' : tCons te tNil σ H (fun vs H0 => ∃ l xs, vs = [V.ref l] ∧ SqL X.K H0 l xs ∧ Pd.TabK X.K H0 ∧ ∀ c H1, ExtN H0 H1 → Pd.TabK X.K H1 → H1 c = some (CodeO c q) → tKeys c q tb N (js.map (NdefX.slotAt σ)) xs [] H1 (KEnd X.K xs Q)) := h
  refine PyProof.Rows.callWith_kw (thn (ha.run pos pins s σ H _ I h') fun us s1 ⟨vs, H0, I1, r1, l, xs, ex, hs, hT, hgo⟩ => ?_) n2 n3 rfl rfl
  subst ex
  rw [Vals.ref1 r1]
  obtain ⟨c, P, hc, TB, hP, huq⟩ := L
  show wpAny _ _ (evalAll [(do let v ← eval (.Lambda ar lb lsc lp) X.env; standAt pos; pure v)]) _ _ s1
  refine wpAny_evalAll_cons (wpAny_bind (lam_make2 (T := Pd.TK X.K) I1 TB hc (by rw [hq]; exact Pd.tk_mem.mpr hP) (fun p hp hb => ?_) (Pd.tabs_of hT) ?_ ?_ fun f c' pm ctv H1 s2 I2 eN T1 ho hf0 hff hco => wpAny_bind (wpAny_standAt (wpAny_pure (wpAny_evalAll_nil ?_)))))
  · have e := huq p.2 (by rw [← hb]; exact Pd.tk_mem.mp hp)
    rw [e, hq]
  · exact hdef
  · exact fun y hy e => (hfree y hy e).elim (fun z => I1.ok.has _ (.inl z)) fun z => I1.ok.has _ (.inr z)
  · rw [hq] at ho hco
    exact sort_lam (F := ⟨"<lambda>", q, ar, [], lsc, cloFrom X.env.cells lsc.names [], c'⟩) I2 hr (sql_extN hs eN) ho hf0 hff S (Caps.made I2.ok hfree hfr hjs) (fun u => hb _ _ _ _ _ u) (fun cl A s H hg hr => hbody cl _ _ A s H hg hr) (hgo c' H1 eN (Pd.tabK_of T1) hco)
end L2

/-! Pd23: sorted with a lambda, by values. -/
namespace Pd
open PySem PySem.Spec L2
open Evl (Ex)
open PyProof.Rows
section
variable {K : PySem.W.Frag} {A : Addr → Prop} {M : List Addr} {μ : Mu} {H H' : Hp}
/-! ### behind the making of a lambda -/
theorem MOk.extN (mo : MOk K A M H μ) (e : LamX.ExtN H H') (t : TabK K H') : MOk K A M H' μ ∧ Eff A M μ H M μ H' := by
  have st : ∀ a, (A a ∨ a ∈ M) → ∀ o, H a = some o → H' a = some o := fun a m o h => e a o h (mo.aT a o m h).1
  have nn : ∀ a, (A a ∨ a ∈ M) → H a ≠ none → H' a ≠ none := fun a m hn => by
    cases q : H a with
    | none => exact absurd q hn
    | some o =>
      rw [st a m o q]
      intro z
      cases z
  have ex : Ex (vw A M μ H) (vw A M μ H') := fun a o h => vw_of (vw_some h).1 (e a o (vw_some h).2 (vw_nt h)) (vw_nt h)
  refine ⟨⟨mo.len, mo.nd, mo.nA, fun a m => nn a (.inr m) (mo.al a m), fun a m => nn a (.inl m) (mo.aA a m), t, fun a o m h => ?_, fun k a c h1 h2 => ?_⟩, ⟨Pre.refl _, fun a o m h => st a (.inl m) o h, ex⟩⟩
  · cases q : H a with
    | none => exact absurd q (m.elim (mo.aA a) (mo.al a))
    | some u =>
      rw [st a m u q] at h
      cases h
      exact mo.aT a o m q
  · obtain ⟨o, q1, q2⟩ := mo.ct k a c h1 h2
    exact ⟨o, st a (.inr (List.mem_of_getElem? h1)) o q1, q2.mono ex (Pre.refl _)⟩
theorem vw_code {c : Addr} {q : PySem.Str} (mo : MOk K A M H μ) (h : H c = some (LamX.CodeO c q)) : vw A M μ H c = some (LamX.CodeO c q) := by
  refine vw_of (fun z => ?_) h LamX.codeO_ne
  have m : A c ∨ c ∈ M := z.imp id fun ⟨k, _, h1, _⟩ => List.mem_of_getElem? h1
  exact (mo.aT c _ m h).2 c q rfl
end
/-! ### the slots of the lambda -/
def slG (Γ : G) (j : Nat) : Option W := match Γ[j]? with
  | some o => o
  | none => none
def stF (N : List PySem.Str) (ws : List W) (cs : List (Option W)) : G := ws.map some ++ (cs ++ List.replicate (N.length - ws.length - cs.length) none)
theorem gr_startF {K : PySem.W.Frag} {H : Hp} {M : List Addr} {N : List PySem.Str} {vs : List V} {ws : List W} {σ : L2.St} {Γ : G} {js : List Nat} (h : VRs K H M vs ws) (g : GR K H M σ Γ) : GR K H M (NdefX.startF N vs (js.map (NdefX.slotAt σ))) (stF N ws (js.map (slG Γ))) := by
  have hl := h.length
  refine ⟨by simp [NdefX.startF, stF, hl], fun i w e => ?_⟩
  unfold stF at e
  unfold NdefX.startF
  by_cases h1 : i < ws.length
  · rw [List.getElem?_append_left (by simpa using h1), List.getElem?_map] at e
    cases q : ws[i]? with
    | none => rw [q] at e; cases e
    | some w' =>
      rw [q] at e
      cases e
      obtain ⟨v, e1, e2⟩ := h.getW q
      refine ⟨v, ?_, e2⟩
      rw [List.getElem?_append_left (by rw [List.length_map]; omega), List.getElem?_map, e1]
      rfl
  · rw [List.getElem?_append_right (by simpa using h1)] at e
    rw [List.getElem?_append_right (by rw [List.length_map]; omega)]
    simp only [List.length_map, hl] at e ⊢
    by_cases h2 : i - ws.length < js.length
    · rw [List.getElem?_append_left (by simpa using h2), List.getElem?_map] at e
      rw [List.getElem?_append_left (by simpa using h2), List.getElem?_map]
      rw [List.getElem?_eq_getElem h2] at e ⊢
      have e' : slG Γ js[i - ws.length] = some w := by simpa using e
      unfold slG at e'
      split at e'
      · rename_i o ho
        subst e'
        obtain ⟨v, q1, q2⟩ := g.2 _ _ ho
        exact ⟨v, by simp [NdefX.slotAt_of q1], q2⟩
      · cases e'
    · rw [List.getElem?_append_right (by simpa using h2), List.getElem?_replicate] at e
      split at e <;> cases e
theorem vrs_sorted {K : PySem.W.Frag} {H : Hp} {M : List Addr} {α : Type} {f : α → W} {kf : α → PyData} {ns : List α} {vs : List V} (h : VRs K H M vs (ns.map f)) :
    VRs K H M (((vs.zip (ns.map kf)).mergeSort (PySem.W.dataLe false Prod.snd)).map Prod.fst) ((ns.mergeSort (PySem.W.dataLe false kf)).map f) := by
  have hl : vs.length = ns.length := by rw [h.length, List.length_map]
  have hT : ∀ t ∈ vs.zip ns, VR K H M t.1 (f t.2) := by
    clear hl
    induction ns generalizing vs with
    | nil => intro t ht; simp at ht
    | cons n ns ih =>
      cases h with
      | cons r rs =>
        intro t ht
        rw [List.zip_cons_cons] at ht
        rcases List.mem_cons.mp ht with e | ht
        · rw [e]
          exact r
        · exact ih rs t ht
  have e1 : (vs.zip (ns.map kf)).mergeSort (PySem.W.dataLe false Prod.snd) = ((vs.zip ns).mergeSort fun a b => PySem.W.dataLe false kf a.2 b.2).map (fun t => (t.1, kf t.2)) := by
    rw [List.map_mergeSort (r := fun a b => PySem.W.dataLe false kf a.2 b.2) (f := fun t : V × α => (t.1, kf t.2)) (s := PySem.W.dataLe false Prod.snd) (l := vs.zip ns) (fun a _ b _ => rfl)]
    congr 1
    rw [List.zip_map_right]
    rfl
  have e2 : ns.mergeSort (PySem.W.dataLe false kf) = ((vs.zip ns).mergeSort fun a b => PySem.W.dataLe false kf a.2 b.2).map Prod.snd := by
    rw [List.map_mergeSort (r := fun a b => PySem.W.dataLe false kf a.2 b.2) (f := (Prod.snd : V × α → α)) (s := PySem.W.dataLe false kf) (l := vs.zip ns) (fun a _ b _ => rfl), List.map_snd_zip (by omega)]
  rw [e1, e2, List.map_map, List.map_map]
  have hS : ∀ t ∈ (vs.zip ns).mergeSort fun a b => PySem.W.dataLe false kf a.2 b.2, VR K H M t.1 (f t.2) := fun t ht => hT t (List.mem_mergeSort.mp ht)
  generalize (vs.zip ns).mergeSort (fun a b => PySem.W.dataLe false kf a.2 b.2) = T at hS
  induction T with
  | nil => exact .nil
  | cons t T ih => exact .cons (hS t (by simp)) (ih fun u hu => hS u (by simp [hu]))
theorem dqs_snoc {K : PySem.W.Frag} {H : Hp} {v : V} {d : PyData} (hd : DQ K H v d) : ∀ {vs : List V} {ds : List PyData}, DQs K H vs ds → DQs K H (vs ++ [v]) (ds ++ [d])
  | _, _, .nil => .cons hd .nil
  | _, _, .cons h t => .cons h (dqs_snoc hd t)
theorem ax_sortLam {K : PySem.W.Frag} {q : PySem.Str} {N : List PySem.Str} {js : List Nat} {te tb : TE} {Γ : G} {μ : Mu} {R : W → Mu → Prop} {α : Type} (f : α → W) (kf : α → PyData)
    (h : AX K te Γ μ fun w μ1 => ∃ ns : List α, LW μ1 w (ns.map f) ∧ PySem.W.AllAlike (ns.map kf) ∧ PySem.W.Sortable (ns.map kf) ∧ (∀ n ∈ ns, (kf n).depth ≤ 100) ∧
      (∀ n ∈ ns, AX K tb (stF N [f n] (js.map (slG Γ))) μ1 fun w μ' => w = .d (kf n) ∧ μ' = μ1) ∧ NL ((ns.mergeSort (PySem.W.dataLe false kf)).map f) μ1 R) : AX K (tSortLam K q N js te tb) Γ μ R := fun A M σ H cn Q hQ =>
  h A M σ H cn _ fun M1 H0 v w μ1 mo1 e1 r1 ⟨ns, hw, hal, hsk, hdep, hb, hN⟩ => by
    obtain ⟨a, vs, rfl, hs, rv⟩ := hw.get mo1 r1
    refine ⟨a, vs, rfl, hs, mo1.tb, fun c H1 eN tN hc => ?_⟩
    obtain ⟨mo2, e2⟩ := mo1.extN eN tN
    have g2 : GR K (vw A M1 μ1 H1) M1 σ Γ := (cn.gr.mono e1.ex e1.pre).mono e2.ex e2.pre
    have hc2 := vw_code mo2 hc
    have rv2 : VRs K (vw A M1 μ1 H1) M1 vs (ns.map f) := rv.mono e2.ex e2.pre
    suffices key : ∀ (rest done : List α) (us ks : List V) (M' : List Addr) (H' : Hp), MOk K A M' H' μ1 → Eff A M1 μ1 H1 M' μ1 H' → VRs K (vw A M1 μ1 H1) M1 us (rest.map f) → done ++ rest = ns → DQs K (vw A M' μ1 H') ks (done.map kf) → tKeys c q tb N (js.map (NdefX.slotAt σ)) us ks H' (KEnd K vs Q) from
      key ns [] vs [] M1 H1 mo2 Eff.refl rv2 rfl .nil
    intro rest
    induction rest with
    | nil =>
      intro done us ks M' H' mo' e' ru hd dk
      cases ru
      have hd' : done = ns := by simpa using hd
      subst hd'
      refine ⟨done.map kf, (dpa_mono vw_le dk).dp, hal, hsk, fun d hd => ?_, fun p hp => ?_⟩
      · obtain ⟨n, hn, rfl⟩ := List.mem_map.mp hd
        exact hdep n hn
      · obtain ⟨M2, μ2, w2, m2, e3, r2, hR⟩ := hN.use mo' (vrs_sorted (kf := kf) (rv2.mono e'.ex e'.pre)) hp
        exact hQ M2 _ _ w2 μ2 m2 (((e1.trans e2).trans e').trans e3) r2 hR
    | cons n rest ih =>
      intro done us ks M' H' mo' e' ru hd dk
      cases ru with
      | cons r rs =>
        refine ⟨(vw_some (e'.ex _ _ hc2)).2, ?_⟩
        refine hb n (by rw [← hd]; simp) A M' _ H' ⟨mo', gr_startF (.cons (r.mono e'.ex e'.pre) .nil) (g2.mono e'.ex e'.pre)⟩ _ fun M2 H2 x w2 μ2 mo3 e3 r3 h3 => ?_
        obtain ⟨hw2, hμ⟩ := h3
        subst hw2
        subst hμ
        cases r3 with
        | d dq =>
          refine ih (done ++ [n]) _ _ M2 H2 mo3 (e'.trans e3) rs (by rw [← hd]; simp) ?_
          rw [List.map_append]
          exact dqs_snoc dq (dpa_mono e3.ex dk)
end Pd

/-! Pd24: list(range(..)), xs[::k] with k one of 1, -1. -/
namespace L2
open PySem PySem.Spec PyProof.Rows
/-- xs[::e] -/
def tStepL (K : PySem.W.Frag) (te ts : TE) : TE := fun σ H Q => te σ H fun x H1 => ∃ a, x = .ref a ∧ ts σ H1 fun y H2 => ∃ i, y = .int i ∧ ∃ xs, SqL K H2 a xs ∧ ∃ b : Bool, some i = some (if b then -1 else 1) ∧ ∀ p, H2 p = none → Q (.ref p) (upd H2 p (.lst (if b then xs.reverse else xs)))
theorem pe_stepL {X : Cx} {e es : Expr} {te ts : TE} {p3 pos : Pos} (he : PE X e te) (hs : PE X es ts) (hst0 : ∀ (o i : Value), subscripted (.Slice none none (some es) p3) false o i = operate [o, i] (getItem o i) := by intros; with_unfolding_all rfl) : PE X (.Subscript e (.Slice none none (some es) p3) pos) (tStepL X.K te ts) := by
  refine ⟨fun pins s σ H Q I h => ?_⟩
  refine Subscript_ (thn (he.run pins s σ H _ I h) fun v s1 ⟨x, H1, I1, r1, a, ex, q1⟩ => ?_)
  subst ex
  cases r1
  have hst : PO X (some es) (tPart ts) := po_some hs
  refine wpAny_Slice (thn (po_none.run pins s1 σ H1 (fun o H2 => o = none ∧ H2 = H1) I1 ⟨rfl, rfl⟩) fun vl s2 ⟨l, H2, I2, pl, el, e2⟩ => ?_)
  subst el e2
  refine thn (po_none.run pins s2 σ H2 (fun o H3 => o = none ∧ H3 = H2) I2 ⟨rfl, rfl⟩) fun vu s3 ⟨u, H3, I3, pu, eu, e3⟩ => ?_
  subst eu e3
  have h3 : tPart ts σ H3 fun o H4 => ∃ xs, SqL X.K H4 a xs ∧ ∃ b : Bool, o = some (if b then -1 else 1) ∧ ∀ p, H4 p = none → Q (.ref p) (upd H4 p (.lst (if b then xs.reverse else xs))) := q1
  refine thn (hst.run pins s3 σ H3 _ I3 h3) fun vs s4 ⟨o, H4, I4, ps, xs, hx, b, eo, q⟩ => ?_
  subst eo
  have I5 : Inv X pins σ H4 { s4 with heap := s4.heap.push { cls := .type "slice", data := .fields #[vl, vu, vs] } } := I4.kept (t' := s4.toks) fun b ob q => Heap.get?_push_of_some _ q
  obtain ⟨its, r, ht, hz⟩ := I5.list hx
  have hlen := r.length
  show wpAny (model X.prog X.w) X.A (subscriptTail e (.Slice none none (some es) p3) (.ref a) (.ref s4.heap.objs.size)) (EP X pins σ Q) X.xe { s4 with heap := s4.heap.push { cls := .type "slice", data := .fields #[vl, vu, vs] } }
  refine tail_any (ops := [.ref a, .ref s4.heap.objs.size]) ht.isList.typeIs (PySem.slot_list_getitem.lookup) ?_ (hst0 _ _)
  refine wpAny_getItem_list_slice ht.isList (Heap.IsSliceOf.new _ vl vu vs) pl pu ps (by cases b <;> decide) ?_ (by rw [List.size_toArray]; omega)
  have hp : slicePick its.toArray none none (some (if b = true then -1 else 1)) = (if b = true then its.reverse else its).toArray := by
    cases b with
    | true =>
      rw [if_pos rfl, if_pos rfl, PySem.W.krv_pick]
    | false =>
      rw [if_neg (by decide), if_neg (by decide)]
      exact slicePick_all _
  rw [hp]
  have rb : Vals (if b = true then xs.reverse else xs) (if b = true then its.reverse else its) := by
    cases b with
    | true => exact r.reverse
    | false => exact r
  have hl2 : (if b = true then xs.reverse else xs).length ≤ sizeLine := by
    cases b with
    | true => rw [if_pos rfl, List.length_reverse]; exact hz
    | false => exact hz
  refine ⟨.ref _, _, I5.laid (t' := s4.toks) (o := .lst (if b = true then xs.reverse else xs)) (fun b ob q => Heap.get?_push_of_some _ q) (Nat.le_refl _) ?_, rfl, q _ (I5.hok.fresh (Nat.le_refl _))⟩
  exact ⟨hl2, _, 0, rb, Heap.get?_push_size _ rfl⟩
end L2
namespace Pd
open PySem PySem.Spec L2
open Evl (Ex)
open PyProof.Rows
section
variable {K : PySem.W.Frag} {Γ : G} {μ : Mu} {R : W → Mu → Prop} {te ts : TE}
theorem ax_stepL (h : AX K te Γ μ fun x μ1 => (∃ ws, LW μ1 x ws) ∧ AX K ts Γ μ1 fun y μ2 => ∃ (b : Bool) (ws : List W), y = .d (.int (if b then -1 else 1)) ∧ LW μ2 x ws ∧ NL (if b then ws.reverse else ws) μ2 R) : AX K (tStepL K te ts) Γ μ R := fun A M σ H c Q q =>
  h A M σ H c _ fun M1 H1 v x μ1 mo1 e1 r1 ⟨⟨ws0, h0⟩, h1⟩ => by
    obtain ⟨a, _, rfl, _, _⟩ := h0.get mo1 r1
    refine ⟨a, rfl, h1 A M1 σ H1 (c.eff e1 mo1) _ fun M2 H2 u y μ2 mo2 e2 r2 ⟨b, ws, hy, hx, hn⟩ => ?_⟩
    subst hy
    obtain ⟨a', vs, ea, hs, rs⟩ := hx.get mo2 (r1.mono e2.ex e2.pre)
    cases ea
    refine ⟨_, vr_int r2, vs, hs, b, rfl, fun p hp => ?_⟩
    have rb : VRs K (vw A M2 μ2 H2) M2 (if b = true then vs.reverse else vs) (if b = true then ws.reverse else ws) := by
      cases b with
      | true => exact rs.reverse
      | false => exact rs
    obtain ⟨M3, μ3, w, m3, e3, r3, hR⟩ := hn.use mo2 rb hp
    exact q M3 _ _ w μ3 m3 ((e1.trans e2).trans e3) r3 hR
/-- list(range(n)) -/
def rgI (a b : Int) : List Int := (List.range (b - a).toNat).map fun i => a + (i : Nat)
theorem vrs_rg {H : Hp} {M : List Addr} (a b : Int) : VRs K H M (L2.rgV a b) (wInts (rgI a b)) := by
  unfold L2.rgV rgI wInts
  generalize List.range (b - a).toNat = l
  induction l with
  | nil => exact .nil
  | cons n l ih => exact .cons (.d (.int _)) ih
theorem ax_listRg1 (h : AX K te Γ μ fun w μ1 => ∃ n : Int, w = .d (.int n) ∧ (-16777216 ≤ n ∧ n ≤ 16777216) ∧ NL (wInts (rgI 0 n)) μ1 R) : AX K (tLstRg (tRg1 te)) Γ μ R := fun A M σ H c Q q =>
  h A M σ H c _ fun M1 H1 v w μ1 mo1 e1 r1 ⟨n, hw, hb, hn⟩ => by
    subst hw
    refine ⟨n, vr_int r1, ⟨by omega, by omega, by omega, by omega, by omega⟩, fun p hp => ?_⟩
    obtain ⟨M3, μ3, w, m3, e3, r3, hR⟩ := hn.use mo1 (vrs_rg 0 n) hp
    exact q M3 _ _ w μ3 m3 (e1.trans e3) r3 hR
theorem ax_listRg2 (h : AX K te Γ μ fun w μ1 => ∃ m : Int, w = .d (.int m) ∧ AX K ts Γ μ1 fun u μ2 => ∃ n : Int, u = .d (.int n) ∧ (-8000000 ≤ m ∧ m ≤ 8000000 ∧ -8000000 ≤ n ∧ n ≤ 8000000) ∧ NL (wInts (rgI m n)) μ2 R) : AX K (tLstRg (tRg2 te ts)) Γ μ R := fun A M σ H c Q q =>
  h A M σ H c _ fun M1 H1 v w μ1 mo1 e1 r1 ⟨m, hw, h1⟩ => by
    subst hw
    refine h1 A M1 σ H1 (c.eff e1 mo1) _ fun M2 H2 u y μ2 mo2 e2 r2 ⟨n, hy, hb, hn⟩ => ?_
    subst hy
    refine ⟨m, n, vr_int r1, vr_int r2, ⟨by omega, by omega, by omega, by omega, by omega⟩, fun p hp => ?_⟩
    obtain ⟨M3, μ3, w, m3, e3, r3, hR⟩ := hn.use mo2 (vrs_rg m n) hp
    exact q M3 _ _ w μ3 m3 ((e1.trans e2).trans e3) r3 hR
end
end Pd

/-! Pd25: the law's end where lambdas are made: their tables are empty at the start. -/
namespace Pd
open PySem PySem.Spec L2
open Evl (Ex)
open PyProof.Rows
abbrev tab0 : Obj := { cls := .none, data := .fields #[] }
/-- at the law's start nothing is tracked but the script and the tables -/
structure OnlyT (cs : List (Addr × Addr)) (H : Hp) : Prop where
  tab : ∀ p ∈ cs, H p.2 = some (.tbl #[])
  oth : ∀ b u, H b = some u → b ∈ cs.map (·.2) ∨ ∃ o xs, u = .frz o (.lst xs)
theorem law_callT {P : Program} {w : World} {K : PySem.W.Frag} {mg mb : Str → Option Value} {CX : CXT} {k : Nat} {fa a : Addr} {cs : List (Addr × Addr)} {fd : FuncData} {x : Str} {sp : Sp} {s₁ : Shared} {vs : List Value} {ns : List Int}
    (KX : K.In s₁.heap) (hns : s₁.heap.Ns mainGlobals mg) (hb : s₁.heap.Ns builtinsNs mb) (hbb : ∀ x : Str, x ≠ "__name__" → mb x = bootBuiltins x) (hlim : s₁.heap.NoLimit) (hg : s₁.gens = #[])
    (hbm : ∃ (bm : Addr) (ob : Obj), mg "__builtins__" = some (.ref bm) ∧ bm ≠ builtinsNs ∧ s₁.heap.get? bm = some ob ∧ ob.cls = .type "module" ∧ ob.dict = some builtinsNs ∧ ob.data = .plain)
    (hT : ∀ p ∈ cs, s₁.heap.get? p.2 = some tab0 ∧ K.lookup p.2 = none ∧ PySem.W.codeHdIn K p.1 p.2 = true)
    (ha : s₁.heap.get? a = some { cls := .type "list", data := .seq vs.toArray }) (hi : IntsAre vs ns) (hl : ns.length ≤ sizeLine) (hr : Room k callerA)
    (F : ∀ base : Heap, K.In base → base.Ns mainGlobals mg → (∀ p ∈ cs, LamX.TabB base mg p.1 p.2) → FnG P w K mg base CX k fa fd [x] sp) (hbd : ∀ (s : Shared) (u : Value), BindsTo s fd ⟨[u], []⟩ [(x, u)])
    (hsp : ∀ H : Hp, OnlyT cs H → SqL K H a (ns.map V.int) → sp [.ref a] H (fun v _ => v = .bl true) fun _ _ _ => False) (hCX : ∀ H e s', CX [] H s₁ (fun _ _ _ => False) e s' → False) :
    codeAny (model P w) callerA (.call (.ref fa) ⟨[.ref a], []⟩) (fun r s' => r = .ok (.ret (.bool true)) ∧ OldK s₁.heap s'.heap ∧ s'.os = s₁.os ∧ AllBare s'.gens) s₁ := by
  have rv := vals_ints hi
  have inT : ∀ b, b ∈ cs.map (·.2) → ∃ p ∈ cs, p.2 = b := fun b z => by
    obtain ⟨p, hp, e⟩ := List.mem_map.mp z
    exact ⟨p, hp, e⟩
  have aT : a ∉ cs.map (·.2) := fun z => by
    obtain ⟨p, hp, e⟩ := inT a z
    have q := (hT p hp).1
    rw [e, ha] at q
    cases q
  have gN : ∀ {b : Addr} {m : Str → Option Value}, s₁.heap.Ns b m → ∀ p ∈ cs, b ≠ p.2 := fun {b m} ⟨o, es, ep, e, d, _⟩ p hp z => by
    rw [z, (hT p hp).1] at e
    cases e
    cases d
  have core : ∀ H : Hp, OnlyT cs H → SqL K H a (ns.map V.int) → HOk P w H s₁.heap → (∀ b u, H b = some u → b ∈ cs.map (·.2) ∨ (b = a ∧ K.lookup a = none)) →
      codeAny (model P w) callerA (.call (.ref fa) ⟨[.ref a], []⟩) (fun r s' => r = .ok (.ret (.bool true)) ∧ OldK s₁.heap s'.heap ∧ s'.os = s₁.os ∧ AllBare s'.gens) s₁ := fun H hO hS hok hA => by
    have un0 : ∀ {b : Addr} {o : Obj}, s₁.heap.get? b = some o → (∀ xs n, o.data ≠ .seq xs n) → (∀ xs, o.data ≠ .fields xs) → H b = none := fun {b o} e n1 n2 => by
      cases q : H b with
      | none => rfl
      | some u =>
        rcases hA b u q with z | ⟨z, _⟩
        · obtain ⟨p, hp, ep⟩ := inT b z
          rw [← ep, (hT p hp).1] at e
          cases e
          exact absurd rfl (n2 _)
        · rw [z, ha] at e
          cases e
          exact absurd rfl (n1 _ _)
    have toK : ∀ {b : Addr} {m : Str → Option Value}, s₁.heap.Ns b m → (hidT s₁.heap H).Ns b m := fun {b m} ⟨o, es, ep, e, d, r⟩ => ⟨o, es, ep, hidT_get e (un0 e (fun _ _ z => by rw [d] at z; cases z) fun _ z => by rw [d] at z; cases z), d, r⟩
    have KB : K.In (hidT s₁.heap H) := fun b o e => hidT_get (KX b o e) (by
      cases q : H b with
      | none => rfl
      | some u =>
        rcases hA b u q with z | ⟨z, y⟩
        · obtain ⟨p, hp, ep⟩ := inT b z
          rw [← ep, (hT p hp).2.1] at e
          cases e
        · rw [z, y] at e
          cases e)
    have md : Mod K mg (hidT s₁.heap H) := ⟨KB, toK hns, ⟨mb, toK hb, hbb⟩, let ⟨mc, h1, h2⟩ := hlim; ⟨mc, toK h1, h2⟩⟩
    have TB : ∀ p ∈ cs, LamX.TabB (hidT s₁.heap H) mg p.1 p.2 := fun p hp => by
      obtain ⟨bm, ob, b1, b2, b3, b4, b5, b6⟩ := hbm
      refine NdefX.tabB_of_K KB (hT p hp).2.2 ⟨bm, ob, b1, b2, fun z => ?_, fun z => ?_, hidT_get b3 (un0 b3 (fun _ _ z => by rw [b6] at z; cases z) fun _ z => by rw [b6] at z; cases z), b4, b5, b6⟩ (gN hns p hp)
      · obtain ⟨o, es, ep, e, d, _⟩ := hns
        rw [z, e] at b3
        cases b3
        rw [d] at b6
        cases b6
      · rw [z, (hT p hp).1] at b3
        cases b3
        cases b6
    have e0 : Env0 P w K mg (hidT s₁.heap H) callerA [] s₁ H := ⟨rfl, md, fun b o e => of_hidT e, Nat.le_of_eq (hidT_size _ _), trivial, fun b hb => (by cases hb), hok, .of_eq hg⟩
    refine codeAny_mono ((F _ KB (toK hns) TB).go callerA [] s₁ H ⟨[.ref a], []⟩ [.ref a] [.ref a] _ _ hr rfl e0 (hbd s₁ (.ref a)) (.cons rfl .nil) (hsp H hO hS)) fun r s' h => ?_
    match r, h with
    | .error e, h => exact (hCX H e s' h).elim
    | .ok (.ret u), ⟨v, H', os, bare, un, hok', r', q⟩ =>
      have q' : v = .bl true := q
      subst q'
      obtain rfl : u = Value.bool true := r'
      have all : ∀ b o, s₁.heap.get? b = some o → s'.heap.get? b = some o ∨ ∃ p ∈ cs, p.2 = b ∧ o = tab0 ∧ ∃ more, s'.heap.get? b = some { cls := .none, data := .fields (#[] ++ more) } := fun b o e => by
        cases q : H b with
        | none => exact .inl (un.keep b o e q (fun z => by cases z) (by simp))
        | some u =>
          rcases hO.oth b u q with z | ⟨ob, xs, z⟩
          · obtain ⟨p, hp, ep⟩ := inT b z
            obtain ⟨more, y⟩ := un.tbls p.2 #[] (hO.tab p hp)
            subst ep
            rw [(hT p hp).1] at e
            cases e
            exact .inr ⟨p, hp, rfl, rfl, more, hok' p.2 _ y⟩
          · subst z
            have e1 := (hok b _ q).1
            have e2 := (hok' b _ (un.frzs b ob _ q)).1
            rw [e] at e1
            cases e1
            exact .inl e2
      refine ⟨rfl, ⟨fun b o e => ?_, fun b o e => ?_⟩, os, bare⟩
      · rcases all b o e with z | ⟨p, hp, ep, eo, more, y⟩
        · exact .inl z
        · subst ep eo
          exact .inr (.inl ⟨((PySem.W.codeHd_of_K KX (hT p hp).2.2).tab (hT p hp).1).isCodeTable, rfl, #[], more, rfl, y⟩)
      · rcases all b o e with z | ⟨p, hp, ep, eo, more, y⟩
        · exact ⟨o, z⟩
        · exact ⟨_, y⟩
  have hTok : ∀ {H : Hp} {b : Addr} {u : HO}, b ∈ cs.map (·.2) → u = .tbl #[] → ObjOk P w H s₁.heap b u := fun {H b u} hb hu => by
    obtain ⟨p, hp, ep⟩ := inT b hb
    subst ep hu
    exact (hT p hp).1
  have mT : ∀ p ∈ cs, p.2 ∈ cs.map (·.2) := fun p hp => List.mem_map.mpr ⟨p, hp, rfl⟩
  cases hk : K.lookup a with
  | some o =>
    have e := KX a o hk
    rw [ha] at e
    cases e
    have of_ : ∀ {b : Addr} {u : HO}, (if b ∈ cs.map (·.2) then some (HO.tbl #[]) else none) = some u → b ∈ cs.map (·.2) ∧ u = .tbl #[] := fun {b u} z => by
      by_cases hb : b ∈ cs.map (·.2)
      · rw [if_pos hb] at z
        exact ⟨hb, (Option.some.inj z).symm⟩
      · rw [if_neg hb] at z
        cases z
    exact core (fun b => if b ∈ cs.map (·.2) then some (.tbl #[]) else none) ⟨fun p hp => if_pos (mT p hp), fun b u z => .inl (of_ z).1⟩ (.inr ⟨_, vs.toArray, _, hk, rfl, rfl, rfl, by rw [List.size_toArray, hi.length]; exact hl, by simpa using rv⟩)
      (fun b u z => hTok (of_ z).1 (of_ z).2) fun b u z => .inl (of_ z).1
  | none =>
    have of_ : ∀ {b : Addr} {u : HO}, (if b = a then some (HO.frz { cls := .type "list", data := .seq vs.toArray } (.lst (ns.map V.int))) else if b ∈ cs.map (·.2) then some (HO.tbl #[]) else none) = some u →
        (b = a ∧ u = .frz { cls := .type "list", data := .seq vs.toArray } (.lst (ns.map V.int))) ∨ (b ∈ cs.map (·.2) ∧ u = .tbl #[]) := fun {b u} z => by
      by_cases hb : b = a
      · rw [if_pos hb] at z
        exact .inl ⟨hb, (Option.some.inj z).symm⟩
      · rw [if_neg hb] at z
        by_cases hb2 : b ∈ cs.map (·.2)
        · rw [if_pos hb2] at z
          exact .inr ⟨hb2, (Option.some.inj z).symm⟩
        · rw [if_neg hb2] at z
          cases z
    refine core (fun b => if b = a then some (.frz { cls := .type "list", data := .seq vs.toArray } (.lst (ns.map V.int))) else if b ∈ cs.map (·.2) then some (.tbl #[]) else none)
      ⟨fun p hp => by rw [if_neg fun z => aT (by rw [← z]; exact mT p hp), if_pos (mT p hp)], fun b u z => ?_⟩ (.inl (.inr ⟨{ cls := .type "list", data := .seq vs.toArray }, if_pos rfl⟩)) (fun b u z => ?_) (fun b u z => ?_)
    · rcases of_ z with ⟨_, y⟩ | ⟨y, _⟩
      · exact .inr ⟨_, _, y⟩
      · exact .inl y
    · rcases of_ z with ⟨rfl, rfl⟩ | ⟨y1, y2⟩
      · exact ⟨ha, by rw [List.length_map]; exact hl, vs, _, rv, ha⟩
      · exact hTok y1 y2
    · rcases of_ z with ⟨y, _⟩ | ⟨y, _⟩
      · exact .inr ⟨y, hk⟩
      · exact .inl y
/-- the goal that the head leaves, from the law's promise -/
theorem walk_ofT {l : PySem.W.OpenLaw} {n k : Nat} {q : Program} {loose : List Str} {XP : (Str → Option Value) → Heap → Prop} {YP : World → Heap → Prop} {d : DefRec} {K : Params → PySem.W.Frag} {CX : World → CXT} {sp : World → Sp} {x : Str}
    (hn : l.most = some n) (hn2 : n ≤ sizeLine) (hdf : d.params.defaults = []) (hr : Room k callerA) (hY : ∀ (w : World) (h : Heap), YP w h → (K w.params).In h)
    (F : ∀ (w : World) (mg : Str → Option Value) (fa : Addr) (h : Heap), YP w h → (K w.params).In h → h.Ns mainGlobals mg → mg d.name = some (.ref fa) →
      ∃ (fd : FuncData) (cs : List (Addr × Addr)), (∀ p ∈ cs, h.get? p.2 = some tab0 ∧ (K w.params).lookup p.2 = none ∧ PySem.W.codeHdIn (K w.params) p.1 p.2 = true) ∧ (∀ P q, TbN (K w.params) P q → P ∈ cs.map (·.2)) ∧ (∀ (s : Shared) (u : Value), BindsTo s fd ⟨[u], []⟩ [(x, u)]) ∧
        ∀ base : Heap, (K w.params).In base → base.Ns mainGlobals mg → (∀ p ∈ cs, LamX.TabB base mg p.1 p.2) → FnG l.prog w (K w.params) mg base (CX w) k fa fd [x] (sp w))
    (hsp : ∀ (w : World) (H : Hp) (a : Addr) (ns : List Int), ns.length ≤ n → TabK (K w.params) H → SqL (K w.params) H a (ns.map V.int) → sp w [.ref a] H (fun v _ => v = .bl true) fun _ _ _ => False)
    (hCX : ∀ (w : World) (H : Hp) (s : Shared) (e : Value) (s' : Shared), CX w [] H s (fun _ _ _ => False) e s' → False) : PySem.W.WalkO q loose XP YP l.row.toRowW d [] (fun f vs => PySem.call f vs) :=
  Att.attach_call hn hdf fun w s₀ s₁ mg mb fa o pm cd doc a vs ns G Y ho hd hcd hmg hobj hints hlen hg => by
    have KX := hY w _ Y
    obtain ⟨fd, cs, hT, hcs, hb, hF⟩ := F w mg fa _ Y KX G.T.g hmg
    refine law_callT KX G.T.g G.T.b G.T.builtins G.T.nolimit hg G.T.bmain hT hobj hints (Nat.le_trans hlen hn2) hr hF hb (fun H hO hS => hsp w H a ns hlen (fun P q hP => ?_) hS) fun H e s' => hCX w H s₁ e s'
    obtain ⟨p, hp, e⟩ := List.mem_map.mp (hcs P q hP)
    exact LamX.TabS.nil (by rw [← e]; exact hO.tab p hp)
/-- a def that makes a lambda -/
theorem fnG_okL {P : Program} {w : World} {K : PySem.W.Frag} {mg : Str → Option Value} {base : Heap} {x qual q : Str} {st : Stmt} {f : Addr} {fd : FuncData} {N ps : List Str} {k : Nat} {F : FS} (Fu : Fun K x qual st f fd) (L : LamAt K mg base fd.code q) (S : FnScope N ps (defScope st)) (len : ∀ ws μ R, F ws μ R → ws.length = ps.length)
    (hbody : ∀ (cdv : Value) (A : Around) (fr : List Env) (s : Shared) (H : Hp) (E : XK), LamAt K mg base cdv q → Room k (A.deeper (envOfC qual (defScope st) s.heap.objs.size f cdv)) → (A.deeper (envOfC qual (defScope st) s.heap.objs.size f cdv)).guards = some [] →
      ∃ t, PSs (cxOf CX0 P w K mg base N qual (defScope st) f cdv A fr s H E).nox (defBody st) t ∧ ∀ ws μ R, F ws μ R → AS K t { nx := fun _ μ' => R (.d .none) μ', rt := R } (stG N ws) μ) : FnG P w K mg base CX0 (k + 1) f fd ps (spD K F) := by
  obtain ⟨oc, od, kV, doc, pm, an, cdv, ct, osl, rfl, lk, hcd⟩ := Fu.ex
  refine fnG_of lk hcd S (fun vs H Q E ⟨A, M, μ, ws, R, mo, r, h, _⟩ => by rw [r.length]; exact len ws μ R h) fun A fr s H vs Q E hr hgd ⟨A', M, μ, ws, R, mo, r, h, q⟩ => ?_
  obtain ⟨t, ht, hs⟩ := hbody cdv A fr s H E L hr hgd
  exact ⟨t, ht.nox, hs ws μ R h A' M _ H ⟨mo, gr_start r⟩ _ ⟨fun M' σ' H' Γ' μ' c e h => q M' H' _ _ μ' c.mo e (.d .non) h, fun M' H' v w μ' mo' e' r' h => q M' H' v w μ' mo' e' r' h, fun _ _ _ _ _ _ _ h => h.elim, fun _ _ _ _ _ _ _ h => h.elim, fun _ _ _ _ _ _ _ _ _ _ _ _ h => h.elim⟩⟩
end Pd

/-! Pd26: zip of a list and a tuple. -/
namespace L2
open PySem PySem.Spec PyProof.Rows
/-- what an iterator at it over the object at l does, its items xs: At where it stands, Sr what its object is -/
structure Src (it l : Addr) (At : Nat → Heap → Prop) (Sr : Heap → Prop) (xs : Array Value) : Prop where
  keepA : ∀ i h h', At i h → (∀ o, h.get? it = some o → h'.get? it = some o) → At i h'
  keepS : ∀ h h', Sr h → (∀ o, h.get? l = some o → h'.get? l = some o) → Sr h'
  alive : ∀ i h, At i h → it < h.objs.size
  item : ∀ (P : Program) (w : World) (A : Around) (E : Value → Shared → Prop) (s : Shared) (i : Nat) (x : Value) (Q : Value → Shared → Prop), At i s.heap → Sr s.heap → xs[i]? = some x →
    (∀ g, At (i + 1) g → Heap.SameBut it s.heap g → Q x { s with heap := g }) → wpAny (model P w) A (Builtin.SmallTypes.nextOf (.ref it)) Q E s
  stop : ∀ (P : Program) (w : World) (A : Around) (E : Value → Shared → Prop) (s : Shared) (i : Nat) (Q : Value → Shared → Prop), A.handled = none → At i s.heap → Sr s.heap → xs[i]? = none →
    (∀ g e, Heap.ExtBut it s.heap g → (∃ o, g.get? e = some o ∧ o.cls = .type "StopIteration") → E (.ref e) { s with heap := g }) → wpAny (model P w) A (Builtin.SmallTypes.nextOf (.ref it)) Q E s
theorem src_list (it l : Addr) (xs : Array Value) : Src it l (fun i h => h.IsListIter it l i) (fun h => h.IsList l xs) xs where
  keepA := fun _ _ _ a k => a.at k
  keepS := fun _ _ ⟨o, e, r⟩ k => ⟨o, k o e, r⟩
  alive := fun _ _ ⟨_, e, _⟩ => Heap.lt_size e
  item := fun _ _ _ _ _ _ _ _ a s hx q => wpAny_nextOf_list_item a s hx q
  stop := fun _ _ _ _ _ _ _ hh a s hx q => wpAny_nextOf_list_end hh a s hx q
theorem src_tup (it l : Addr) (xs : Array Value) : Src it l (fun i h => h.IsTupleIter it l i) (fun h => h.IsTuple l xs) xs where
  keepA := fun _ _ _ a k => a.at k
  keepS := fun _ _ ⟨o, e, r⟩ k => ⟨o, k o e, r⟩
  alive := fun _ _ ⟨_, e, _⟩ => Heap.lt_size e
  item := fun _ _ _ _ _ _ _ _ a s hx q => RZ.nextOf_tuple_item a s hx q
  stop := fun _ _ _ _ _ _ _ hh a s hx q => RZ.nextOf_tuple_end hh a s hx q
section
variable {P : Program} {w : World} {A : Around} {E : Value → Shared → Prop} {s : Shared} {z TI TO i1 i2 l1 l2 : Addr} {At1 At2 : Nat → Heap → Prop} {Sr1 Sr2 : Heap → Prop} {xs ys : Array Value} {n m : Nat} {a b : Value}
theorem zipS_item {x y : Value} {Q : Value → Shared → Prop} (S1 : Src i1 l1 At1 Sr1 xs) (S2 : Src i2 l2 At2 Sr2 ys) (D : ZipApart z TI TO i1 i2 l1 l2) (hz : IsZip s.heap z TI TO .none) (hI : IsPair s.heap TI (.ref i1) (.ref i2)) (hO : IsPair s.heap TO a b)
    (p1 : At1 n s.heap) (p2 : At2 m s.heap) (r1 : Sr1 s.heap) (r2 : Sr2 s.heap) (hx : xs[n]? = some x) (hy : ys[m]? = some y)
    (q : ∀ g, IsZip g z TI TO (rawInt s.heap.objs.size) → IsPair g TO x y → At1 (n + 1) g → At2 (m + 1) g → IsPair g s.heap.objs.size x y → g.objs.size = s.heap.objs.size + 1 →
      (∀ c o, c ≠ z → c ≠ TO → c ≠ i1 → c ≠ i2 → s.heap.get? c = some o → g.get? c = some o) → Q (.ref s.heap.objs.size) { s with heap := g }) :
    wpAny (model P w) A (Builtin.«zip.__next__» ⟨[.ref z], []⟩) (fun fin s' => ∃ v, fin = .done (.ret v) ∧ Q v s') E s := by
  show wpAny _ _ (field (.ref z) 2 >>= _) _ _ _
  refine wpAny_bind (wpAny_field hz rfl (x := .bool false) rfl ?_)
  show wpAny _ _ (field (.ref z) 3 >>= _) _ _ _
  refine wpAny_bind (wpAny_field hz rfl (x := .ref TI) rfl (wpAny_bind (wpAny_seqItems hI rfl ?_)))
  show wpAny _ _ (Builtin.SmallTypes.ownedTupleIsFree (.ref z) >>= _) _ _ _
  refine wpAny_bind ?_
  unfold Builtin.SmallTypes.ownedTupleIsFree
  refine wpAny_bind (wpAny_field hz rfl (x := .none) rfl (wpAny_pure ?_))
  simp only [if_true]
  refine wpAny_bind (wpAny_rule (wpAny_bind (wpAny_field hz rfl (x := .ref TO) rfl (wpAny_bind (wpAny_setField_rec hz (by simp) fun g1 z1 k1 => ?_)))))
  replace z1 : IsZip g1 z TI TO .ellipsis := z1
  refine wpAny_bind ?_
  simp only [List.zipIdx_cons, List.zipIdx_nil, List.forIn_cons, List.forIn_nil]
  refine wpAny_bind (wpAny_bind (wpAny_onRaise ?_))
  show wpAny _ _ (Builtin.SmallTypes.nextOf (.ref i1) >>= _) _ _ _
  have e1 : ∀ {c : Addr} {o : Obj}, c ≠ z → s.heap.get? c = some o → g1.get? c = some o := fun n e => k1.extBut _ _ n e
  refine wpAny_bind (S1.item _ _ _ _ _ n x _ (S1.keepA _ _ _ p1 fun o => e1 D.i1z) (S1.keepS _ _ r1 fun o => e1 D.l1z) hx fun g2 p1' k2 => wpAny_pure ?_)
  have e2 : ∀ {c : Addr} {o : Obj}, c ≠ z → c ≠ i1 → s.heap.get? c = some o → g2.get? c = some o := fun n n' e => k2.extBut _ _ n' (e1 n e)
  have hO2 : IsPair g2 TO a b := e2 D.TOz D.TOi1 hO
  refine wpAny_bind (wpAny_seqItems hO2 rfl (wpAny_bind (wpAny_updateSeq_pair hO2 fun g3 hO3 k3 => ?_)))
  replace hO3 : IsPair g3 TO x b := hO3
  have e3 : ∀ {c : Addr} {o : Obj}, c ≠ z → c ≠ i1 → c ≠ TO → s.heap.get? c = some o → g3.get? c = some o := fun n n' n'' e => k3.extBut _ _ n'' (e2 n n' e)
  refine wpAny_bind (wpAny_letGo (wpAny_pure (wpAny_bind (wpAny_bind (wpAny_onRaise ?_)))))
  show wpAny _ _ (Builtin.SmallTypes.nextOf (.ref i2) >>= _) _ _ _
  refine wpAny_bind (S2.item _ _ _ _ _ m y _ (S2.keepA _ _ _ p2 fun o => e3 D.i2z D.i12.symm D.TOi2.symm) (S2.keepS _ _ r2 fun o => e3 D.l2z D.l2i1 D.l2TO) hy fun g4 p2' k4 => wpAny_pure ?_)
  have hO4 : IsPair g4 TO x b := k4.extBut _ _ D.TOi2 hO3
  refine wpAny_bind (wpAny_seqItems hO4 rfl (wpAny_bind (wpAny_updateSeq_pair hO4 fun g5 hO5 k5 => ?_)))
  replace hO5 : IsPair g5 TO x y := hO5
  refine wpAny_bind (wpAny_letGo (wpAny_pure (wpAny_pure (wpAny_bind (wpAny_seqItems hO5 rfl (wpAny_bind (wpAny_newTuple ?_)))))))
  have sz : g5.objs.size = s.heap.objs.size := by rw [k5.1, k4.1, k3.1, k2.1, k1.1]
  have z5 : IsZip g5 z TI TO .ellipsis := k5.extBut _ _ D.TOz.symm (k4.extBut _ _ D.i2z.symm (k3.extBut _ _ D.TOz.symm (k2.extBut _ _ D.i1z.symm z1)))
  have e5 : ∀ c o, c ≠ z → c ≠ TO → c ≠ i1 → c ≠ i2 → s.heap.get? c = some o → g5.get? c = some o := fun c o n n' n'' n3 e => k5.extBut _ _ n' (k4.extBut _ _ n3 (e3 n n'' n' e))
  have q1 : At1 (n + 1) g5 := S1.keepA _ _ _ p1' fun o e => k5.extBut _ _ D.TOi1.symm (k4.extBut _ _ D.i12 (k3.extBut _ _ D.TOi1.symm e))
  have q2 : At2 (m + 1) g5 := S2.keepA _ _ _ p2' fun o e => k5.extBut _ _ D.TOi2.symm e
  have zlt : z < g5.objs.size := Heap.lt_size z5
  show wpAny _ _ (Builtin.SmallTypes.ownedTupleHandOut (.ref z) (.ref g5.objs.size) >>= _) _ _ _
  refine wpAny_bind ?_
  unfold Builtin.SmallTypes.ownedTupleHandOut
  have z6 : IsZip (g5.push { cls := .type "tuple", data := .seq #[x, y] }) z TI TO .ellipsis := Heap.get?_push_of_some _ z5
  refine wpAny_bind (wpAny_setField_rec z6 (by simp) fun g7 z7 k7 => ?_)
  replace z7 : IsZip g7 z TI TO (rawInt g5.objs.size) := z7
  refine wpAny_setField_rec z7 (by simp) fun g8 z8 k8 => ?_
  replace z8 : IsZip g8 z TI TO (rawInt g5.objs.size) := z8
  have up : ∀ c o, c ≠ z → g5.get? c = some o → g8.get? c = some o := fun c o n e => k8.extBut _ _ n (k7.extBut _ _ n (Heap.get?_push_of_some _ e))
  have hT : IsPair g8 g5.objs.size x y := k8.extBut _ _ (Nat.ne_of_gt zlt) (k7.extBut _ _ (Nat.ne_of_gt zlt) (Heap.get?_push_size _ rfl))
  have sz8 : g8.objs.size = g5.objs.size + 1 := by rw [k8.1, k7.1, Heap.size_push]
  rw [sz] at z8 hT sz8
  refine wpAny_pure ⟨_, rfl, ?_⟩
  show Q (.ref g5.objs.size) _
  rw [sz]
  exact q g8 z8 (up _ _ D.TOz hO5) (S1.keepA _ _ _ q1 fun o => up _ o D.i1z) (S2.keepA _ _ _ q2 fun o => up _ o D.i2z) hT sz8 fun c o n n' n'' n3 e => up c o n (e5 c o n n' n'' n3 e)
theorem zipS_end {Q : PySem.Fin → Shared → Prop} (hh : A.handled = none) (S1 : Src i1 l1 At1 Sr1 xs) (S2 : Src i2 l2 At2 Sr2 ys) (D : ZipApart z TI TO i1 i2 l1 l2) (hz : IsZip s.heap z TI TO .none) (hI : IsPair s.heap TI (.ref i1) (.ref i2)) (hO : IsPair s.heap TO a b)
    (p1 : At1 n s.heap) (p2 : At2 m s.heap) (r1 : Sr1 s.heap) (r2 : Sr2 s.heap) (hend : xs[n]? = none ∨ ys[m]? = none)
    (q : ∀ g e, (∀ c o, c ≠ z → c ≠ TO → c ≠ i1 → c ≠ i2 → s.heap.get? c = some o → g.get? c = some o) → (∃ o, g.get? e = some o ∧ o.cls = .type "StopIteration") → E (.ref e) { s with heap := g }) :
    wpAny (model P w) A (Builtin.«zip.__next__» ⟨[.ref z], []⟩) Q E s := by
  show wpAny _ _ (field (.ref z) 2 >>= _) _ _ _
  refine wpAny_bind (wpAny_field hz rfl (x := .bool false) rfl ?_)
  show wpAny _ _ (field (.ref z) 3 >>= _) _ _ _
  refine wpAny_bind (wpAny_field hz rfl (x := .ref TI) rfl (wpAny_bind (wpAny_seqItems hI rfl ?_)))
  show wpAny _ _ (Builtin.SmallTypes.ownedTupleIsFree (.ref z) >>= _) _ _ _
  refine wpAny_bind ?_
  unfold Builtin.SmallTypes.ownedTupleIsFree
  refine wpAny_bind (wpAny_field hz rfl (x := .none) rfl (wpAny_pure ?_))
  simp only [if_true]
  refine wpAny_bind (wpAny_rule (wpAny_bind (wpAny_field hz rfl (x := .ref TO) rfl (wpAny_bind (wpAny_setField_rec hz (by simp) fun g1 z1 k1 => ?_)))))
  replace z1 : IsZip g1 z TI TO .ellipsis := z1
  refine wpAny_bind ?_
  simp only [List.zipIdx_cons, List.zipIdx_nil, List.forIn_cons, List.forIn_nil]
  refine wpAny_bind (wpAny_bind (wpAny_onRaise ?_))
  show wpAny _ _ (Builtin.SmallTypes.nextOf (.ref i1) >>= _) _ _ _
  have e1 : ∀ {c : Addr} {o : Obj}, c ≠ z → s.heap.get? c = some o → g1.get? c = some o := fun n e => k1.extBut _ _ n e
  have a1 := S1.keepA _ _ _ p1 fun o => e1 D.i1z
  have b1 := S1.keepS _ _ r1 fun o => e1 D.l1z
  have nez : ∀ {g : Heap} {e : Addr} {oe : Obj}, IsZip g z TI TO .ellipsis → g.get? e = some oe → oe.cls = .type "StopIteration" → e ≠ z := fun {g e oe} hz he hc z' => by
    subst z'
    rw [hz] at he
    cases he
    simp at hc
  cases hx : xs[n]? with
  | none =>
    refine wpAny_bind (S1.stop _ _ _ _ _ n _ hh a1 b1 hx fun g2 e k2 ⟨oe, he, hc⟩ => ?_)
    have z2 : IsZip g2 z TI TO .ellipsis := k2 _ _ D.i1z.symm z1
    refine wpAny_setField_rec z2 (by simp) fun g3 _ k3 => q g3 e (fun c o n _ n' _ x => k3.extBut _ _ n (k2 _ _ n' (e1 n x))) ⟨oe, k3.extBut _ _ (nez z2 he hc) he, hc⟩
  | some x =>
    have hy : ys[m]? = none := hend.resolve_left fun z => by rw [hx] at z; cases z
    refine wpAny_bind (S1.item _ _ _ _ _ n x _ a1 b1 hx fun g2 _ k2 => wpAny_pure ?_)
    have e2 : ∀ {c : Addr} {o : Obj}, c ≠ z → c ≠ i1 → s.heap.get? c = some o → g2.get? c = some o := fun n n' e => k2.extBut _ _ n' (e1 n e)
    have hO2 : IsPair g2 TO a b := e2 D.TOz D.TOi1 hO
    refine wpAny_bind (wpAny_seqItems hO2 rfl (wpAny_bind (wpAny_updateSeq_pair hO2 fun g3 hO3 k3 => ?_)))
    have e3 : ∀ {c : Addr} {o : Obj}, c ≠ z → c ≠ i1 → c ≠ TO → s.heap.get? c = some o → g3.get? c = some o := fun n n' n'' e => k3.extBut _ _ n'' (e2 n n' e)
    refine wpAny_bind (wpAny_letGo (wpAny_pure (wpAny_bind (wpAny_bind (wpAny_onRaise ?_)))))
    show wpAny _ _ (Builtin.SmallTypes.nextOf (.ref i2) >>= _) _ _ _
    refine wpAny_bind (S2.stop _ _ _ _ _ m _ hh (S2.keepA _ _ _ p2 fun o => e3 D.i2z D.i12.symm D.TOi2.symm) (S2.keepS _ _ r2 fun o => e3 D.l2z D.l2i1 D.l2TO) hy fun g4 e k4 ⟨oe, he, hc⟩ => ?_)
    have z4 : IsZip g4 z TI TO .ellipsis := k4 _ _ D.i2z.symm (k3.extBut _ _ D.TOz.symm (k2.extBut _ _ D.i1z.symm z1))
    refine wpAny_setField_rec z4 (by simp) fun g5 _ k5 => q g5 e (fun c o n n' n'' n3 x => k5.extBut _ _ n (k4 _ _ n3 (e3 n n'' n' x))) ⟨oe, k5.extBut _ _ (nez z4 he hc) he, hc⟩
theorem nextS_item {x y : Value} {Q : Option Value → Shared → Prop} (S1 : Src i1 l1 At1 Sr1 xs) (S2 : Src i2 l2 At2 Sr2 ys) (D : ZipApart z TI TO i1 i2 l1 l2) (hz : IsZip s.heap z TI TO .none) (hI : IsPair s.heap TI (.ref i1) (.ref i2)) (hO : IsPair s.heap TO a b)
    (p1 : At1 n s.heap) (p2 : At2 m s.heap) (r1 : Sr1 s.heap) (r2 : Sr2 s.heap) (hx : xs[n]? = some x) (hy : ys[m]? = some y)
    (q : ∀ g, IsZip g z TI TO (rawInt s.heap.objs.size) → IsPair g TO x y → At1 (n + 1) g → At2 (m + 1) g → IsPair g s.heap.objs.size x y → g.objs.size = s.heap.objs.size + 1 →
      (∀ c o, c ≠ z → c ≠ TO → c ≠ i1 → c ≠ i2 → s.heap.get? c = some o → g.get? c = some o) → Q (some (.ref s.heap.objs.size)) { s with heap := g }) : wpAny (model P w) A (pyNext (.ref z)) Q E s := by
  have hT : s.TypeIs (.ref z) "zip" := ⟨_, hz, rfl⟩
  unfold pyNext
  refine wpAny_bind (wpAny_attempt (wpAny_callSpecial?_slot (name := Str.ofString "__next__") hT F.slot_zip_next (wpAny_call_entry F.slot_zip_next hT F.entry_zip_next ?_ (F.args_zip_next_1 _))))
  exact zipS_item S1 S2 D hz hI hO p1 p2 r1 r2 hx hy fun g a1 a2 a3 a4 a5 a6 a7 => wpAny_pure (q g a1 a2 a3 a4 a5 a6 a7)
theorem nextS_end {Q : Option Value → Shared → Prop} (hh : A.handled = none) (S1 : Src i1 l1 At1 Sr1 xs) (S2 : Src i2 l2 At2 Sr2 ys) (D : ZipApart z TI TO i1 i2 l1 l2) (hz : IsZip s.heap z TI TO .none) (hI : IsPair s.heap TI (.ref i1) (.ref i2)) (hO : IsPair s.heap TO a b)
    (p1 : At1 n s.heap) (p2 : At2 m s.heap) (r1 : Sr1 s.heap) (r2 : Sr2 s.heap) (hend : xs[n]? = none ∨ ys[m]? = none)
    (q : ∀ g, (∀ c o, c ≠ z → c ≠ TO → c ≠ i1 → c ≠ i2 → s.heap.get? c = some o → g.get? c = some o) → Q none { s with heap := g }) : wpAny (model P w) A (pyNext (.ref z)) Q E s := by
  have hT : s.TypeIs (.ref z) "zip" := ⟨_, hz, rfl⟩
  unfold pyNext
  refine wpAny_bind (wpAny_attempt (wpAny_callSpecial?_slot (name := Str.ofString "__next__") hT F.slot_zip_next (wpAny_call_entry F.slot_zip_next hT F.entry_zip_next ?_ (F.args_zip_next_1 _))))
  refine zipS_end hh S1 S2 D hz hI hO p1 p2 r1 r2 hend fun g e k ⟨o, he, hc⟩ => ?_
  exact wpAny_bind (wpAny_isInstance (T := "StopIteration") (b := true) ⟨o, he, hc⟩ isSubtype_stop (wpAny_pure (q _ k)))
end
/-! the making of it -/
abbrev objIL (l : Addr) : Obj := { cls := .type "list_iterator", data := .fields #[.ref l, .int 0 0] }
abbrev objIT (l : Addr) : Obj := { cls := .type "tuple_iterator", data := .fields #[.ref l, .int 0 0] }
abbrev zm2 (h : Heap) (l k : Addr) : Heap := (h.push (objIL l)).push (objIT k)
abbrev zm3 (h : Heap) (l k : Addr) : Heap := (zm2 h l k).push { cls := .type "tuple", data := .seq #[.ref h.objs.size, .ref (h.push (objIL l)).objs.size] }
abbrev zm4 (h : Heap) (l k : Addr) : Heap := (zm3 h l k).push { cls := .type "tuple", data := .seq #[.none, .none] }
abbrev zm5 (h : Heap) (l k : Addr) : Heap := (zm4 h l k).push { cls := .type "zip", data := .fields #[.none, .bool false, .bool false, .ref (zm2 h l k).objs.size, .ref (zm3 h l k).objs.size] }
theorem meets_zm (l k : Addr) (xs ys : Array Value) : Meets (Builtin.«zip.__new__» ⟨[.type "zip", .ref l, .ref k], []⟩) (fun _ R s => s.heap.IsList l xs ∧ s.heap.IsTuple k ys ∧ R (.ok (.ret (.ref (zm4 s.heap l k).objs.size))) { s with heap := zm5 s.heap l k }) :=
  .of_wp fun prog w A R s h => by
    obtain ⟨hp, g, d, tk, os⟩ := s
    obtain ⟨q1, q2, h⟩ := h
    have hsub := sub_zip
    have p1 : Heap.IsList (Shared.heap ⟨hp, g, d, tk, os⟩) l xs := q1
    have p2 : Heap.IsTuple (Shared.heap ⟨hp.push (objIL l), g, d, tk, os⟩) k ys := Heap.IsTuple.push q2 _
    wp_walk using wpAny_pyIter_list p1, wpAny_pyIter_tuple p2
    exact ⟨_, rfl, h⟩
theorem call_zm {P : Program} {w : World} {A : Around} {E : Value → Shared → Prop} {s : Shared} {l k : Addr} {xs ys : Array Value} {Q : Value → Shared → Prop} (h1 : s.heap.IsList l xs) (h2 : s.heap.IsTuple k ys)
    (q : ∀ g, IsZip g (s.heap.objs.size + 4) (s.heap.objs.size + 2) (s.heap.objs.size + 3) .none → IsPair g (s.heap.objs.size + 2) (.ref s.heap.objs.size) (.ref (s.heap.objs.size + 1)) → IsPair g (s.heap.objs.size + 3) .none .none →
      g.IsListIter s.heap.objs.size l 0 → g.IsTupleIter (s.heap.objs.size + 1) k 0 → (∀ c o, s.heap.get? c = some o → g.get? c = some o) → Q (.ref (s.heap.objs.size + 4)) { s with heap := g }) : wpAny (model P w) A (call (.type "zip") [.ref l, .ref k]) Q E s := by
  refine callType_new F.called_zip (by decide) (F.typeCall_zip_2 _ _) (F.newCall_zip_2 _ _) (fun obj => F.args_object_init_3 obj _ _) F.entry_zip_new (meets_zm l k xs ys) ⟨h1, h2, ?_⟩
  have n1 : (s.heap.push (objIL l)).objs.size = s.heap.objs.size + 1 := Heap.size_push ..
  have n2 : (zm2 s.heap l k).objs.size = s.heap.objs.size + 2 := by rw [Heap.size_push, n1]
  have n3 : (zm3 s.heap l k).objs.size = s.heap.objs.size + 3 := by rw [Heap.size_push, n2]
  have n4 : (zm4 s.heap l k).objs.size = s.heap.objs.size + 4 := by rw [Heap.size_push, n3]
  have f5 : (zm5 s.heap l k).get? (zm4 s.heap l k).objs.size = some _ := Heap.get?_push_size _ rfl
  have u5 : ∀ c o, (zm4 s.heap l k).get? c = some o → (zm5 s.heap l k).get? c = some o := fun c o e => Heap.get?_push_of_some _ e
  have u4 : ∀ c o, (zm3 s.heap l k).get? c = some o → (zm5 s.heap l k).get? c = some o := fun c o e => u5 c o (Heap.get?_push_of_some _ e)
  have u3 : ∀ c o, (zm2 s.heap l k).get? c = some o → (zm5 s.heap l k).get? c = some o := fun c o e => u4 c o (Heap.get?_push_of_some _ e)
  have u2 : ∀ c o, (s.heap.push (objIL l)).get? c = some o → (zm5 s.heap l k).get? c = some o := fun c o e => u3 c o (Heap.get?_push_of_some _ e)
  have f4 : (zm5 s.heap l k).get? (zm3 s.heap l k).objs.size = some _ := u5 _ _ (Heap.get?_push_size _ rfl)
  have f3 : (zm5 s.heap l k).get? (zm2 s.heap l k).objs.size = some _ := u4 _ _ (Heap.get?_push_size _ rfl)
  have f2 : (zm5 s.heap l k).get? (s.heap.push (objIL l)).objs.size = some _ := u3 _ _ (Heap.get?_push_size _ rfl)
  have f1 : (zm5 s.heap l k).get? s.heap.objs.size = some _ := u2 _ _ (Heap.get?_push_size _ rfl)
  show _ ∧ _
  rw [n2, n3, n4] at f5
  rw [n1, n2] at f3
  rw [n3] at f4
  rw [n1] at f2
  rw [n4]
  exact ⟨⟨_, f5, rfl⟩, q _ f5 f3 f4 ⟨_, f1, rfl, rfl⟩ ⟨_, f2, rfl, rfl⟩ fun c o e => u2 c o (Heap.get?_push_of_some _ e)⟩
/-- the list at a, the tuple at b, as they stand at each turn -/
def ItzM (K : PySem.W.Frag) (a b : Addr) : It :=
  ⟨fun i H => ∃ (xs ys : List V) (x y : V), SqL K H a xs ∧ SqT K H b ys ∧ xs[i]? = some x ∧ ys[i]? = some y,
    fun i H v H' => ∃ T x y, v = .ref T ∧ H T = none ∧ H' = upd H T (.tup [x, y]) ∧ (∀ xs, SqL K H a xs → xs[i]? = some x) ∧ ∀ ys, SqT K H b ys → ys[i]? = some y,
    fun i H => ∃ xs ys : List V, SqL K H a xs ∧ SqT K H b ys ∧ (xs.length ≤ i ∨ ys.length ≤ i)⟩
theorem five {z TI TO i1 i2 c : Addr} (h : c ∈ [z, TI, TO, i1, i2]) : c = z ∨ c = TI ∨ c = TO ∨ c = i1 ∨ c = i2 := by simpa using h
theorem turn_zm {P : Program} {w : World} {K : PySem.W.Frag} {elts : List Expr} {kk : Nat} {tpos : Pos} {a b z TI TO i1 i2 : Addr} (D : ZipApart z TI TO i1 i2 a b) :
    Turn P w K (.Tuple elts kk tpos) (ItzM K a b) [z, TI, TO, i1, i2] z (fun i h => IsZip h z TI TO .none ∧ IsPair h TI (.ref i1) (.ref i2) ∧ (∃ x y, IsPair h TO x y) ∧ h.IsListIter i1 a i ∧ h.IsTupleIter i2 b i) where
  mem := List.mem_cons_self
  obj := fun i h ⟨hz, hI, ⟨x, y, hO⟩, ⟨o1, e1, _, d1⟩, ⟨o2, e2, _, d2⟩⟩ c hc => by
    rcases five hc with rfl | rfl | rfl | rfl | rfl
    · exact ⟨_, hz, fun v q => nomatch q⟩
    · exact ⟨_, hI, fun v q => nomatch q⟩
    · exact ⟨_, hO, fun v q => nomatch q⟩
    · exact ⟨o1, e1, fun v q => by rw [d1] at q; cases q⟩
    · exact ⟨o2, e2, fun v q => by rw [d2] at q; cases q⟩
  keep := fun i h h' ⟨hz, hI, ⟨x, y, hO⟩, h1, h2⟩ k => ⟨k z (by simp) _ hz, k TI (by simp) _ hI, ⟨x, y, k TO (by simp) _ hO⟩, h1.at fun o q => k i1 (by simp) o q, h2.at fun o q => k i2 (by simp) o q⟩
  item := by
    intro X hP hw hK hc i pins s σ H E I hf ⟨hz, hI, ⟨x0, y0, hO⟩, h1, h2⟩ ⟨xs, ys, x, y, qx, qy, hx, hy⟩
    subst hP hw hK
    obtain ⟨us, rv, p1, _⟩ := I.list qx
    obtain ⟨us2, rv2, p2, _⟩ := I.tuple qy
    obtain ⟨u, hu, ru⟩ := rv.get hx
    obtain ⟨u2, hu2, ru2⟩ := rv2.get hy
    have zlt : z < s.heap.objs.size := Heap.lt_size hz
    refine nextS_item (src_list i1 a us.toArray) (src_tup i2 b us2.toArray) D hz hI hO h1 h2 p1.isList p2 (x := u) (y := u2) (by simpa using hu) (by simpa using hu2) fun g z' O' h1' h2' hT hsz hk => ?_
    refine ⟨_, rfl, wpAny_letOwnedTupleGo_zip (s := { s with heap := g }) z' fun g' z'' sb => ?_⟩
    have hT2 : g'.get? s.heap.objs.size = some { cls := .type "tuple", data := .seq #[u, u2] } := (sb.2 _ (Nat.ne_of_gt zlt)).trans hT
    have nin : ∀ {c : Addr}, c ∉ [z, TI, TO, i1, i2] → c ≠ z ∧ c ≠ TO ∧ c ≠ i1 ∧ c ≠ i2 := fun {c} hc => by
      simp only [List.mem_cons, List.not_mem_nil, or_false, not_or] at hc
      exact ⟨hc.1, hc.2.2.1, hc.2.2.2.1, hc.2.2.2.2⟩
    have new : ObjOk X.prog X.w (upd H s.heap.objs.size (.tup [x, y])) g' s.heap.objs.size (.tup [x, y]) := ⟨by show 2 ≤ sizeLine; decide, [u, u2], .cons ru (.cons ru2 .nil), ⟨_, hT2, rfl, _, rfl⟩⟩
    have I1 : Inv X pins σ (upd H s.heap.objs.size (.tup [x, y])) { s with heap := g' } :=
      I.turnedNew (t' := s.toks) (ch := [z, TI, TO, i1, i2]) (fun c o hc e => (sb.2 c (nin hc).1).trans (hk c o (nin hc).1 (nin hc).2.1 (nin hc).2.2.1 (nin hc).2.2.2 e)) hf (Nat.le_refl _) new
    refine ⟨.ref s.heap.objs.size, _, I1, rfl, ⟨_, x, y, rfl, I.hok.fresh (Nat.le_refl _), rfl, fun l hl => by rw [I.list_inj hl qx]; exact hx, fun l hl => by rw [I.tuple_inj hl qy]; exact hy⟩, ⟨z'', ?_, ⟨u, u2, ?_⟩, ?_, ?_⟩, fun c hcm => ?_⟩
    · exact (sb.2 _ D.TIz).trans (hk _ _ D.TIz D.TITO D.TIi1 D.TIi2 hI)
    · exact (sb.2 _ D.TOz).trans O'
    · exact h1'.at fun o q => (sb.2 _ D.i1z).trans q
    · exact h2'.at fun o q => (sb.2 _ D.i2z).trans q
    · have hlt : c < s.heap.objs.size := by
        rcases five hcm with rfl | rfl | rfl | rfl | rfl
        · exact zlt
        · exact Heap.lt_size hI
        · exact Heap.lt_size hO
        · obtain ⟨_, e, _⟩ := h1
          exact Heap.lt_size e
        · obtain ⟨_, e, _⟩ := h2
          exact Heap.lt_size e
      rw [upd_ne (Nat.ne_of_lt hlt)]
      exact (hf c hcm).1
  done := by
    intro X hP hw hK hc i pins s σ H E I hf ⟨hz, hI, ⟨x0, y0, hO⟩, h1, h2⟩ ⟨xs, ys, qx, qy, hend⟩
    subst hP hw hK
    obtain ⟨us, rv, p1, _⟩ := I.list qx
    obtain ⟨us2, rv2, p2, _⟩ := I.tuple qy
    have l1 := rv.length
    have l2 := rv2.length
    have he : us.toArray[i]? = none ∨ us2.toArray[i]? = none := hend.imp (fun q => by simp; omega) fun q => by simp; omega
    refine nextS_end (I.ok.hd hc) (src_list i1 a us.toArray) (src_tup i2 b us2.toArray) D hz hI hO h1 h2 p1.isList p2 he fun g hk => ⟨rfl, I.turnedL (t' := s.toks) (ch := [z, TI, TO, i1, i2]) (fun c o hc e => ?_) hf⟩
    simp only [List.mem_cons, List.not_mem_nil, or_false, not_or] at hc
    exact hk c o hc.1 hc.2.2.1 hc.2.2.2.1 hc.2.2.2.2 e
  self := fun A i s Q E st h => wpAny_pyIter_zip st.1 h
def iZipM (K : PySem.W.Frag) (ta : TA) : TI := fun σ H R => ta σ H fun vs H1 => ∃ a b xs ys, vs = [.ref a, .ref b] ∧ SqL K H1 a xs ∧ SqT K H1 b ys ∧ R (ItzM K a b) H1
theorem pi_zipM {X : Cx} {e e2 : Expr} {ta : TA} {p pos tpos : Pos} {elts : List Expr} {kk : Nat} (hg : Gl X "zip") (hm : X.mg "zip" = none) (ha : PA X [e, e2] ta) (n1 : starEach [e, e2] X.env = (false, eval e X.env) :: starEach [e2] X.env := by rfl) (n2 : (backTo pos (starEach [e2] X.env)).any (·.1) = false := by rfl) :
    PI X (.Tuple elts kk tpos) (.Call (.Name "zip" p) [e, e2] [] pos) (iZipM X.K ta) := by
  refine ⟨fun pins s σ H R I h => Call_ (ld_blt I hg hm PyProof.Rows.boot_zip (PyProof.Rows.callWith_type1 (thn (ha.run pos pins s σ H _ I h) fun us s1 ⟨vs, H1, I1, r1, a, b, xs, ys, ex, qx, qy, q⟩ => ?_) n1 n2))⟩
  subst ex
  cases r1 with
  | cons r rr =>
    cases rr with
    | cons r' rr =>
      cases rr
      cases r
      cases r'
      obtain ⟨us, rv, p1, _⟩ := I1.list qx
      obtain ⟨us2, rv2, p2, _⟩ := I1.tuple qy
      obtain ⟨o2, ho2, _⟩ := id p2
      have fr : ∀ c, c ∈ [s1.heap.objs.size + 4, s1.heap.objs.size + 2, s1.heap.objs.size + 3, s1.heap.objs.size, s1.heap.objs.size + 1] → FpOk X pins H1 c := fun c hc => by
        have hle : s1.heap.objs.size ≤ c := by
          rcases five hc with z | z | z | z | z <;> rw [z] <;> first | exact Nat.le_refl _ | exact Nat.le_add_right _ _
        exact I1.fpOk hle (I1.hok.fresh hle)
      refine call_zm p1.isList (show s1.heap.IsTuple b us2.toArray from p2) fun g hz hI hO h1 h2 hk => wpAny_pyIter_zip hz ?_
      have I2 : Inv X pins σ H1 { s1 with heap := g } := I1.kept (t' := s1.toks) hk
      exact ⟨s1.heap.objs.size + 4, [s1.heap.objs.size + 4, s1.heap.objs.size + 2, s1.heap.objs.size + 3, s1.heap.objs.size, s1.heap.objs.size + 1], _, _, H1, rfl, I2, turn_zm (PySem.W.ktu_apart s1.heap.objs.size a b p1.lt (Heap.lt_size ho2)), ⟨hz, hI, ⟨_, _, hO⟩, h1, h2⟩, fr, q⟩
end L2
namespace Pd
open PySem PySem.Spec L2
open Evl (Ex)
open PyProof.Rows
theorem ai_zipM {K : PySem.W.Frag} {Γ : G} {μ : Mu} {ta : TA} {R : List W → (Mu → Prop) → Mu → Prop} (h : AXA K ta Γ μ fun ws μ1 => ∃ w1 w2 xs ys, ws = [w1, w2] ∧ LW μ1 w1 xs ∧ TW w2 ys ∧ R (List.zipWith pairW xs ys) (fun μ' => LW μ' w1 xs) μ1) : AI K (iZipM K ta) Γ μ R := fun A M σ H c Q q =>
  h A M σ H c _ fun M1 H1 vs ws μ1 mo1 e1 r1 ⟨w1, w2, zs, zs2, hw, hl1, hl2, hR⟩ => by
    subst hw
    cases r1 with
    | cons ra rn =>
      cases rn with
      | cons rb rn =>
        cases rn
        obtain ⟨a, us, rfl, hs, rs⟩ := hl1.get mo1 ra
        obtain ⟨b, us2, rfl, hs2, rs2⟩ := hl2.get rb
        refine ⟨a, b, us, us2, rfl, hs, Evl.ex_t vw_le hs2, q M1 H1 _ _ _ μ1 mo1 e1 (fun A' M' H' μ' mo' ex pr hS i => ?_) hR⟩
        obtain ⟨a2, u1, ea, hu, ru⟩ := LW.get mo' (ra.mono ex pr) hS
        cases ea
        obtain ⟨b2, u2, eb, hu2, ru2⟩ := hl2.get (rb.mono ex pr)
        cases eb
        have hu2 := Evl.ex_t vw_le hu2
        refine ⟨fun w' hw => ?_, fun hn => ⟨u1, u2, hu, hu2, ?_⟩⟩
        · rw [List.getElem?_zipWith] at hw
          cases hz : zs[i]? with
          | none => rw [hz] at hw; cases hw
          | some z =>
            cases hz2 : zs2[i]? with
            | none => rw [hz, hz2] at hw; cases hw
            | some z2 =>
              rw [hz, hz2] at hw
              cases hw
              obtain ⟨y, hy, ry⟩ := ru.getW hz
              obtain ⟨y2, hy2, ry2⟩ := ru2.getW hz2
              refine ⟨⟨u1, u2, y, y2, hu, hu2, hy, hy2⟩, fun x H2 ⟨T, x2, x3, ev, hT, eH, hx, hx3⟩ => ?_⟩
              subst ev eH
              have z1 : y = x2 := Option.some.inj (hy.symm.trans (hx u1 hu))
              subst z1
              have z2 : y2 = x3 := Option.some.inj (hy2.symm.trans (hx3 u2 hu2))
              subst z2
              exact ⟨Ex.new hT, vr_pair mo' hT ry ry2⟩
        · rw [List.getElem?_zipWith] at hn
          rw [ru.length, ru2.length]
          by_cases h1 : i < zs.length
          · by_cases h2 : i < zs2.length
            · rw [List.getElem?_eq_getElem h1, List.getElem?_eq_getElem h2] at hn
              cases hn
            · exact .inr (by omega)
          · exact .inl (by omega)
/-- xs.index(i), ints -/
theorem am_indexI {K : PySem.W.Frag} {μ : Mu} {R : W → Mu → Prop} {x : W} {ns : List Int} {i : Int} (hx : LW μ x (wInts ns)) (hi : i ∈ ns) (q : R (.d (.int (ns.idxOf i : Nat))) μ) : AM K (rIndex K) x [.d (.int i)] μ R := fun A M H v vs mo rv rs Q h => by
  obtain ⟨a, us, rfl, hs, ru⟩ := hx.get mo rv
  have e := vrs_int ru
  subst e
  cases rs with
  | cons ri rn =>
    cases rn
    rw [vr_int ri]
    have hl := List.idxOf_lt_length_of_mem hi
    refine ⟨a, _, _, ns.idxOf i, .int ns[ns.idxOf i], rfl, rfl, hs, rfl, flat_ints ns, by rw [List.getElem?_map, List.getElem?_eq_getElem hl]; rfl, ?_, fun m z hm hz => ?_, h M H _ _ μ mo Eff.refl (.d (.int _)) q⟩
    · show (ns[ns.idxOf i] == i) = true
      rw [List.getElem_idxOf hl]
      exact beq_self_eq_true _
    · have hml : m < ns.length := by omega
      rw [List.getElem?_map, List.getElem?_eq_getElem hml] at hz
      cases hz
      show (ns[m] == i) = false
      have z := List.not_of_lt_findIdx (p := fun a => a == i) (xs := ns) hm
      exact z
end Pd

/-! Pd27: [.., *xs]; == of data with bools at like places. -/
namespace Pd
open PySem PySem.Spec L2
open Evl (Ex)
open PyProof.Rows
section
variable {K : PySem.W.Frag} {Γ : G} {μ : Mu} {te : TE} {tr : TA} {RA : List W → Mu → Prop}
theorem aa_starL (h : AX K te Γ μ fun x μ1 => ∃ ws, LW μ1 x ws ∧ AXA K tr Γ μ1 fun us μ2 => RA (ws ++ us) μ2) : AXA K (StX.tStar K te tr) Γ μ RA := fun A M σ H c Q q =>
  h A M σ H c _ fun M1 H1 v x μ1 mo1 e1 r1 ⟨ws, hl, h1⟩ => by
    obtain ⟨a, vs, rfl, hs, rs⟩ := hl.get mo1 r1
    exact ⟨a, vs, rfl, .inr hs, h1 A M1 σ H1 (c.eff e1 mo1) _ fun M2 H2 us ys μ2 mo2 e2 r2 h2 => q M2 H2 (vs ++ us) (ws ++ ys) μ2 mo2 (e1.trans e2) ((rs.mono e2.ex e2.pre).append r2) h2⟩
/-- what holds behind a statement -/
theorem as_mid {t : TS} {D : AEn} (Mid : G → Mu → Prop) (h : AS K t { D with nx := Mid } Γ μ) (k : ∀ Γ1 μ1, Mid Γ1 μ1 → D.nx Γ1 μ1) : AS K t D Γ μ := as_weak h k (fun _ _ z => z) (fun _ _ z => z) fun _ _ z => z
/-- a comprehension with a test, that changes nothing -/
theorem ax_lcF {wi : TI} {g : TG} {tt : TT} {vs : List Nat} {R : W → Mu → Prop} {α : Type} (f : α → W) (ns : List α) (pf : α → Bool) (gf : α → W) (hz : ns.length ≤ sizeLine) (hw : WipeOk g vs) (h : AI K wi Γ μ fun items S μ1 => items = ns.map f ∧ S μ ∧ μ1 = μ)
    (hs : ∀ x, x ∈ ns → AG K g (f x) (wipeG Γ vs) μ fun Γ2 μ2 => AXT K tt Γ2 μ2 fun b μ3 => b = pf x ∧ μ3 = μ ∧ (b = true → AX K te Γ2 μ3 fun w μ4 => w = gf x ∧ μ4 = μ)) (q : NL ((ns.filter pf).map gf) μ R) : AX K (tLc wi g tt te vs) Γ μ R := by
  refine ax_lc f ns (fun pre acc μ' => acc = (pre.filter pf).map gf ∧ μ' = μ) hz hw ?_ ?_ ?_
  · refine ai_weak h fun items S μ1 ⟨a, b, c⟩ => ⟨a, fun pre acc μ' e => ?_, rfl, c⟩
    rw [e.2]
    exact b
  · rintro pre x post acc μ' e hl ⟨rfl, rfl⟩
    refine ag_weak (hs x (by rw [e]; simp)) fun Γ2 μ2 h2 => ?_
    intro A M σ H c Q q
    refine h2 A M σ H c Q fun M1 H1 b μ1 mo1 e1 ⟨hb, hm, hk⟩ => q M1 H1 b μ1 mo1 e1 ?_
    subst hb
    cases hp : pf x with
    | true =>
      rw [if_pos rfl]
      refine ax_weak (hk hp) fun w μ4 h4 => ⟨?_, h4.2⟩
      rw [h4.1, List.filter_append, List.filter_cons, if_pos hp, List.filter_nil, List.map_append]
      rfl
    | false =>
      rw [if_neg (by decide)]
      refine ⟨?_, hm⟩
      rw [List.filter_append, List.filter_cons, if_neg (by rw [hp]; decide), List.filter_nil, List.append_nil]
  · rintro acc μ' ⟨rfl, rfl⟩
    exact q
end
theorem cut_tail1 (x : W) (xs : List W) : cutW (x :: xs) (some 1) none = xs := by
  unfold cutW
  rw [show (some (1 : Int)) = some ((1 : Nat) : Int) from rfl, HT.sIx_none, HT.sIx_nat, List.length_cons, Nat.min_eq_left (by omega), List.drop_succ_cons, List.drop_zero, List.take_of_length_le (by omega)]
theorem cut_init (x : W) (xs : List W) : cutW (xs ++ [x]) none (some (-1)) = xs := by
  unfold cutW
  have e : HT.sIx (xs ++ [x]).length (xs ++ [x]).length (some (-1)) = xs.length := by
    unfold HT.sIx
    simp
    try omega
  rw [e, HT.sIx_none, List.drop_zero, Nat.sub_zero, List.take_left]
theorem cut_dropN (xs : List W) (n : Nat) : cutW xs (some (n : Int)) none = xs.drop n := by
  unfold cutW
  rw [HT.sIx_none, HT.sIx_nat]
  by_cases h : n ≤ xs.length
  · rw [Nat.min_eq_left h, List.take_of_length_le (by simp)]
  · rw [Nat.min_eq_right (by omega), Nat.sub_self, List.take_zero, List.drop_eq_nil_of_le (by omega)]
theorem cut_takeN (xs : List W) (n : Nat) : cutW xs none (some (n : Int)) = xs.take n := by
  unfold cutW
  rw [HT.sIx_none, HT.sIx_nat, List.drop_zero, Nat.sub_zero]
  by_cases h : n ≤ xs.length
  · rw [Nat.min_eq_left h]
  · rw [Nat.min_eq_right (by omega), List.take_of_length_le (by omega), List.take_of_length_le (by omega)]
end Pd

/-! M03: forms of clicks. -/
namespace M03
abbrev Ky := Int × Int
abbrev Kys := List Ky
def clk (ks : Kys) (c : Int) : Kys := match ks with
  | [] => [(c, 1)]
  | k :: r => if k.1 = c then (c, -k.2) :: r else (c, 1) :: (k :: r).filter fun x => decide (x.1 ≠ c)
def aft (ks : Kys) (cs : List Int) : Kys := cs.foldl clk ks
def lastC (ks : Kys) : Int := (ks.getLast?.map (·.1)).getD 0
/-- the column clicked first is not clicked again behind another one -/
def Lone (cs : List Int) : Prop := cs ≠ [] ∧ ∀ i j, i < j → j < cs.length → cs.getD i 0 ≠ cs.getD 0 0 → cs.getD j 0 ≠ cs.getD 0 0
open Classical in
noncomputable def lone (cs : List Int) : Bool := decide (Lone cs)
theorem lone_iff {cs : List Int} : lone cs = true ↔ Lone cs := ⟨fun h => @of_decide_eq_true _ (Classical.propDecidable _) h, fun h => @decide_eq_true _ (Classical.propDecidable _) h⟩
theorem lone_not {cs : List Int} (h : ¬ Lone cs) : lone cs = false := Bool.eq_false_iff.mpr fun z => h (lone_iff.mp z)
def OkK (S : Kys) : Prop := (S.map (·.1)).Nodup ∧ ∀ k ∈ S, 0 ≤ k.1 ∧ (k.2 = 1 ∨ k.2 = -1)
instance (S : Kys) : Decidable (OkK S) := by unfold OkK; infer_instance
abbrev Fm := Kys × Bool
def hasF (f : Fm) : Bool := decide (OkK f.1) && ((f.2 == decide (f.1 ≠ [])) || decide (1 < f.1.length))
def flipL (K : Kys) : Kys := K.dropLast ++ [(lastC K, -(K.getLast?.map (·.2)).getD 0)]
def made (f : Fm) (S : Kys) : Kys := (if f.2 = true ∧ S ≠ [] ∧ S.head? = some (lastC f.1, 1) then flipL f.1 else f.1) ++ S.filter fun x => decide (x.1 ∉ f.1.map (·.1))
noncomputable def frm (cs : List Int) : Fm := (aft [] cs, lone cs)
def bstep (f : Fm) (c : Int) : Bool := match f.1 with
  | [] => true
  | k :: r => if k.1 = c then f.2 else f.2 && decide (c ≠ lastC (k :: r))
def fstep (f : Fm) (c : Int) : Fm := (clk f.1 c, bstep f c)
theorem aft_snoc (S : Kys) (ds : List Int) (c : Int) : aft S (ds ++ [c]) = clk (aft S ds) c := by simp [aft, List.foldl_append]
/-! good forms -/
structure Good (f : Fm) : Prop where
  ok : OkK f.1
  ne : f.2 = true → f.1 ≠ []
  one : f.1.length = 1 → f.2 = true
theorem Good.hasF {f : Fm} (h : Good f) : hasF f = true := by
  obtain ⟨K, b⟩ := f
  have h1 := h.ok
  have h2 := h.ne
  have h3 := h.one
  unfold M03.hasF
  rw [decide_eq_true h1, Bool.true_and]
  dsimp only at h2 h3 ⊢
  match K, h2, h3 with
  | [], h2, _ => cases b with
    | true => exact absurd rfl (h2 rfl)
    | false => rfl
  | [k], _, h3 => rw [h3 rfl]; rfl
  | k :: l :: r, _, _ => simp
theorem clk_ok {S : Kys} {c : Int} (h : OkK S) (hc : 0 ≤ c) : OkK (clk S c) := by
  unfold clk
  cases S with
  | nil =>
    refine ⟨by simp, fun k hk => ?_⟩
    rw [List.mem_singleton.mp hk]
    exact ⟨hc, .inl rfl⟩
  | cons k r =>
    obtain ⟨h1, h2⟩ := h
    rw [List.map_cons, List.nodup_cons] at h1
    dsimp only
    split
    · rename_i e
      subst e
      refine ⟨by rw [List.map_cons, List.nodup_cons]; exact h1, fun x hx => ?_⟩
      rcases List.mem_cons.mp hx with rfl | hx
      · have := h2 k (by simp)
        refine ⟨hc, ?_⟩
        show -k.2 = 1 ∨ -k.2 = -1
        omega
      · exact h2 x (by simp [hx])
    · refine ⟨?_, fun x hx => ?_⟩
      · rw [List.map_cons, List.nodup_cons]
        refine ⟨fun z => ?_, ?_⟩
        · obtain ⟨y, hy, e⟩ := List.mem_map.mp z
          have := of_decide_eq_true (List.mem_filter.mp hy).2
          exact this e
        · exact ((List.nodup_cons.mpr h1 : ((k :: r).map (·.1)).Nodup)).sublist (List.filter_sublist.map _)
      · rcases List.mem_cons.mp hx with rfl | hx
        · exact ⟨hc, .inl rfl⟩
        · exact h2 x (List.mem_filter.mp hx).1
theorem fstep_good {f : Fm} {c : Int} (h : Good f) (hc : 0 ≤ c) : Good (fstep f c) := by
  obtain ⟨K, b⟩ := f
  refine ⟨clk_ok h.ok hc, fun _ => ?_, ?_⟩
  · show clk K c ≠ []
    unfold clk
    cases K with
    | nil => simp
    | cons k r => dsimp only; split <;> simp
  · show (clk K c).length = 1 → bstep (K, b) c = true
    unfold clk bstep
    cases K with
    | nil => simp
    | cons k r =>
      dsimp only
      split
      · intro e
        exact h.one e
      · rename_i hk
        intro e
        rw [List.length_cons, List.filter_cons, if_pos (by simpa using hk)] at e
        simp at e
theorem lastC_cons (k l : Ky) (r : Kys) : lastC (k :: l :: r) = lastC (l :: r) := by simp [lastC, List.getLast?_cons_cons]
theorem lastC_mem {K : Kys} (h : K ≠ []) : lastC K ∈ K.map (·.1) := by
  unfold lastC
  rw [List.getLast?_eq_some_getLast h]
  exact List.mem_map.mpr ⟨_, List.getLast_mem h, rfl⟩
theorem lastC_app (K : Kys) (k : Ky) : lastC (K ++ [k]) = k.1 := by simp [lastC]
theorem split_last {K : Kys} (h : K ≠ []) : ∃ B s, K = B ++ [(lastC K, s)] ∧ B = K.dropLast ∧ s = (K.getLast?.map (·.2)).getD 0 := by
  refine ⟨K.dropLast, (K.getLast h).2, ?_, rfl, ?_⟩
  · have e := List.dropLast_concat_getLast h
    unfold lastC
    rw [List.getLast?_eq_some_getLast h]
    exact e.symm
  · rw [List.getLast?_eq_some_getLast h]
    rfl
theorem flipL_app (B : Kys) (c s : Int) : flipL (B ++ [(c, s)]) = B ++ [(c, -s)] := by simp [flipL, lastC]
theorem filter_flip {B : Kys} {c s d : Int} : (B ++ [(c, s)]).filter (fun x => decide (x.1 ≠ d)) = B.filter (fun x => decide (x.1 ≠ d)) ++ (if c = d then [] else [(c, s)]) := by
  rw [List.filter_append, List.filter_cons, List.filter_nil]
  by_cases h : c = d <;> simp [h]
/-- the columns other than c, in a list without c behind its head -/
theorem filter_all {r : Kys} {c : Int} (h : c ∉ r.map (·.1)) : r.filter (fun x => decide (x.1 ≠ c)) = r := List.filter_eq_self.mpr fun x hx => decide_eq_true fun z => h (List.mem_map.mpr ⟨x, hx, z⟩)
theorem rest_head {S : Kys} {c : Int} (h : (S.map (·.1)).Nodup) : ∀ {k : Ky} {r : Kys}, S = k :: r → k.1 = c → r = S.filter fun x => decide (x.1 ≠ c) := by
  rintro k r rfl e
  rw [List.map_cons, List.nodup_cons] at h
  rw [List.filter_cons, if_neg (by simpa using e), filter_all (by rw [← e]; exact h.1)]
/-- what a click does to a list that begins with other keys -/
theorem clk_app {A rest : Kys} {c : Int} (hA : A ≠ []) (hr : c ∈ A.map (·.1) → c ∉ rest.map (·.1)) :
    clk (A ++ rest) c = clk A c ++ rest.filter fun x => decide (x.1 ≠ c) := by
  cases A with
  | nil => exact absurd rfl hA
  | cons k r =>
    show clk (k :: (r ++ rest)) c = _
    unfold clk
    dsimp only
    split
    · rename_i e
      rw [filter_all (hr (by simp [e]))]
      rfl
    · rw [show k :: (r ++ rest) = (k :: r) ++ rest from rfl, List.filter_append]
      rfl
theorem clk_mem {A : Kys} {c : Int} (hA : A ≠ []) (x : Int) : x ∈ (clk A c).map (·.1) ↔ x = c ∨ x ∈ A.map (·.1) := by
  cases A with
  | nil => exact absurd rfl hA
  | cons k r =>
    unfold clk
    dsimp only
    split
    · rename_i e
      simp [e]
    · rw [List.map_cons, List.mem_cons]
      constructor
      · rintro (h | h)
        · exact .inl h
        · obtain ⟨y, hy, rfl⟩ := List.mem_map.mp h
          exact .inr (List.mem_map.mpr ⟨y, (List.mem_filter.mp hy).1, rfl⟩)
      · rintro (h | h)
        · exact .inl h
        · by_cases z : x = c
          · exact .inl z
          · obtain ⟨y, hy, rfl⟩ := List.mem_map.mp h
            exact .inr (List.mem_map.mpr ⟨y, List.mem_filter.mpr ⟨hy, decide_eq_true z⟩, rfl⟩)
theorem rest_step {K S : Kys} {c : Int} (hK : K ≠ []) : (S.filter fun x => decide (x.1 ∉ K.map (·.1))).filter (fun x => decide (x.1 ≠ c)) = S.filter fun x => decide (x.1 ∉ (clk K c).map (·.1)) := by
  rw [List.filter_filter]
  refine List.filter_congr fun x _ => ?_
  have := clk_mem (c := c) hK x.1
  by_cases h1 : x.1 = c <;> by_cases h2 : x.1 ∈ K.map (·.1) <;> simp only [this, h1, h2] <;> simp_all
/-- one click on the form, one click on what it makes -/
theorem made_step {f : Fm} {S : Kys} {c : Int} (h : Good f) (hS : OkK S) : made (fstep f c) S = clk (made f S) c := by
  obtain ⟨K, b⟩ := f
  by_cases hK : K = []
  · subst hK
    have hb : b = false := by
      cases b with
      | true => exact absurd rfl (h.ne rfl)
      | false => rfl
    subst hb
    show made ([(c, 1)], true) S = clk (made ([], false) S) c
    have e0 : made ([], false) S = S := by
      unfold made
      simp
    rw [e0]
    have er : (S.filter fun x => decide (x.1 ∉ ([(c, (1 : Int))] : Kys).map (·.1))) = S.filter fun x => decide (x.1 ≠ c) := List.filter_congr fun x _ => by simp
    unfold made
    dsimp only
    rw [er]
    cases S with
    | nil => simp [clk]
    | cons k r =>
      have hr := @rest_head (k :: r) c hS.1 k r rfl
      unfold clk
      dsimp only
      by_cases e : k.1 = c
      · rw [if_pos e, ← hr e]
        obtain ⟨k1, k2⟩ := k
        have e : k1 = c := e
        subst e
        rcases (hS.2 (k1, k2) (by simp)).2 with z | z
        · have z : k2 = 1 := z
          subst z
          rw [if_pos (by simp [lastC])]
          simp [flipL, lastC]
        · have z : k2 = -1 := z
          subst z
          rw [if_neg (by simp [lastC])]
          rfl
      · rw [if_neg e, if_neg (by
          rintro ⟨_, _, z⟩
          have z := Option.some.inj z
          exact e (by rw [z]; rfl))]
        rfl
  · obtain ⟨B, s, hB, _, _⟩ := split_last hK
    have hK2 : clk K c ≠ [] := fun z => by
      have := (clk_mem (c := c) hK c).mpr (.inl rfl)
      rw [z] at this
      cases this
    have hnd := h.ok.1
    generalize hl : lastC K = l at hB
    -- what is ahead of the rest
    have key : ∀ A : Kys, (A = K ∨ A = flipL K) → clk (A ++ S.filter fun x => decide (x.1 ∉ K.map (·.1))) c = clk A c ++ S.filter fun x => decide (x.1 ∉ (clk K c).map (·.1)) := by
      intro A hA
      have hm : A.map (·.1) = K.map (·.1) := by
        rcases hA with rfl | rfl
        · rfl
        · rw [hB, flipL_app]
          simp
      rw [clk_app (fun z => by rw [z] at hm; exact hK (by simpa using hm.symm)) (fun hc z => by
        rw [hm] at hc
        obtain ⟨y, hy, rfl⟩ := List.mem_map.mp z
        exact of_decide_eq_true (List.mem_filter.mp hy).2 hc), rest_step hK]
    show made (clk K c, bstep (K, b) c) S = clk (made (K, b) S) c
    have mk : ∀ (b' : Bool) (L : Kys), made (L, b') S = (if b' = true ∧ S ≠ [] ∧ S.head? = some (lastC L, 1) then flipL L else L) ++ S.filter fun x => decide (x.1 ∉ L.map (·.1)) := fun _ _ => rfl
    rw [mk, mk, key _ (by split <;> simp)]
    congr 1
    rw [hl]
    -- K = k :: r
    cases hKc : K with
    | nil => exact absurd hKc hK
    | cons k r =>
      rw [hKc] at hB hl hnd
      have kmem : l ∈ (k :: r).map (·.1) := by rw [hB]; simp
      have hbs : bstep (k :: r, b) c = if k.1 = c then b else b && decide (c ≠ l) := by
        unfold bstep
        dsimp only
        rw [hl]
      rw [hbs]
      clear hbs
      by_cases e : k.1 = c
      · rw [if_pos e]
        have ec : clk (k :: r) c = (c, -k.2) :: r := by unfold clk; dsimp only; rw [if_pos e]
        rw [ec]
        cases B with
        | nil =>
          obtain ⟨rfl, rfl⟩ : k = (l, s) ∧ r = [] := by simpa using hB
          have e : l = c := e
          subst e
          have e1 : lastC ([(l, -s)] : Kys) = l := rfl
          rw [e1]
          have e2 : flipL ([(l, s)] : Kys) = [(l, -s)] := rfl
          have e3 : flipL ([(l, -s)] : Kys) = [(l, - -s)] := rfl
          rw [e2, e3]
          split
          · unfold clk; simp
          · rw [ec]
        | cons k' B =>
          obtain ⟨rfl, rfl⟩ : k = k' ∧ r = B ++ [(l, s)] := by simpa using hB
          have e1 : lastC ((c, -k.2) :: (B ++ [(l, s)])) = l := lastC_app ((c, -k.2) :: B) (l, s)
          rw [e1]
          have e2 : flipL (k :: (B ++ [(l, s)])) = k :: (B ++ [(l, -s)]) := flipL_app (k :: B) l s
          have e3 : flipL ((c, -k.2) :: (B ++ [(l, s)])) = (c, -k.2) :: (B ++ [(l, -s)]) := flipL_app ((c, -k.2) :: B) l s
          rw [e2, e3]
          split
          · unfold clk; dsimp only; rw [if_pos e]
          · rw [ec]
      · rw [if_neg e]
        have ec : clk (k :: r) c = (c, 1) :: (k :: r).filter fun x => decide (x.1 ≠ c) := by unfold clk; dsimp only; rw [if_neg e]
        have hflip : flipL (k :: r) = B ++ [(l, -s)] := by rw [hB, flipL_app]
        have ec2 : clk (flipL (k :: r)) c = (c, 1) :: (B ++ [(l, -s)]).filter fun x => decide (x.1 ≠ c) := by
          rw [hflip]
          cases B with
          | nil =>
            obtain ⟨rfl, rfl⟩ : k = (l, s) ∧ r = [] := by simpa using hB
            unfold clk
            dsimp only [List.nil_append]
            rw [if_neg e]
          | cons k' B =>
            obtain ⟨rfl, rfl⟩ : k = k' ∧ r = B ++ [(l, s)] := by simpa using hB
            show clk (k :: (B ++ [(l, -s)])) c = _
            unfold clk
            dsimp only
            rw [if_neg e]
            rfl
        by_cases z : c = l
        · subst z
          have e4 : (b && decide (c ≠ c)) = false := by simp
          rw [e4, if_neg (by simp)]
          split
          · rw [ec2, ec, hB, filter_flip, filter_flip, if_pos rfl, if_pos rfl]
          · rfl
        · have e4 : (b && decide (c ≠ l)) = b := by simp [z]
          rw [e4]
          have e5 : clk (k :: r) c = ((c, 1) :: B.filter fun x => decide (x.1 ≠ c)) ++ [(l, s)] := by
            rw [ec, hB, filter_flip, if_neg fun y => z y.symm]
            rfl
          have e6 : clk (flipL (k :: r)) c = ((c, 1) :: B.filter fun x => decide (x.1 ≠ c)) ++ [(l, -s)] := by
            rw [ec2, filter_flip, if_neg fun y => z y.symm]
            rfl
          rw [e5, lastC_app, flipL_app]
          split
          · rw [e6]
          · rw [e5]
/-! the truth, click by click -/
theorem getD_app1 {ds : List Int} {c : Int} {i : Nat} (h : i < ds.length) : (ds ++ [c]).getD i 0 = ds.getD i 0 := by
  rw [List.getD_eq_getElem?_getD, List.getD_eq_getElem?_getD, List.getElem?_append_left h]
theorem getD_app2 {ds : List Int} {c : Int} : (ds ++ [c]).getD ds.length 0 = c := by
  rw [List.getD_eq_getElem?_getD]
  simp
structure Hd (ds : List Int) : Prop where
  hd : ∃ s t, aft [] ds = (ds.getD (ds.length - 1) 0, s) :: t
  la : Lone ds → lastC (aft [] ds) = ds.getD 0 0
theorem lone_snoc {ds : List Int} {c : Int} (hne : ds ≠ []) (H : Hd ds) : Lone (ds ++ [c]) ↔ bstep (aft [] ds, lone ds) c = true := by
  have hl : 0 < ds.length := List.length_pos_iff.mpr hne
  obtain ⟨s, t, e⟩ := H.hd
  have la := H.la
  rw [e] at la
  have h0 : (ds ++ [c]).getD 0 0 = ds.getD 0 0 := getD_app1 hl
  have down : Lone (ds ++ [c]) → Lone ds := fun ⟨_, h⟩ => ⟨hne, fun i j hij hj hi => by
    have := h i j hij (by simp; omega)
    rw [h0, getD_app1 (by omega), getD_app1 hj] at this
    exact this hi⟩
  have up : Lone ds → (c = ds.getD 0 0 → ∀ i, i < ds.length → ds.getD i 0 = ds.getD 0 0) → Lone (ds ++ [c]) := fun ⟨_, h⟩ hc => ⟨by simp, fun i j hij hj hi => by
    rw [h0] at hi ⊢
    rw [List.length_append, List.length_singleton] at hj
    rw [getD_app1 (by omega)] at hi
    by_cases z : j < ds.length
    · rw [getD_app1 z]
      exact h i j hij z hi
    · have : j = ds.length := by omega
      subst this
      rw [getD_app2]
      exact fun y => hi (hc y i (by omega))⟩
  unfold bstep
  dsimp only
  rw [e]
  dsimp only
  split
  · rename_i hc
    rw [lone_iff]
    refine ⟨down, fun h => up h fun z i hi => ?_⟩
    refine Classical.byContradiction fun y => ?_
    by_cases w : i = ds.length - 1
    · subst w
      exact y (by rw [hc, z])
    · have := h.2 i (ds.length - 1) (by omega) (by omega) y
      rw [hc] at this
      exact this z
  · rename_i hc
    rw [Bool.and_eq_true, decide_eq_true_iff, lone_iff]
    constructor
    · intro h
      have h' := down h
      refine ⟨h', ?_⟩
      rw [la h']
      intro z
      by_cases w : ds.getD (ds.length - 1) 0 = ds.getD 0 0
      · exact hc (by rw [w, z])
      · have := h.2 (ds.length - 1) ds.length (by omega) (by simp) (by rw [h0, getD_app1 (by omega)]; exact w)
        rw [h0, getD_app2] at this
        exact this z
    · rintro ⟨h', z⟩
      rw [la h'] at z
      exact up h' fun y => absurd y z
theorem lone_one (c : Int) : Lone [c] := ⟨by simp, fun i j h1 h2 _ => by simp at h2; omega⟩
theorem hd_all (ds : List Int) (hne : ds ≠ []) : Hd ds := by
  have key : ∀ n (ds : List Int), ds.length = n → ds ≠ [] → Hd ds := by
    intro n
    induction n with
    | zero => intro ds h hne; exact absurd (List.length_eq_zero_iff.mp h) hne
    | succ n ih =>
      intro es hl hne
      obtain ⟨ds, c, rfl⟩ : ∃ ds c, es = ds ++ [c] := ⟨es.dropLast, es.getLast hne, (List.dropLast_concat_getLast hne).symm⟩
      rw [List.length_append, List.length_singleton] at hl
      have e1 : (ds ++ [c]).getD ((ds ++ [c]).length - 1) 0 = c := by
        rw [List.length_append, List.length_singleton, Nat.add_sub_cancel]
        exact getD_app2
      by_cases hd : ds = []
      · subst hd
        exact ⟨⟨1, [], rfl⟩, fun _ => rfl⟩
      · have H := ih ds (by omega) hd
        have hp : 0 < ds.length := List.length_pos_iff.mpr hd
        obtain ⟨s, t, e⟩ := H.hd
        refine ⟨?_, fun h => ?_⟩
        · rw [e1, aft_snoc, e]
          unfold clk
          dsimp only
          split
          · exact ⟨_, _, rfl⟩
          · exact ⟨_, _, rfl⟩
        · rw [aft_snoc, getD_app1 hp]
          have hb := (lone_snoc hd H).mp h
          have hlo : Lone ds := by
            unfold bstep at hb
            dsimp only at hb
            rw [e] at hb
            dsimp only at hb
            split at hb
            · exact lone_iff.mp hb
            · exact lone_iff.mp (Bool.and_eq_true_iff.mp hb).1
          have la := H.la hlo
          rw [← la]
          rw [e] at hb la ⊢
          unfold bstep at hb
          dsimp only at hb
          unfold clk
          dsimp only
          split
          · rename_i hc
            cases t with
            | nil =>
              show c = ds.getD (ds.length - 1) 0
              exact hc.symm
            | cons k t => rw [lastC_cons, lastC_cons]
          · rename_i hc
            rw [if_neg hc] at hb
            have hz := of_decide_eq_true (Bool.and_eq_true_iff.mp hb).2
            obtain ⟨B, s', hB, _, _⟩ := split_last (K := (ds.getD (ds.length - 1) 0, s) :: t) (by simp)
            generalize lastC ((ds.getD (ds.length - 1) 0, s) :: t) = l at hB hz
            rw [hB, filter_flip, if_neg fun y => hz y.symm]
            exact lastC_app ((c, 1) :: _) (l, s')
  exact key _ ds rfl hne
theorem frm_snoc (ds : List Int) (c : Int) : frm (ds ++ [c]) = fstep (frm ds) c := by
  unfold frm fstep
  rw [aft_snoc]
  congr 1
  by_cases hd : ds = []
  · subst hd
    show lone [c] = true
    exact lone_iff.mpr (lone_one c)
  · have := lone_snoc (c := c) hd (hd_all ds hd)
    rw [Bool.eq_iff_iff, lone_iff]
    exact this
theorem frm_nil : frm [] = ([], false) := by
  unfold frm
  rw [lone_not fun h => h.1 rfl]
  rfl
theorem snoc_ind {P : List Int → Prop} (h0 : P []) (hs : ∀ ds c, P ds → P (ds ++ [c])) : ∀ cs, P cs := by
  intro cs
  have : ∀ n (cs : List Int), cs.length = n → P cs := by
    intro n
    induction n with
    | zero => intro cs h; rw [List.length_eq_zero_iff.mp h]; exact h0
    | succ n ih =>
      intro cs h
      have hne : cs ≠ [] := fun z => by rw [z] at h; cases h
      rw [← List.dropLast_concat_getLast hne]
      exact hs _ _ (ih _ (by rw [List.length_dropLast]; omega))
  exact this _ cs rfl
theorem frm_good {cs : List Int} (h : ∀ c ∈ cs, 0 ≤ c) : Good (frm cs) := by
  revert h
  refine snoc_ind (P := fun cs => (∀ c ∈ cs, 0 ≤ c) → Good (frm cs)) (fun _ => ?_) (fun ds c ih h => ?_) cs
  · rw [frm_nil]
    exact ⟨⟨List.nodup_nil, fun _ z => (by cases z)⟩, (fun z => by cases z), fun z => by cases z⟩
  · rw [frm_snoc]
    exact fstep_good (ih fun x hx => h x (by simp [hx])) (h c (by simp))
/-- what the form makes is what the clicks make -/
theorem made_frm {cs : List Int} {S : Kys} (h : ∀ c ∈ cs, 0 ≤ c) (hS : OkK S) : made (frm cs) S = aft S cs := by
  revert h
  refine snoc_ind (P := fun cs => (∀ c ∈ cs, 0 ≤ c) → made (frm cs) S = aft S cs) (fun _ => ?_) (fun ds c ih h => ?_) cs
  · rw [frm_nil]
    unfold made aft
    simp
  · have h' : ∀ x ∈ ds, 0 ≤ x := fun x hx => h x (by simp [hx])
    rw [frm_snoc, aft_snoc, made_step (frm_good h') hS, ih h']
theorem aft_ok {S : Kys} {cs : List Int} (h : ∀ c ∈ cs, 0 ≤ c) (hS : OkK S) : OkK (aft S cs) := by
  induction cs generalizing S with
  | nil => exact hS
  | cons c cs ih => exact ih (fun x hx => h x (by simp [hx])) (clk_ok hS (h c (by simp)))
theorem ok_nil : OkK [] := ⟨List.nodup_nil, fun _ z => by cases z⟩
/-- each key's column was clicked, or was there -/
theorem aft_sub {S : Kys} {cs : List Int} {x : Int} (h : x ∈ (aft S cs).map (·.1)) : x ∈ cs ∨ x ∈ S.map (·.1) := by
  induction cs generalizing S with
  | nil => exact .inr h
  | cons c cs ih =>
    rcases ih h with h | h
    · exact .inl (by simp [h])
    · by_cases hS : S = []
      · subst hS
        have : x = c := by simpa [clk] using h
        exact .inl (by simp [this])
      · rcases (clk_mem hS x).mp h with h | h
        · exact .inl (by simp [h])
        · exact .inr h
theorem clk_len (S : Kys) (c : Int) : (clk S c).length ≤ S.length + 1 := by
  unfold clk
  cases S with
  | nil => simp
  | cons k r =>
    dsimp only
    split
    · simp
    · have := List.length_filter_le (fun x : Ky => decide (x.1 ≠ c)) (k :: r)
      rw [List.length_cons]
      omega
theorem aft_len (S : Kys) (cs : List Int) : (aft S cs).length ≤ S.length + cs.length := by
  induction cs generalizing S with
  | nil => exact Nat.le_refl _
  | cons c cs ih =>
    have := ih (clk S c)
    have := clk_len S c
    show (aft (clk S c) cs).length ≤ _
    rw [List.length_cons]
    omega
/-! the first sorting of which two forms make unlike ones -/
def fa (f g : Fm) : Option Kys := if f = g then none else if f.1 ≠ g.1 then some [] else some [(lastC f.1, 1)]
theorem made_nil (f : Fm) : made f [] = f.1 := by
  unfold made
  simp
/-- with like keys and unlike truths they part where the last column is sorted upwards -/
theorem part_iff {K S : Kys} (h : Good (K, true)) : made (K, true) S ≠ made (K, false) S ↔ S.head? = some (lastC K, 1) := by
  have hK : K ≠ [] := h.ne rfl
  obtain ⟨B, s, hB, _, _⟩ := split_last hK
  have hs : s = 1 ∨ s = -1 := by
    have := h.ok.2 (lastC K, s) (by show (lastC K, s) ∈ K; rw [hB]; simp [lastC_app])
    exact this.2
  unfold made
  dsimp only
  rw [if_neg (show ¬ (false = true ∧ S ≠ [] ∧ S.head? = some (lastC K, 1)) by simp)]
  by_cases z : S.head? = some (lastC K, 1)
  · rw [if_pos ⟨rfl, (fun y => by rw [y] at z; cases z), z⟩]
    refine ⟨fun _ => z, fun _ y => ?_⟩
    have y := List.append_cancel_right y
    generalize lastC K = l at hB
    rw [hB, flipL_app] at y
    have y := List.append_cancel_left y
    simp at y
    omega
  · rw [if_neg fun y => z y.2.2]
    exact ⟨fun y => absurd rfl y, fun y => absurd y z⟩
end M03
namespace M03
theorem lone_stop {cs : List Int} {a : Nat} (hne : cs ≠ []) (h2 : ∀ i, i < a → cs.getD i 0 = cs.getD 0 0) (h3 : a = cs.length ∨ cs.getD a 0 ≠ cs.getD 0 0) : Lone cs ↔ cs.getD 0 0 ∉ cs.drop a := by
  have gd : ∀ {j : Nat} (h : j < cs.length), cs.getD j 0 = cs[j] := fun {j} h => by
    rw [List.getD_eq_getElem?_getD, List.getElem?_eq_getElem h]
    rfl
  constructor
  · rintro ⟨_, h⟩ hm
    obtain ⟨j, hj, e⟩ := List.mem_iff_getElem.mp hm
    rw [List.length_drop] at hj
    rw [List.getElem_drop] at e
    rcases h3 with h3 | h3
    · omega
    · by_cases z : j = 0
      · subst z
        rw [gd (show a < cs.length by omega)] at h3
        exact h3 e
      · have := h a (a + j) (by omega) (by omega) h3
        rw [gd (show a + j < cs.length by omega)] at this
        exact this e
  · intro hm
    refine ⟨hne, fun i j hij hj hi e => hm ?_⟩
    have : a ≤ i := by
      refine Nat.le_of_not_lt fun z => hi (h2 i z)
    rw [← e, gd hj]
    refine List.mem_iff_getElem.mpr ⟨j - a, by rw [List.length_drop]; omega, ?_⟩
    rw [List.getElem_drop]
    congr 1
    omega
def pfn (K : Kys) (x : Ky) : Bool := !decide (x.1 ∈ K.map (·.1))
theorem pfn_eq (K S : Kys) : (S.filter fun x => decide (x.1 ∉ K.map (·.1))) = S.filter (pfn K) := List.filter_congr fun x _ => by
  unfold pfn
  by_cases h : x.1 ∈ K.map (·.1) <;> simp only [h] <;> rfl
theorem made_yes {B S : Kys} {l s : Int} (h : S.head? = some (l, 1)) : made (B ++ [(l, s)], true) S = (B ++ [(l, -s)]) ++ S.filter (pfn (B ++ [(l, s)])) := by
  unfold made
  dsimp only
  rw [lastC_app, if_pos ⟨rfl, (fun z => by rw [z] at h; cases h), h⟩, flipL_app, pfn_eq]
theorem made_no {K S : Kys} {b : Bool} (h : ¬ (b = true ∧ S ≠ [] ∧ S.head? = some (lastC K, 1))) : made (K, b) S = K ++ S.filter (pfn K) := by
  unfold made
  dsimp only
  rw [if_neg h, pfn_eq]
theorem hasF_ne {f : Fm} (h : hasF f = true) : f.2 = true → f.1 ≠ [] := by
  rintro h2 h1
  unfold hasF at h
  rw [h1, h2] at h
  simp at h
theorem hasF_eq (f : Fm) : hasF f = if OkK f.1 then (if (f.2 = !decide (f.1 = [])) then true else decide ((f.1.length : Int) > 1)) else false := by
  obtain ⟨K, b⟩ := f
  unfold hasF
  by_cases h1 : OkK K
  · rw [if_pos h1, decide_eq_true h1, Bool.true_and]
    cases K with
    | nil => cases b <;> simp
    | cons k r => cases b <;> simp <;> omega
  · rw [if_neg h1, decide_eq_false h1, Bool.false_and]
theorem frm_len (cs : List Int) : (frm cs).1.length ≤ cs.length := by
  have := aft_len [] cs
  show (aft [] cs).length ≤ cs.length
  simpa using this
end M03
namespace M03
def grow (w : Nat) (Y : List Kys) : List Kys := Y.flatMap fun S => ((List.range w).filter fun (c : Nat) => decide ((c : Int) ∉ S.map (·.1))).flatMap fun (c : Nat) => [S ++ [((c : Int), -1)], S ++ [((c : Int), 1)]]
def lay (w : Nat) : Nat → List Kys
  | 0 => [[]]
  | t + 1 => grow w (lay w t)
def fnd (w : Nat) : Nat → List Kys
  | 0 => [[]]
  | t + 1 => fnd w t ++ lay w (t + 1)

abbrev shK (n : Int) (S : Kys) : Kys := S.map fun k => (k.1 + n, k.2)
theorem clk_sh (n : Int) (S : Kys) (c : Int) : clk (shK n S) (c + n) = shK n (clk S c) := by
  cases S with
  | nil => rfl
  | cons k r =>
    show clk ((k.1 + n, k.2) :: shK n r) (c + n) = _
    unfold clk
    dsimp only
    by_cases h : k.1 = c
    · rw [if_pos h, if_pos (by rw [h])]
      rfl
    · rw [if_neg h, if_neg (by omega)]
      show _ = (c + n, 1) :: ((k :: r).filter fun x => decide (x.1 ≠ c)).map fun k => (k.1 + n, k.2)
      congr 1
      rw [show (k.1 + n, k.2) :: shK n r = (k :: r).map fun k => (k.1 + n, k.2) from rfl, List.filter_map]
      congr 1
      refine List.filter_congr fun x _ => ?_
      show decide (x.1 + n ≠ c + n) = decide (x.1 ≠ c)
      exact decide_eq_decide.mpr (by omega)
theorem aft_sh (n : Int) (S : Kys) (cs : List Int) : aft (shK n S) (cs.map (· + n)) = shK n (aft S cs) := by
  induction cs generalizing S with
  | nil => rfl
  | cons c cs ih =>
    show aft (clk (shK n S) (c + n)) (cs.map (· + n)) = _
    rw [clk_sh, ih]
    rfl
theorem getD_sh {n : Int} {cs : List Int} {i : Nat} (h : i < cs.length) : (cs.map (· + n)).getD i 0 = cs.getD i 0 + n := by
  rw [List.getD_eq_getElem?_getD, List.getD_eq_getElem?_getD, List.getElem?_map, List.getElem?_eq_getElem h]
  rfl
theorem lone_sh (n : Int) (cs : List Int) : lone (cs.map (· + n)) = lone cs := by
  rw [Bool.eq_iff_iff, lone_iff, lone_iff]
  constructor
  · rintro ⟨h0, h⟩
    refine ⟨fun z => h0 (by rw [z]; rfl), fun i j hij hj hi e => ?_⟩
    have := h i j hij (by simpa using hj)
    rw [getD_sh (by omega), getD_sh (by omega), getD_sh hj] at this
    exact this (by omega) (by omega)
  · rintro ⟨h0, h⟩
    refine ⟨fun z => h0 (by simpa using z), fun i j hij hj hi e => ?_⟩
    have hj : j < cs.length := by simpa using hj
    rw [getD_sh (by omega), getD_sh (by omega)] at hi
    rw [getD_sh hj, getD_sh (by omega)] at e
    exact h i j hij hj (by omega) (by omega)
theorem frm_sh (n : Int) (cs : List Int) : frm (cs.map (· + n)) = (shK n (frm cs).1, (frm cs).2) := by
  unfold frm
  dsimp only
  rw [lone_sh]
  congr 1
  exact aft_sh n [] cs
theorem shK_inj {n : Int} {S T : Kys} : shK n S = shK n T ↔ S = T := List.map_inj_right fun x y h => by
  obtain ⟨a, b⟩ := x
  obtain ⟨c, d⟩ := y
  have h1 : a + n = c + n := congrArg Prod.fst h
  have h2 : b = d := congrArg Prod.snd h
  rw [h2, show a = c by omega]
theorem lastC_sh {n : Int} {S : Kys} (h : S ≠ []) : lastC (shK n S) = lastC S + n := by
  unfold lastC
  rw [List.getLast?_map, List.getLast?_eq_some_getLast h]
  rfl
theorem same_keys {f g : Fm} (hf : Good f) (hg : Good g) (h : f ≠ g) (e : f.1 = g.1) : f.1 ≠ [] := fun z => by
  refine h (Prod.ext e ?_)
  cases h1 : f.2 with
  | true => exact absurd z (hf.ne h1)
  | false =>
    cases h2 : g.2 with
    | true => exact absurd (by rw [← e, z]) (hg.ne h2)
    | false => rfl
theorem fa_sh (n : Int) {f g : Fm} (hf : Good f) (hg : Good g) : fa (shK n f.1, f.2) (shK n g.1, g.2) = (fa f g).map (shK n) := by
  unfold fa
  by_cases e : f = g
  · rw [if_pos e, if_pos (by rw [e])]
    rfl
  · have e' : ¬ ((shK n f.1, f.2) : Fm) = (shK n g.1, g.2) := fun z => e (Prod.ext (shK_inj.mp (Prod.mk.inj z).1) (Prod.mk.inj z).2)
    rw [if_neg e, if_neg e']
    dsimp only
    by_cases e1 : f.1 = g.1
    · have e2 : ¬ shK n f.1 ≠ shK n g.1 := fun z => z (by rw [e1])
      have e3 : ¬ f.1 ≠ g.1 := fun z => z e1
      rw [if_neg e2, if_neg e3, lastC_sh (same_keys hf hg e e1)]
      rfl
    · have e2 : shK n f.1 ≠ shK n g.1 := fun z => e1 (shK_inj.mp z)
      rw [if_pos e2, if_pos e1]
      rfl
theorem ok_sh {n : Int} {S : Kys} (h : OkK S) (hn : 0 ≤ n) : OkK (shK n S) := by
  refine ⟨?_, fun k hk => ?_⟩
  · rw [List.map_map]
    have := h.1
    unfold List.Nodup at this ⊢
    rw [List.pairwise_map] at this ⊢
    refine this.imp fun {a b} h z => h ?_
    have z : a.1 + n = b.1 + n := z
    omega
  · obtain ⟨x, hx, rfl⟩ := List.mem_map.mp hk
    have := h.2 x hx
    exact ⟨by show 0 ≤ x.1 + n; omega, this.2⟩
theorem fa_none {f g : Fm} : fa f g = none ↔ f = g := by
  unfold fa
  by_cases e : f = g
  · rw [if_pos e]; exact ⟨fun _ => e, fun _ => rfl⟩
  · rw [if_neg e]
    split <;> exact ⟨(fun z => by cases z), fun z => absurd z e⟩
theorem fa_comm (f g : Fm) : fa f g = fa g f := by
  unfold fa
  by_cases e : f = g
  · rw [if_pos e, if_pos e.symm]
  · have e' : ¬ g = f := fun z => e z.symm
    rw [if_neg e, if_neg e']
    by_cases e1 : f.1 = g.1
    · rw [e1]
    · have e2 : g.1 ≠ f.1 := fun z => e1 z.symm
      rw [if_pos e1, if_pos e2]
/-! all sortings of few columns -/
theorem fnd_ok : ∀ w ∈ [1, 2, 3], ∀ S ∈ fnd w w, OkK S ∧ S.length ≤ 3 := by decide +kernel
theorem fnd_first : ∀ w ∈ [1, 2, 3], ∀ l ∈ List.range w, ((fnd w w).filter fun S => decide (S.head? = some ((l : Int), (1 : Int)))).head? = some [((l : Int), (1 : Int))] := by decide +kernel
theorem fnd_nil : ∀ w ∈ [1, 2, 3], (fnd w w).head? = some [] := by decide +kernel
theorem lay_len : ∀ w ∈ [1, 2, 3], ∀ t ∈ [0, 1, 2, 3], (lay w t).length ≤ 100 ∧ (fnd w t).length ≤ 200 := by decide +kernel
theorem lay_few : ∀ w ∈ [1, 2, 3], ∀ t ∈ [0, 1, 2, 3], ∀ S ∈ lay w t, S.length ≤ 3 := by decide +kernel
theorem w3 {w : Nat} (h1 : 1 ≤ w) (h2 : w ≤ 3) : w ∈ [1, 2, 3] := by
  have : w = 1 ∨ w = 2 ∨ w = 3 := by omega
  rcases this with rfl | rfl | rfl <;> simp
theorem lastC_frm {cs : List Int} {w : Int} (h : ∀ c ∈ cs, 0 ≤ c ∧ c < w) (hn : (frm cs).1 ≠ []) : 0 ≤ lastC (frm cs).1 ∧ lastC (frm cs).1 < w := by
  have := lastC_mem hn
  rcases aft_sub this with z | z
  · exact h _ z
  · cases z
/-- the first of all sortings at which two lists of clicks part -/
theorem first_part {w : Nat} {cs ds : List Int} (h1 : 1 ≤ w) (h2 : w ≤ 3) (hc : ∀ c ∈ cs, 0 ≤ c ∧ c < (w : Int)) (hd : ∀ c ∈ ds, 0 ≤ c ∧ c < (w : Int)) :
    ((fnd w w).filter fun S => !decide (aft S cs = aft S ds)).head? = fa (frm cs) (frm ds) := by
  have hw := w3 h1 h2
  have gf := frm_good fun c h => (hc c h).1
  have gg := frm_good fun c h => (hd c h).1
  have pf : ∀ S ∈ fnd w w, (!decide (aft S cs = aft S ds)) = !decide (made (frm cs) S = made (frm ds) S) := fun S hS => by
    have hk := (fnd_ok w hw S hS).1
    rw [made_frm (fun c h => (hc c h).1) hk, made_frm (fun c h => (hd c h).1) hk]
  rw [List.filter_congr pf]
  have lc := fun hn => lastC_frm hc hn
  generalize frm cs = f at *
  generalize frm ds = g at *
  unfold fa
  by_cases e : f = g
  · subst e
    rw [if_pos rfl, List.filter_eq_nil_iff.mpr fun S _ => by simp]
    rfl
  · rw [if_neg e]
    by_cases e1 : f.1 = g.1
    · rw [if_neg (by simpa using e1)]
      have hn := same_keys gf gg e e1
      obtain ⟨l0, l1⟩ := lc hn
      have part : ∀ S : Kys, (!decide (made f S = made g S)) = decide (S.head? = some (lastC f.1, 1)) := fun S => by
        obtain ⟨K, b⟩ := f
        obtain ⟨L, d⟩ := g
        have e1 : K = L := e1
        subst e1
        rw [Bool.eq_iff_iff, decide_eq_true_iff, Bool.not_eq_true', decide_eq_false_iff_not]
        cases b <;> cases d
        · exact absurd rfl e
        · have := part_iff (S := S) gg
          exact ⟨fun z => this.mp fun y => z y.symm, fun z y => this.mpr z y.symm⟩
        · exact part_iff (S := S) gf
        · exact absurd rfl e
      rw [List.filter_congr fun S _ => part S]
      have := fnd_first w hw (lastC f.1).toNat (List.mem_range.mpr (by omega))
      rw [show (((lastC f.1).toNat : Nat) : Int) = lastC f.1 by omega] at this
      exact this
    · rw [if_pos e1]
      have h0 := fnd_nil w hw
      cases hF : fnd w w with
      | nil => rw [hF] at h0; cases h0
      | cons S T =>
        rw [hF] at h0
        have h0 : S = [] := Option.some.inj h0
        subst h0
        rw [List.filter_cons, if_pos (by rw [made_nil, made_nil, decide_eq_false e1]; rfl)]
        rfl
/-- the law's own look at the truth -/
theorem bound_eq (cs : List Int) (O : List Nat) (hO : O = (List.range cs.length).filter fun k => !decide (cs.getD k 0 = cs.getD 0 0)) :
    (decide (cs ≠ []) && decide (((List.range cs.length).filter fun k => decide (O ≠ [] ∧ O.headD 0 < k ∧ cs.getD k 0 = cs.getD 0 0)) = [])) = lone cs := by
  rw [Bool.eq_iff_iff, lone_iff, Bool.and_eq_true, decide_eq_true_iff, decide_eq_true_iff, List.filter_eq_nil_iff]
  have mem : ∀ k, k ∈ O ↔ k < cs.length ∧ cs.getD k 0 ≠ cs.getD 0 0 := fun k => by
    rw [hO, List.mem_filter, List.mem_range]
    simp
  have asc : O.Pairwise (· < ·) := by rw [hO]; exact (List.pairwise_lt_range).filter _
  cases O with
  | nil =>
    constructor
    · rintro ⟨h, _⟩
      exact ⟨h, fun i j hij hj hi => absurd ((mem i).mpr ⟨by omega, hi⟩) (by simp)⟩
    · rintro ⟨h, _⟩
      exact ⟨h, fun k _ => by simp⟩
  | cons a O =>
    have ha := (mem a).mp (by simp)
    have below : ∀ i, i < a → cs.getD i 0 = cs.getD 0 0 := fun i hi => Classical.byContradiction fun z => by
      have := (mem i).mpr ⟨by omega, z⟩
      rcases List.mem_cons.mp this with y | y
      · omega
      · have := (List.pairwise_cons.mp asc).1 i y
        omega
    constructor
    · rintro ⟨h, h'⟩
      refine ⟨h, fun i j hij hj hi e => ?_⟩
      have hai : a ≤ i := Nat.le_of_not_lt fun z => hi (below i z)
      exact h' j (List.mem_range.mpr hj) (decide_eq_true ⟨by simp, by show a < j; omega, e⟩)
    · rintro ⟨h, h'⟩
      refine ⟨h, fun k hk z => ?_⟩
      obtain ⟨_, z1, z2⟩ := of_decide_eq_true z
      have z1 : a < k := z1
      exact h' a k z1 (List.mem_range.mp hk) ha.2 z2
end M03

namespace Lw
open PySem PySem.Spec PyProof.Rows L2 Pd
/-! printed by gen.py: the text's defs -/
def topS (i : Nat) : Stmt := PySem.Challenge.pw_listworks_k03_forms_of_clicks_done.main.body.getD i (.Pass ⟨0, 0, 0, 0⟩)
abbrev s_are_keys : Stmt := topS 5
abbrev n_are_keys : List Str := ["sorting", "columns", "column", "sign"]
abbrev p_are_keys : List Str := ["sorting"]
theorem sc_are_keys : FnScope n_are_keys p_are_keys (defScope s_are_keys) := ⟨rfl, rfl, rfl, by decide +kernel, rfl, by decide +kernel, by decide +kernel⟩
abbrev s_after_click : Stmt := topS 6
abbrev n_after_click : List Str := ["sorting", "column", "key"]
abbrev p_after_click : List Str := ["sorting", "column"]
theorem sc_after_click : FnScope n_after_click p_after_click (defScope s_after_click) := ⟨rfl, rfl, rfl, by decide +kernel, rfl, by decide +kernel, by decide +kernel⟩
abbrev s_need_keys : Stmt := topS 8
abbrev n_need_keys : List Str := ["sorting"]
abbrev p_need_keys : List Str := ["sorting"]
theorem sc_need_keys : FnScope n_need_keys p_need_keys (defScope s_need_keys) := ⟨rfl, rfl, rfl, by decide +kernel, rfl, by decide +kernel, by decide +kernel⟩
abbrev s_after_clicks : Stmt := topS 9
abbrev n_after_clicks : List Str := ["sorting", "clicks", "found", "column"]
abbrev p_after_clicks : List Str := ["sorting", "clicks"]
theorem sc_after_clicks : FnScope n_after_clicks p_after_clicks (defScope s_after_clicks) := ⟨rfl, rfl, rfl, by decide +kernel, rfl, by decide +kernel, by decide +kernel⟩
abbrev s_has_form : Stmt := topS 11
abbrev n_has_form : List Str := ["form", "keys", "bound"]
abbrev p_has_form : List Str := ["form"]
theorem sc_has_form : FnScope n_has_form p_has_form (defScope s_has_form) := ⟨rfl, rfl, rfl, by decide +kernel, rfl, by decide +kernel, by decide +kernel⟩
abbrev s_need_form : Stmt := topS 12
abbrev n_need_form : List Str := ["form"]
abbrev p_need_form : List Str := ["form"]
theorem sc_need_form : FnScope n_need_form p_need_form (defScope s_need_form) := ⟨rfl, rfl, rfl, by decide +kernel, rfl, by decide +kernel, by decide +kernel⟩
abbrev s_columns_of : Stmt := topS 13
abbrev n_columns_of : List Str := ["keys", "column", "sign"]
abbrev p_columns_of : List Str := ["keys"]
theorem sc_columns_of : FnScope n_columns_of p_columns_of (defScope s_columns_of) := ⟨rfl, rfl, rfl, by decide +kernel, rfl, by decide +kernel, by decide +kernel⟩
abbrev s_is_left_alone : Stmt := topS 14
abbrev n_is_left_alone : List Str := ["clicks", "at"]
abbrev p_is_left_alone : List Str := ["clicks"]
theorem sc_is_left_alone : FnScope n_is_left_alone p_is_left_alone (defScope s_is_left_alone) := ⟨rfl, rfl, rfl, by decide +kernel, rfl, by decide +kernel, by decide +kernel⟩
abbrev s_made_form : Stmt := topS 15
abbrev n_made_form : List Str := ["clicks"]
abbrev p_made_form : List Str := ["clicks"]
theorem sc_made_form : FnScope n_made_form p_made_form (defScope s_made_form) := ⟨rfl, rfl, rfl, by decide +kernel, rfl, by decide +kernel, by decide +kernel⟩
abbrev s_form_of : Stmt := topS 16
abbrev n_form_of : List Str := ["clicks", "column"]
abbrev p_form_of : List Str := ["clicks"]
theorem sc_form_of : FnScope n_form_of p_form_of (defScope s_form_of) := ⟨rfl, rfl, rfl, by decide +kernel, rfl, by decide +kernel, by decide +kernel⟩
abbrev s_is_form : Stmt := topS 17
abbrev n_is_form : List Str := ["form"]
abbrev p_is_form : List Str := ["form"]
theorem sc_is_form : FnScope n_is_form p_is_form (defScope s_is_form) := ⟨rfl, rfl, rfl, by decide +kernel, rfl, by decide +kernel, by decide +kernel⟩
abbrev s_made_of : Stmt := topS 18
abbrev n_made_of : List Str := ["form", "sorting", "keys", "bound", "rest", "key"]
abbrev p_made_of : List Str := ["form", "sorting"]
theorem sc_made_of : FnScope n_made_of p_made_of (defScope s_made_of) := ⟨rfl, rfl, rfl, by decide +kernel, rfl, by decide +kernel, by decide +kernel⟩
abbrev s_formed : Stmt := topS 19
abbrev n_formed : List Str := ["form", "sorting"]
abbrev p_formed : List Str := ["form", "sorting"]
theorem sc_formed : FnScope n_formed p_formed (defScope s_formed) := ⟨rfl, rfl, rfl, by decide +kernel, rfl, by decide +kernel, by decide +kernel⟩
abbrev s_alike : Stmt := topS 20
abbrev n_alike : List Str := ["one", "other"]
abbrev p_alike : List Str := ["one", "other"]
theorem sc_alike : FnScope n_alike p_alike (defScope s_alike) := ⟨rfl, rfl, rfl, by decide +kernel, rfl, by decide +kernel, by decide +kernel⟩
abbrev s_first_apart : Stmt := topS 21
abbrev n_first_apart : List Str := ["one", "other", "first", "second"]
abbrev p_first_apart : List Str := ["one", "other"]
theorem sc_first_apart : FnScope n_first_apart p_first_apart (defScope s_first_apart) := ⟨rfl, rfl, rfl, by decide +kernel, rfl, by decide +kernel, by decide +kernel⟩
abbrev s__law_open : Stmt := topS 23
abbrev n__law_open : List Str := ["script", "k", "cell", "seed"]
abbrev p__law_open : List Str := ["script", "k"]
theorem sc__law_open : FnScope n__law_open p__law_open (defScope s__law_open) := ⟨rfl, rfl, rfl, by decide +kernel, rfl, by decide +kernel, by decide +kernel⟩
abbrev s__law_draw : Stmt := topS 24
abbrev n__law_draw : List Str := ["deck", "many", "taken", "stir"]
abbrev p__law_draw : List Str := ["deck", "many"]
theorem sc__law_draw : FnScope n__law_draw p__law_draw (defScope s__law_draw) := ⟨rfl, rfl, rfl, by decide +kernel, rfl, by decide +kernel, by decide +kernel⟩
abbrev s__law_clicks : Stmt := topS 25
abbrev n__law_clicks : List Str := ["deck", "width", "most", "found", "turn", "column"]
abbrev p__law_clicks : List Str := ["deck", "width", "most"]
theorem sc__law_clicks : FnScope n__law_clicks p__law_clicks (defScope s__law_clicks) := ⟨rfl, rfl, rfl, by decide +kernel, rfl, by decide +kernel, by decide +kernel⟩
abbrev s__law_click : Stmt := topS 26
abbrev n__law_click : List Str := ["keys", "column", "key"]
abbrev p__law_click : List Str := ["keys", "column"]
theorem sc__law_click : FnScope n__law_click p__law_click (defScope s__law_click) := ⟨rfl, rfl, rfl, by decide +kernel, rfl, by decide +kernel, by decide +kernel⟩
abbrev s__law_after : Stmt := topS 27
abbrev n__law_after : List Str := ["keys", "clicks", "column"]
abbrev p__law_after : List Str := ["keys", "clicks"]
theorem sc__law_after : FnScope n__law_after p__law_after (defScope s__law_after) := ⟨rfl, rfl, rfl, by decide +kernel, rfl, by decide +kernel, by decide +kernel⟩
abbrev s__law_keys : Stmt := topS 28
abbrev n__law_keys : List Str := ["deck", "width", "left", "found", "turn"]
abbrev p__law_keys : List Str := ["deck", "width"]
theorem sc__law_keys : FnScope n__law_keys p__law_keys (defScope s__law_keys) := ⟨rfl, rfl, rfl, by decide +kernel, rfl, by decide +kernel, by decide +kernel⟩
abbrev s__law_every : Stmt := topS 29
abbrev n__law_every : List Str := ["width", "found", "layer", "turn", "longer", "keys", "column", "used", "sign", "one"]
abbrev p__law_every : List Str := ["width"]
theorem sc__law_every : FnScope n__law_every p__law_every (defScope s__law_every) := ⟨rfl, rfl, rfl, by decide +kernel, rfl, by decide +kernel, by decide +kernel⟩
abbrev s__law_says : Stmt := topS 30
abbrev n__law_says : List Str := ["found", "due"]
abbrev p__law_says : List Str := ["found", "due"]
theorem sc__law_says : FnScope n__law_says p__law_says (defScope s__law_says) := ⟨rfl, rfl, rfl, by decide +kernel, rfl, by decide +kernel, by decide +kernel⟩
abbrev s__law_bound : Stmt := topS 31
abbrev n__law_bound : List Str := ["clicks", "others", "again", "k"]
abbrev p__law_bound : List Str := ["clicks"]
theorem sc__law_bound : FnScope n__law_bound p__law_bound (defScope s__law_bound) := ⟨rfl, rfl, rfl, by decide +kernel, rfl, by decide +kernel, by decide +kernel⟩
abbrev s__law_other : Stmt := topS 32
abbrev n__law_other : List Str := ["deck", "width", "clicks", "at", "way", "column"]
abbrev p__law_other : List Str := ["deck", "width", "clicks"]
theorem sc__law_other : FnScope n__law_other p__law_other (defScope s__law_other) := ⟨rfl, rfl, rfl, by decide +kernel, rfl, by decide +kernel, by decide +kernel⟩
abbrev s__law_is_form_right : Stmt := topS 33
abbrev n__law_is_form_right : List Str := ["form", "keys", "bound", "rows", "thing", "due"]
abbrev p__law_is_form_right : List Str := ["form"]
theorem sc__law_is_form_right : FnScope n__law_is_form_right p__law_is_form_right (defScope s__law_is_form_right) := ⟨rfl, rfl, rfl, by decide +kernel, rfl, by decide +kernel, by decide +kernel⟩
abbrev s__law_far_right : Stmt := topS 34
abbrev n__law_far_right : List Str := ["deck", "far", "clicks", "keys", "bound", "moved", "other", "apart", "told", "sorting", "found", "column", "sign"]
abbrev p__law_far_right : List Str := ["deck"]
theorem sc__law_far_right : FnScope n__law_far_right p__law_far_right (defScope s__law_far_right) := ⟨rfl, rfl, rfl, by decide +kernel, rfl, by decide +kernel, by decide +kernel⟩
abbrev s__law_many_right : Stmt := topS 35
abbrev n__law_many_right : List Str := ["deck", "places", "clicks", "form", "keys", "turn", "number"]
abbrev p__law_many_right : List Str := ["deck"]
theorem sc__law_many_right : FnScope n__law_many_right p__law_many_right (defScope s__law_many_right) := ⟨rfl, rfl, rfl, by decide +kernel, rfl, by decide +kernel, by decide +kernel⟩
abbrev s__law_alike_right : Stmt := topS 36
abbrev n__law_alike_right : List Str := ["width", "one", "other", "apart", "due", "kept", "keys"]
abbrev p__law_alike_right : List Str := ["width", "one", "other"]
theorem sc__law_alike_right : FnScope n__law_alike_right p__law_alike_right (defScope s__law_alike_right) := ⟨rfl, rfl, rfl, by decide +kernel, rfl, by decide +kernel, by decide +kernel⟩
abbrev s__law_right : Stmt := topS 37
abbrev n__law_right : List Str := ["deck", "width", "one", "other", "clicks", "kept", "form", "every", "keys", "found", "turn"]
abbrev p__law_right : List Str := ["deck"]
theorem sc__law_right : FnScope n__law_right p__law_right (defScope s__law_right) := ⟨rfl, rfl, rfl, by decide +kernel, rfl, by decide +kernel, by decide +kernel⟩
abbrev s_law : Stmt := topS 38
abbrev n_law : List Str := ["script", "k"]
abbrev p_law : List Str := ["script"]
theorem sc_law : FnScope n_law p_law (defScope s_law) := ⟨rfl, rfl, rfl, by decide +kernel, rfl, by decide +kernel, by decide +kernel⟩
/-- the text's errors: which clause takes which -/
structure ErrF (K : PySem.W.Frag) : Prop where
  s_InvalidColumn_InvalidColumn : SubIs K "InvalidColumn" "InvalidColumn" true
  s_InvalidColumn_InvalidSorting : SubIs K "InvalidColumn" "InvalidSorting" false
  i_InvalidColumn_InvalidColumn : IsOf K "InvalidColumn" "InvalidColumn" true
  i_InvalidColumn_InvalidSorting : IsOf K "InvalidColumn" "InvalidSorting" false
  v_InvalidColumn : ErrV K "InvalidColumn"
  x_InvalidColumn : ErrI K "InvalidColumn"
  s_InvalidSorting_InvalidColumn : SubIs K "InvalidSorting" "InvalidColumn" false
  s_InvalidSorting_InvalidSorting : SubIs K "InvalidSorting" "InvalidSorting" true
  i_InvalidSorting_InvalidColumn : IsOf K "InvalidSorting" "InvalidColumn" false
  i_InvalidSorting_InvalidSorting : IsOf K "InvalidSorting" "InvalidSorting" true
  v_InvalidSorting : ErrV K "InvalidSorting"
  x_InvalidSorting : ErrI K "InvalidSorting"
/-! what each def is worth: clicks, sortings, forms -/
open M03 (Kys Fm clk aft lone frm made hasF OkK fa lastC fnd lay grow)
def dK (k : Int × Int) : PyData := .tuple [.int k.1, .int k.2]
def dKs (S : Kys) : PyData := .list (S.map dK)
def dFm (f : Fm) : PyData := .tuple [dKs f.1, .bool f.2]
def dFa : Option Kys → PyData
  | none => .none
  | some S => dKs S
abbrev Ps (cs : List Int) : Prop := ∀ c ∈ cs, 0 ≤ c
abbrev xD (R : W → Mu → Prop) (S : Str → W → Mu → Prop) (xk : L2.XK) : AEn := { nx := fun _ μ' => R (.d .none) μ', rt := R, xw := fun c d _ H => xk c d H, xc := fun x w _ μ' => S x w μ' }
abbrev mKs (S : Kys) : Option C := some (.lst (S.map fun k => W.d (dK k)))
def F_are_keys : FS := fun ws μ R => ∃ S : Kys, ws = [.d (dKs S)] ∧ S.length < 64 ∧ R (.d (.bool (decide (OkK S)))) μ
def F_after_click : FS := fun ws μ R => ∃ (S : Kys) (c : Int), ws = [.d (dKs S), .d (.int c)] ∧ S.length ≤ 1000 ∧ R (.d (dKs (clk S c))) μ
def F_need_keys : FX := fun ws μ R S' => ∃ S : Kys, ws = [.d (dKs S)] ∧ OkK S ∧ S.length < 64 ∧ R (.d .none) μ
def F_after_clicks : FS := fun ws μ R => ∃ (S : Kys) (cs : List Int), ws = [.d (dKs S), .d (dInts cs)] ∧ S.length + cs.length ≤ 900 ∧ R (.d (dKs (aft S cs))) μ
def F_has_form : FS := fun ws μ R => ∃ f : Fm, ws = [.d (dFm f)] ∧ f.1.length < 64 ∧ R (.d (.bool (hasF f))) μ
def F_need_form : FX := fun ws μ R S' => ∃ f : Fm, ws = [.d (dFm f)] ∧ f.1.length < 64 ∧ hasF f = true ∧ R (.d .none) μ
def F_columns_of : FS := fun ws μ R => ∃ S : Kys, ws = [.d (dKs S)] ∧ S.length ≤ 1000 ∧ R (.d (dInts (S.map (·.1)))) μ
def F_is_left_alone : FS := fun ws μ R => ∃ cs : List Int, ws = [.d (dInts cs)] ∧ cs.length ≤ 900 ∧ R (.d (.bool (lone cs))) μ
def F_made_form : FS := fun ws μ R => ∃ cs : List Int, ws = [.d (dInts cs)] ∧ cs.length ≤ 900 ∧ R (.d (dFm (frm cs))) μ
def F_form_of : FX := fun ws μ R S' => ∃ cs : List Int, ws = [.d (dInts cs)] ∧ Ps cs ∧ cs.length ≤ 900 ∧ R (.d (dFm (frm cs))) μ
def F_is_form : FS := fun ws μ R => ∃ f : Fm, ws = [.d (dFm f)] ∧ f.1.length < 64 ∧ R (.d (.bool (hasF f))) μ
def F_made_of : FS := fun ws μ R => ∃ (f : Fm) (S : Kys), ws = [.d (dFm f), .d (dKs S)] ∧ (f.2 = true → f.1 ≠ []) ∧ f.1.length ≤ 900 ∧ S.length ≤ 900 ∧ R (.m μ.length) (μ ++ [mKs (made f S)])
def F_formed : FX := fun ws μ R S' => ∃ (f : Fm) (S : Kys), ws = [.d (dFm f), .d (dKs S)] ∧ hasF f = true ∧ f.1.length < 64 ∧ OkK S ∧ S.length < 64 ∧ R (.m μ.length) (μ ++ [mKs (made f S)])
def F_alike : FX := fun ws μ R S' => ∃ cs ds : List Int, ws = [.d (dInts cs), .d (dInts ds)] ∧ Ps cs ∧ Ps ds ∧ cs.length ≤ 900 ∧ ds.length ≤ 900 ∧ R (.d (.bool (decide (frm cs = frm ds)))) μ
def F_first_apart : FX := fun ws μ R S' => ∃ cs ds : List Int, ws = [.d (dInts cs), .d (dInts ds)] ∧ Ps cs ∧ Ps ds ∧ cs.length ≤ 900 ∧ ds.length ≤ 900 ∧ R (.d (dFa (fa (frm cs) (frm ds)))) μ
def F__law_open : FS := fun ws μ R => ∃ ns k, ws = [.f (wInts ns), .d (.int k)] ∧ 0 ≤ k ∧ k ≤ 100 ∧ ∀ p, PotOk 0 p → R (.m μ.length) (μ ++ [p])
abbrev F__law_draw : FS := F_draw
def F__law_clicks : FS := fun ws μ R => ∃ (k : Nat) (p : Option C) (n w m : Nat), ws = [.m k, .d (.int w), .d (.int m)] ∧ μ[k]? = some p ∧ PotOk n p ∧ n ≤ 900000 ∧ 1 ≤ w ∧ w ≤ 100 ∧ m ≤ 60 ∧ ∀ cs p', cs.length ≤ m → (∀ c ∈ cs, 0 ≤ c ∧ c < (w : Int)) → PotOk (n + 200) p' → R (.d (dInts cs)) (μ.set k p')
def F__law_click : FS := fun ws μ R => ∃ (S : Kys) (c : Int), ws = [.d (dKs S), .d (.int c)] ∧ S.length ≤ 1000 ∧ R (.d (dKs (clk S c))) μ
def F__law_after : FS := fun ws μ R => ∃ (S : Kys) (cs : List Int), ws = [.d (dKs S), .d (dInts cs)] ∧ S.length + cs.length ≤ 900 ∧ R (.d (dKs (aft S cs))) μ
def F__law_keys : FS := fun ws μ R => ∃ (k : Nat) (p : Option C) (n w : Nat), ws = [.m k, .d (.int w)] ∧ μ[k]? = some p ∧ PotOk n p ∧ n ≤ 900000 ∧ w ≤ 6 ∧ ∀ S p', OkK S → (∀ x ∈ S, x.1 < (w : Int)) → S.length ≤ w → PotOk (n + 20) p' → R (.d (dKs S)) (μ.set k p')
def F__law_every : FS := fun ws μ R => ∃ w : Nat, ws = [.d (.int w)] ∧ 1 ≤ w ∧ w ≤ 3 ∧ R (.d (.list ((fnd w w).map dKs))) μ
def F__law_says : FS := fun ws μ R => ∃ a b : Bool, ws = [.d (.bool a), .d (.bool b)] ∧ R (.d (.bool (a == b))) μ
def F__law_bound : FS := fun ws μ R => ∃ cs : List Int, ws = [.d (dInts cs)] ∧ cs.length ≤ 900 ∧ R (.d (.bool (lone cs))) μ
def F__law_other : FS := fun ws μ R => ∃ (k : Nat) (p : Option C) (n w : Nat) (cs : List Int), ws = [.m k, .d (.int w), .d (dInts cs)] ∧ μ[k]? = some p ∧ PotOk n p ∧ n ≤ 800000 ∧ 1 ≤ w ∧ w ≤ 100 ∧ cs.length ≤ 10 ∧ (∀ c ∈ cs, 0 ≤ c ∧ c < (w : Int)) ∧ ∀ ds p', ds.length ≤ 12 → (∀ c ∈ ds, 0 ≤ c ∧ c < (w : Int)) → PotOk (n + 300) p' → R (.d (dInts ds)) (μ.set k p')
def F__law_is_form_right : FS := fun ws μ R => ∃ f : Fm, ws = [.d (dFm f)] ∧ f.1.length ≤ 30 ∧ hasF f = true ∧ R (.d (.bool true)) μ
def F__law_far_right : FS := fun ws μ R => ∃ (k : Nat) (p : Option C) (n : Nat), ws = [.m k] ∧ μ[k]? = some p ∧ PotOk n p ∧ n ≤ 500000 ∧ ∀ p', PotOk (n + 1000) p' → R (.d (.bool true)) (μ.set k p')
def F__law_many_right : FS := fun ws μ R => ∃ (k : Nat) (p : Option C) (n : Nat), ws = [.m k] ∧ μ[k]? = some p ∧ PotOk n p ∧ n ≤ 500000 ∧ ∀ p', PotOk (n + 1000) p' → R (.d (.bool true)) (μ.set k p')
def F__law_alike_right : FS := fun ws μ R => ∃ (w : Nat) (cs ds : List Int), ws = [.d (.int w), .d (dInts cs), .d (dInts ds)] ∧ 1 ≤ w ∧ w ≤ 3 ∧ cs.length ≤ 12 ∧ ds.length ≤ 12 ∧ (∀ c ∈ cs, 0 ≤ c ∧ c < (w : Int)) ∧ (∀ c ∈ ds, 0 ≤ c ∧ c < (w : Int)) ∧ R (.d (.bool true)) μ
def F__law_right : FS := fun ws μ R => ∃ k p, ws = [.m k] ∧ μ[k]? = some p ∧ PotOk 0 p ∧ ∀ p', (∃ n, PotOk n p') → R (.d (.bool true)) (μ.set k p')
def F_law : FS := fun ws μ R => ∃ ns, ws = [.f (wInts ns)] ∧ ns.length ≤ 63 ∧ R (.d (.bool true)) μ
def t_are_keys (K : PySem.W.Frag) : TS := (tSeq (tAsg (tLc (iSeq K (tVar 0)) (gTup K 2 (gCons (gName 2) (gCons (gName 3) gNil))) tYes (tVar 2) [2, 3]) (gName 1))
    (tSeq (tIfS (tTest (tOp (rNeU K) (tLenSetA K (tVar 1)) (tCB (rLenU K) (tCons (tVar 1) tNil)))) (tRet (tC (.bl false))) tNext)
    (tRet (tCB (rAll K) (tCons (tLc (iSeq K (tVar 0)) (gTup K 2 (gCons (gName 2) (gCons (gName 3) gNil))) tYes (tAndT K (tOp rGeI (tVar 2) (tC (.int 0))) (tOp (rInU K false) (tVar 3) (tTup (tCons (tC (.int 1)) (tCons (tUn (rU fun i => .int (-i)) (tC (.int 1))) tNil))))) [2, 3]) tNil)))))
theorem dv_are_keys {P : Program} {w : World} {K : PySem.W.Frag} {mg : Str → Option Value} {base : Heap} {f : Addr} {cdv : Value} {A : Around} {outer : List Env} {s : Shared} {H : Hp} {E : XK}
    (hr : Room 0 (A.deeper (envOfC "are_keys" (defScope s_are_keys) s.heap.objs.size f cdv)))
    (hgd : (A.deeper (envOfC "are_keys" (defScope s_are_keys) s.heap.objs.size f cdv)).guards = some [])
    (n_all : mg "all" = none)
    (n_len : mg "len" = none)
    (n_set : mg "set" = none) :
    PSs (cxOf CX0 P w K mg base n_are_keys "are_keys" (defScope s_are_keys) f cdv A outer s H E).nox (defBody s_are_keys) (t_are_keys K) := by
  have S := sc_are_keys
  have hu : (A.deeper (envOfC "are_keys" (defScope s_are_keys) s.heap.objs.size f cdv)).units + 64 < cLine := by have := hr.un; omega
  have hv : (A.deeper (envOfC "are_keys" (defScope s_are_keys) s.heap.objs.size f cdv)).units + 65 < cLine := by have := hr.un; omega
  exact (pss_cons (ps_setLc (i := 1) (own := [("column", 2), ("sign", 3)]) (g := (gTup K 2 (gCons (gName 2) (gCons (gName 3) gNil)))) (tt := tYes) rfl S.nd rfl rfl (sw_true rfl rfl rfl (by decide +kernel)) (pi_seq (pv 0)) (blkOk_by (N := n_are_keys) (sc := (defScope s_are_keys)) (by decide +kernel)) (fun _ _ _ _ _ => (pg_tup rfl (pgs_cons (pg_name (i := 2) S.nd rfl (.inl rfl)) (pgs_cons (pg_name (i := 3) S.nd rfl (.inl rfl)) pgs_nil)))) (fun _ _ _ _ _ => pts_nil) (fun _ _ _ _ _ => (pv 2)))
      (pss_cons (ps_if (pt_cmpR (op_neU hu) (pe_lenSetA rfl (by rfl) n_len (by rfl) n_set (pv 1)) (pe_callB call_lenU (by rfl) n_len (by decide +kernel) (pa_cons (pv 1) pa_nil)) (nomark _)) (pss_one (ps_ret pe_bl)) pss_nil)
      (pss_one (ps_ret (pe_callB (cr_all rfl) (by rfl) n_all (by decide +kernel) (pa_cons (pe_lc (own := [("column", 2), ("sign", 3)]) (g := (gTup K 2 (gCons (gName 2) (gCons (gName 3) gNil)))) (tt := tYes) rfl S.nd (pi_seq (pv 0)) (blkOk_by (N := n_are_keys) (sc := (defScope s_are_keys)) (by decide +kernel)) (fun _ _ _ _ _ => (pg_tup rfl (pgs_cons (pg_name (i := 2) S.nd rfl (.inl rfl)) (pgs_cons (pg_name (i := 3) S.nd rfl (.inl rfl)) pgs_nil)))) (fun _ _ _ _ _ => pts_nil) (fun _ _ _ _ _ => (pe_andT (pe_cmpR op_geU (pv 2) pe_int (nomark _)) (pe_one (pe_cmpR op_inU (pv 3) (pe_tup (pa_cons pe_int (pa_cons (pe_un un_neg pe_int) pa_nil))) (by rfl)))))) pa_nil))))))
def t_after_click (K : PySem.W.Frag) : TS := (tSeq (tIfS (tAnd (tTest (tOp (rNeU K) (tVar 0) (tLst tNil))) (tTest (tOp (rEqU K) (tOp (rIx K) (tOp (rIx K) (tVar 0) (tC (.int 0))) (tC (.int 0))) (tVar 1)))) (tRet (tLst (tCons (tTup (tCons (tVar 1) (tCons (tUn (rU fun i => .int (-i)) (tOp (rIx K) (tOp (rIx K) (tVar 0) (tC (.int 0))) (tC (.int 1)))) tNil))) (StX.tStar K (tSl (rSlU K) (tVar 0) (tPart (tC (.int 1))) tNoPart) tNil)))) tNext)
    (tRet (tLst (tCons (tTup (tCons (tVar 1) (tCons (tC (.int 1)) tNil))) (StX.tStar K (tLc (iSeq K (tVar 0)) (gName 2) (tTest (tOp (rNeU K) (tOp (rIx K) (tVar 2) (tC (.int 0))) (tVar 1))) (tVar 2) [2]) tNil)))))
theorem dv_after_click {P : Program} {w : World} {K : PySem.W.Frag} {mg : Str → Option Value} {base : Heap} {f : Addr} {cdv : Value} {A : Around} {outer : List Env} {s : Shared} {H : Hp} {E : XK}
    (hr : Room 0 (A.deeper (envOfC "after_click" (defScope s_after_click) s.heap.objs.size f cdv)))
    (hgd : (A.deeper (envOfC "after_click" (defScope s_after_click) s.heap.objs.size f cdv)).guards = some []) :
    PSs (cxOf CX0 P w K mg base n_after_click "after_click" (defScope s_after_click) f cdv A outer s H E).nox (defBody s_after_click) (t_after_click K) := by
  have S := sc_after_click
  have hu : (A.deeper (envOfC "after_click" (defScope s_after_click) s.heap.objs.size f cdv)).units + 64 < cLine := by have := hr.un; omega
  have hv : (A.deeper (envOfC "after_click" (defScope s_after_click) s.heap.objs.size f cdv)).units + 65 < cLine := by have := hr.un; omega
  exact (pss_cons (ps_if (PW.pt (pw_and (pt_cmpR (op_neU hu) (pv 0) (pe_lst pa_nil) (nomark _)) (pw_and1 (pt_cmpR (op_eqU hu) (pe_ix ix_seq (pe_ix ix_seq (pv 0) pe_int (fun _ _ => rfl)) pe_int (fun _ _ => rfl)) (pv 1) (nomark _))))) (pss_one (ps_ret (pe_lst (pa_cons (pe_tup (pa_cons (pv 1) (pa_cons (pe_un un_neg (pe_ix ix_seq (pe_ix ix_seq (pv 0) pe_int (fun _ _ => rfl)) pe_int (fun _ _ => rfl))) pa_nil))) (StX.pa_star (pe_slice sl_U (pv 0) (po_some pe_int) po_none) pa_nil))))) pss_nil)
      (pss_one (ps_ret (pe_lst (pa_cons (pe_tup (pa_cons (pv 1) (pa_cons pe_int pa_nil))) (StX.pa_star (pe_lc (own := [("key", 2)]) (g := (gName 2)) (tt := (tTest (tOp (rNeU K) (tOp (rIx K) (tVar 2) (tC (.int 0))) (tVar 1)))) rfl S.nd (pi_seq (pv 0)) (blkOk_by (N := n_after_click) (sc := (defScope s_after_click)) (by decide +kernel)) (fun _ _ _ _ _ => (pg_name (i := 2) S.nd rfl (.inl rfl))) (fun _ _ _ _ _ => (pts_one (pt_cmpR (op_neU hu) (pe_ix ix_seq (pv 2) pe_int (fun _ _ => rfl)) (pv 1) (nomark _)))) (fun _ _ _ _ _ => (pv 2))) pa_nil))))))
def t_need_keys (K : PySem.W.Frag) (xw : L2.WX) : TS := (tIfS (tNot (tTru K (tCallS (spD K F_are_keys) Ez (tCons (tVar 0) tNil)))) (tRaiseE K "InvalidSorting" xw (tCons (tCB (rListU K) (tCons (tVar 0) tNil)) tNil)) tNext)
theorem dv_need_keys {P : Program} {w : World} {K : PySem.W.Frag} {mg : Str → Option Value} {base : Heap} {f : Addr} {cdv : Value} {A : Around} {outer : List Env} {s : Shared} {H : Hp} {E : XK}
    (hr : Room 1 (A.deeper (envOfC "need_keys" (defScope s_need_keys) s.heap.objs.size f cdv)))
    (hgd : (A.deeper (envOfC "need_keys" (defScope s_need_keys) s.heap.objs.size f cdv)).guards = some [])
    (h_are_keys : HasG P w K mg base CX0 "are_keys" p_are_keys 1 (spD K F_are_keys))
    (n_list : mg "list" = none)
    (e_InvalidSorting : IsErr P K mg "InvalidSorting") :
    PSs (cxOf (L2.CX P w) P w K mg base n_need_keys "need_keys" (defScope s_need_keys) f cdv A outer s H E) (defBody s_need_keys) (t_need_keys K fun c d _ H => E c d H) := by
  have S := sc_need_keys
  have hu : (A.deeper (envOfC "need_keys" (defScope s_need_keys) s.heap.objs.size f cdv)).units + 64 < cLine := by have := hr.un; omega
  have hv : (A.deeper (envOfC "need_keys" (defScope s_need_keys) s.heap.objs.size f cdv)).units + 65 < cLine := by have := hr.un; omega
  let xw : L2.WX := fun c d _ H => E c d H
  exact (pss_one (ps_if (pt_not (pt_tru (pe_hG h_are_keys (hr.mono (by decide)) hgd pz0 (pa_cons (pv 0) pa_nil)))) (pss_one (ps_raiseE rfl e_InvalidSorting hr (takes_of rfl rfl rfl rfl) (pa_cons (pe_callTy call_listU (by rfl) n_list (by decide +kernel) (pa_cons (pv 0) pa_nil)) pa_nil))) pss_nil))
def t_after_clicks (K : PySem.W.Frag) : TS := (tSeq (tAsg (tCB (rListU K) (tCons (tVar 0) tNil)) (gName 2))
    (tSeq (tFor (iSeq K (tVar 1)) (gName 3) (tAsg (tCallS (spD K F_after_click) Ez (tCons (tVar 2) (tCons (tVar 3) tNil))) (gName 2)))
    (tRet (tVar 2))))
theorem dv_after_clicks {P : Program} {w : World} {K : PySem.W.Frag} {mg : Str → Option Value} {base : Heap} {f : Addr} {cdv : Value} {A : Around} {outer : List Env} {s : Shared} {H : Hp} {E : XK}
    (hr : Room 1 (A.deeper (envOfC "after_clicks" (defScope s_after_clicks) s.heap.objs.size f cdv)))
    (hgd : (A.deeper (envOfC "after_clicks" (defScope s_after_clicks) s.heap.objs.size f cdv)).guards = some [])
    (h_after_click : HasG P w K mg base CX0 "after_click" p_after_click 1 (spD K F_after_click))
    (n_list : mg "list" = none) :
    PSs (cxOf CX0 P w K mg base n_after_clicks "after_clicks" (defScope s_after_clicks) f cdv A outer s H E).nox (defBody s_after_clicks) (t_after_clicks K) := by
  have S := sc_after_clicks
  have hu : (A.deeper (envOfC "after_clicks" (defScope s_after_clicks) s.heap.objs.size f cdv)).units + 64 < cLine := by have := hr.un; omega
  have hv : (A.deeper (envOfC "after_clicks" (defScope s_after_clicks) s.heap.objs.size f cdv)).units + 65 < cLine := by have := hr.un; omega
  exact (pss_cons (ps_asg (pe_callTy call_listU (by rfl) n_list (by decide +kernel) (pa_cons (pv 0) pa_nil)) (pg_name (i := 2) S.nd rfl (.inl rfl)))
      (pss_cons (ps_for PassesOwn.never rfl (pi_seq (pv 1)) (pg_name (i := 3) S.nd rfl (.inl rfl)) (pss_one (ps_asg (pe_hG h_after_click (hr.mono (by decide)) hgd pz0 (pa_cons (pv 2) (pa_cons (pv 3) pa_nil))) (pg_name (i := 2) S.nd rfl (.inl rfl)))))
      (pss_one (ps_ret (pv 2)))))
def t_has_form (K : PySem.W.Frag) : TS := (tSeq (tAsg (tVar 0) (gTup K 2 (gCons (gName 1) (gCons (gName 2) gNil))))
    (tSeq (tIfS (tNot (tTru K (tCallS (spD K F_are_keys) Ez (tCons (tVar 1) tNil)))) (tRet (tC (.bl false))) tNext)
    (tRet (tOrT K (tOp (rEqU K) (tVar 2) (tOp (rNeU K) (tVar 1) (tLst tNil))) (tOp rGtI (tCB (rLenU K) (tCons (tVar 1) tNil)) (tC (.int 1)))))))
theorem dv_has_form {P : Program} {w : World} {K : PySem.W.Frag} {mg : Str → Option Value} {base : Heap} {f : Addr} {cdv : Value} {A : Around} {outer : List Env} {s : Shared} {H : Hp} {E : XK}
    (hr : Room 1 (A.deeper (envOfC "has_form" (defScope s_has_form) s.heap.objs.size f cdv)))
    (hgd : (A.deeper (envOfC "has_form" (defScope s_has_form) s.heap.objs.size f cdv)).guards = some [])
    (h_are_keys : HasG P w K mg base CX0 "are_keys" p_are_keys 1 (spD K F_are_keys))
    (n_len : mg "len" = none) :
    PSs (cxOf CX0 P w K mg base n_has_form "has_form" (defScope s_has_form) f cdv A outer s H E).nox (defBody s_has_form) (t_has_form K) := by
  have S := sc_has_form
  have hu : (A.deeper (envOfC "has_form" (defScope s_has_form) s.heap.objs.size f cdv)).units + 64 < cLine := by have := hr.un; omega
  have hv : (A.deeper (envOfC "has_form" (defScope s_has_form) s.heap.objs.size f cdv)).units + 65 < cLine := by have := hr.un; omega
  exact (pss_cons (ps_asg (pv 0) (pg_tup rfl (pgs_cons (pg_name (i := 1) S.nd rfl (.inl rfl)) (pgs_cons (pg_name (i := 2) S.nd rfl (.inl rfl)) pgs_nil))))
      (pss_cons (ps_if (pt_not (pt_tru (pe_hG h_are_keys (hr.mono (by decide)) hgd pz0 (pa_cons (pv 1) pa_nil)))) (pss_one (ps_ret pe_bl)) pss_nil)
      (pss_one (ps_ret (pe_orT (pe_cmpR (op_eqU hu) (pv 2) (pe_cmpR (op_neU hu) (pv 1) (pe_lst pa_nil) (nomark _)) (nomark _)) (pe_one (pe_cmpR op_gtU (pe_callB call_lenU (by rfl) n_len (by decide +kernel) (pa_cons (pv 1) pa_nil)) pe_int (nomark _))))))))
def t_need_form (K : PySem.W.Frag) (xw : L2.WX) : TS := (tIfS (tNot (tTru K (tCallS (spD K F_has_form) Ez (tCons (tVar 0) tNil)))) (tRaiseE K "InvalidSorting" xw (tCons (tTup (tCons (tCB (rListU K) (tCons (tOp (rIx K) (tVar 0) (tC (.int 0))) tNil)) (tCons (tOp (rIx K) (tVar 0) (tC (.int 1))) tNil))) tNil)) tNext)
theorem dv_need_form {P : Program} {w : World} {K : PySem.W.Frag} {mg : Str → Option Value} {base : Heap} {f : Addr} {cdv : Value} {A : Around} {outer : List Env} {s : Shared} {H : Hp} {E : XK}
    (hr : Room 2 (A.deeper (envOfC "need_form" (defScope s_need_form) s.heap.objs.size f cdv)))
    (hgd : (A.deeper (envOfC "need_form" (defScope s_need_form) s.heap.objs.size f cdv)).guards = some [])
    (h_has_form : HasG P w K mg base CX0 "has_form" p_has_form 2 (spD K F_has_form))
    (n_list : mg "list" = none)
    (e_InvalidSorting : IsErr P K mg "InvalidSorting") :
    PSs (cxOf (L2.CX P w) P w K mg base n_need_form "need_form" (defScope s_need_form) f cdv A outer s H E) (defBody s_need_form) (t_need_form K fun c d _ H => E c d H) := by
  have S := sc_need_form
  have hu : (A.deeper (envOfC "need_form" (defScope s_need_form) s.heap.objs.size f cdv)).units + 64 < cLine := by have := hr.un; omega
  have hv : (A.deeper (envOfC "need_form" (defScope s_need_form) s.heap.objs.size f cdv)).units + 65 < cLine := by have := hr.un; omega
  let xw : L2.WX := fun c d _ H => E c d H
  exact (pss_one (ps_if (pt_not (pt_tru (pe_hG h_has_form (hr.mono (by decide)) hgd pz0 (pa_cons (pv 0) pa_nil)))) (pss_one (ps_raiseE rfl e_InvalidSorting hr (takes_of rfl rfl rfl rfl) (pa_cons (pe_tup (pa_cons (pe_callTy call_listU (by rfl) n_list (by decide +kernel) (pa_cons (pe_ix ix_seq (pv 0) pe_int (fun _ _ => rfl)) pa_nil)) (pa_cons (pe_ix ix_seq (pv 0) pe_int (fun _ _ => rfl)) pa_nil))) pa_nil))) pss_nil))
def t_columns_of (K : PySem.W.Frag) : TS := (tRet (tLc (iSeq K (tVar 0)) (gTup K 2 (gCons (gName 1) (gCons (gName 2) gNil))) tYes (tVar 1) [1, 2]))
theorem dv_columns_of {P : Program} {w : World} {K : PySem.W.Frag} {mg : Str → Option Value} {base : Heap} {f : Addr} {cdv : Value} {A : Around} {outer : List Env} {s : Shared} {H : Hp} {E : XK}
    (hr : Room 0 (A.deeper (envOfC "columns_of" (defScope s_columns_of) s.heap.objs.size f cdv)))
    (hgd : (A.deeper (envOfC "columns_of" (defScope s_columns_of) s.heap.objs.size f cdv)).guards = some []) :
    PSs (cxOf CX0 P w K mg base n_columns_of "columns_of" (defScope s_columns_of) f cdv A outer s H E).nox (defBody s_columns_of) (t_columns_of K) := by
  have S := sc_columns_of
  have hu : (A.deeper (envOfC "columns_of" (defScope s_columns_of) s.heap.objs.size f cdv)).units + 64 < cLine := by have := hr.un; omega
  have hv : (A.deeper (envOfC "columns_of" (defScope s_columns_of) s.heap.objs.size f cdv)).units + 65 < cLine := by have := hr.un; omega
  exact (pss_one (ps_ret (pe_lc (own := [("column", 1), ("sign", 2)]) (g := (gTup K 2 (gCons (gName 1) (gCons (gName 2) gNil)))) (tt := tYes) rfl S.nd (pi_seq (pv 0)) (blkOk_by (N := n_columns_of) (sc := (defScope s_columns_of)) (by decide +kernel)) (fun _ _ _ _ _ => (pg_tup rfl (pgs_cons (pg_name (i := 1) S.nd rfl (.inl rfl)) (pgs_cons (pg_name (i := 2) S.nd rfl (.inl rfl)) pgs_nil)))) (fun _ _ _ _ _ => pts_nil) (fun _ _ _ _ _ => (pv 1)))))
def t_is_left_alone (K : PySem.W.Frag) : TS := (tSeq (tAsg (tC (.int 0)) (gName 1))
    (tSeq (tWhile (tAnd (tTest (tOp rLtU (tVar 1) (tCB (rLenU K) (tCons (tVar 0) tNil)))) (tTest (tOp (rEqU K) (tOp (rIx K) (tVar 0) (tVar 1)) (tOp (rIx K) (tVar 0) (tC (.int 0)))))) (tAsg (tOp (rAddU K) (tVar 1) (tC (.int 1))) (gName 1)))
    (tRet (tAndT K (tOp (rNeU K) (tVar 0) (tLst tNil)) (tOp (rInU K true) (tOp (rIx K) (tVar 0) (tC (.int 0))) (tSl (rSlU K) (tVar 0) (tPart (tVar 1)) tNoPart))))))
theorem dv_is_left_alone {P : Program} {w : World} {K : PySem.W.Frag} {mg : Str → Option Value} {base : Heap} {f : Addr} {cdv : Value} {A : Around} {outer : List Env} {s : Shared} {H : Hp} {E : XK}
    (hr : Room 0 (A.deeper (envOfC "is_left_alone" (defScope s_is_left_alone) s.heap.objs.size f cdv)))
    (hgd : (A.deeper (envOfC "is_left_alone" (defScope s_is_left_alone) s.heap.objs.size f cdv)).guards = some [])
    (n_len : mg "len" = none) :
    PSs (cxOf CX0 P w K mg base n_is_left_alone "is_left_alone" (defScope s_is_left_alone) f cdv A outer s H E).nox (defBody s_is_left_alone) (t_is_left_alone K) := by
  have S := sc_is_left_alone
  have hu : (A.deeper (envOfC "is_left_alone" (defScope s_is_left_alone) s.heap.objs.size f cdv)).units + 64 < cLine := by have := hr.un; omega
  have hv : (A.deeper (envOfC "is_left_alone" (defScope s_is_left_alone) s.heap.objs.size f cdv)).units + 65 < cLine := by have := hr.un; omega
  exact (pss_cons (ps_asg pe_int (pg_name (i := 1) S.nd rfl (.inl rfl)))
      (pss_cons (ps_while PassesOwn.never (PW.pt (pw_and (pt_cmpR op_ltU (pv 1) (pe_callB call_lenU (by rfl) n_len (by decide +kernel) (pa_cons (pv 0) pa_nil)) (nomark _)) (pw_and1 (pt_cmpR (op_eqU hu) (pe_ix ix_seq (pv 0) (pv 1) (fun _ _ => rfl)) (pe_ix ix_seq (pv 0) pe_int (fun _ _ => rfl)) (nomark _))))) (pss_one (ps_asg (pe_op op_addU (pv 1) pe_int) (pg_name (i := 1) S.nd rfl (.inl rfl)))))
      (pss_one (ps_ret (pe_andT (pe_cmpR (op_neU hu) (pv 0) (pe_lst pa_nil) (nomark _)) (pe_one (pe_cmpR op_niU (pe_ix ix_seq (pv 0) pe_int (fun _ _ => rfl)) (pe_slice sl_U (pv 0) (po_some (pv 1)) po_none) (by rfl))))))))
def t_made_form (K : PySem.W.Frag) : TS := (tRet (tTup (tCons (tCallS (spD K F_after_clicks) Ez (tCons (tLst tNil) (tCons (tVar 0) tNil))) (tCons (tCallS (spD K F_is_left_alone) Ez (tCons (tVar 0) tNil)) tNil))))
theorem dv_made_form {P : Program} {w : World} {K : PySem.W.Frag} {mg : Str → Option Value} {base : Heap} {f : Addr} {cdv : Value} {A : Around} {outer : List Env} {s : Shared} {H : Hp} {E : XK}
    (hr : Room 2 (A.deeper (envOfC "made_form" (defScope s_made_form) s.heap.objs.size f cdv)))
    (hgd : (A.deeper (envOfC "made_form" (defScope s_made_form) s.heap.objs.size f cdv)).guards = some [])
    (h_after_clicks : HasG P w K mg base CX0 "after_clicks" p_after_clicks 2 (spD K F_after_clicks))
    (h_is_left_alone : HasG P w K mg base CX0 "is_left_alone" p_is_left_alone 1 (spD K F_is_left_alone)) :
    PSs (cxOf CX0 P w K mg base n_made_form "made_form" (defScope s_made_form) f cdv A outer s H E).nox (defBody s_made_form) (t_made_form K) := by
  have S := sc_made_form
  have hu : (A.deeper (envOfC "made_form" (defScope s_made_form) s.heap.objs.size f cdv)).units + 64 < cLine := by have := hr.un; omega
  have hv : (A.deeper (envOfC "made_form" (defScope s_made_form) s.heap.objs.size f cdv)).units + 65 < cLine := by have := hr.un; omega
  exact (pss_one (ps_ret (pe_tup (pa_cons (pe_hG h_after_clicks (hr.mono (by decide)) hgd pz0 (pa_cons (pe_lst pa_nil) (pa_cons (pv 0) pa_nil))) (pa_cons (pe_hG h_is_left_alone (hr.mono (by decide)) hgd pz0 (pa_cons (pv 0) pa_nil)) pa_nil)))))
def t_form_of (K : PySem.W.Frag) (xw : L2.WX) : TS := (tSeq (tFor (iSeq K (tVar 0)) (gName 1) (tIfS (tTest (tOp rLtU (tVar 1) (tC (.int 0)))) (tRaiseE K "InvalidColumn" xw (tCons (tVar 1) tNil)) tNext))
    (tRet (tCallS (spD K F_made_form) Ez (tCons (tVar 0) tNil))))
theorem dv_form_of {P : Program} {w : World} {K : PySem.W.Frag} {mg : Str → Option Value} {base : Heap} {f : Addr} {cdv : Value} {A : Around} {outer : List Env} {s : Shared} {H : Hp} {E : XK}
    (hr : Room 3 (A.deeper (envOfC "form_of" (defScope s_form_of) s.heap.objs.size f cdv)))
    (hgd : (A.deeper (envOfC "form_of" (defScope s_form_of) s.heap.objs.size f cdv)).guards = some [])
    (h_made_form : HasG P w K mg base CX0 "made_form" p_made_form 3 (spD K F_made_form))
    (e_InvalidColumn : IsErr P K mg "InvalidColumn") :
    PSs (cxOf (L2.CX P w) P w K mg base n_form_of "form_of" (defScope s_form_of) f cdv A outer s H E) (defBody s_form_of) (t_form_of K fun c d _ H => E c d H) := by
  have S := sc_form_of
  have hu : (A.deeper (envOfC "form_of" (defScope s_form_of) s.heap.objs.size f cdv)).units + 64 < cLine := by have := hr.un; omega
  have hv : (A.deeper (envOfC "form_of" (defScope s_form_of) s.heap.objs.size f cdv)).units + 65 < cLine := by have := hr.un; omega
  let xw : L2.WX := fun c d _ H => E c d H
  exact (pss_cons (ps_for (passes_of rfl) rfl (pi_seq (pv 0)) (pg_name (i := 1) S.nd rfl (.inl rfl)) (pss_one (ps_if (pt_cmpR op_ltU (pv 1) pe_int (nomark _)) (pss_one (ps_raiseE rfl e_InvalidColumn hr (takes_of rfl rfl rfl rfl) (pa_cons (pv 1) pa_nil))) pss_nil)))
      (pss_one (ps_ret (pe_hG h_made_form (hr.mono (by decide)) hgd pz0 (pa_cons (pv 0) pa_nil)))))
def t_is_form (K : PySem.W.Frag) : TS := (tRet (tCallS (spD K F_has_form) Ez (tCons (tVar 0) tNil)))
theorem dv_is_form {P : Program} {w : World} {K : PySem.W.Frag} {mg : Str → Option Value} {base : Heap} {f : Addr} {cdv : Value} {A : Around} {outer : List Env} {s : Shared} {H : Hp} {E : XK}
    (hr : Room 2 (A.deeper (envOfC "is_form" (defScope s_is_form) s.heap.objs.size f cdv)))
    (hgd : (A.deeper (envOfC "is_form" (defScope s_is_form) s.heap.objs.size f cdv)).guards = some [])
    (h_has_form : HasG P w K mg base CX0 "has_form" p_has_form 2 (spD K F_has_form)) :
    PSs (cxOf CX0 P w K mg base n_is_form "is_form" (defScope s_is_form) f cdv A outer s H E).nox (defBody s_is_form) (t_is_form K) := by
  have S := sc_is_form
  have hu : (A.deeper (envOfC "is_form" (defScope s_is_form) s.heap.objs.size f cdv)).units + 64 < cLine := by have := hr.un; omega
  have hv : (A.deeper (envOfC "is_form" (defScope s_is_form) s.heap.objs.size f cdv)).units + 65 < cLine := by have := hr.un; omega
  exact (pss_one (ps_ret (pe_hG h_has_form (hr.mono (by decide)) hgd pz0 (pa_cons (pv 0) pa_nil))))
def t_made_of (K : PySem.W.Frag) : TS := (tSeq (tAsg (tVar 0) (gTup K 2 (gCons (gName 2) (gCons (gName 3) gNil))))
    (tSeq (tAsg (tLc (iSeq K (tVar 1)) (gName 5) (tTest (tOp (rInU K true) (tOp (rIx K) (tVar 5) (tC (.int 0))) (tCallS (spD K F_columns_of) Ez (tCons (tVar 2) tNil)))) (tVar 5) [5]) (gName 4))
    (tSeq (tIfS (tAnd (tTru K (tVar 3)) (tAnd (tTest (tOp (rNeU K) (tVar 1) (tLst tNil))) (tTest (tOp (rEqU K) (tOp (rIx K) (tVar 1) (tC (.int 0))) (tTup (tCons (tOp (rIx K) (tOp (rIx K) (tVar 2) (tUn (rU fun i => .int (-i)) (tC (.int 1)))) (tC (.int 0))) (tCons (tC (.int 1)) tNil))))))) (tRet (tOp (rAddU K) (tOp (rAddU K) (tSl (rSlU K) (tVar 2) tNoPart (tPart (tUn (rU fun i => .int (-i)) (tC (.int 1))))) (tLst (tCons (tTup (tCons (tOp (rIx K) (tOp (rIx K) (tVar 2) (tUn (rU fun i => .int (-i)) (tC (.int 1)))) (tC (.int 0))) (tCons (tUn (rU fun i => .int (-i)) (tOp (rIx K) (tOp (rIx K) (tVar 2) (tUn (rU fun i => .int (-i)) (tC (.int 1)))) (tC (.int 1)))) tNil))) tNil))) (tVar 4))) tNext)
    (tRet (tOp (rAddU K) (tVar 2) (tVar 4))))))
theorem dv_made_of {P : Program} {w : World} {K : PySem.W.Frag} {mg : Str → Option Value} {base : Heap} {f : Addr} {cdv : Value} {A : Around} {outer : List Env} {s : Shared} {H : Hp} {E : XK}
    (hr : Room 1 (A.deeper (envOfC "made_of" (defScope s_made_of) s.heap.objs.size f cdv)))
    (hgd : (A.deeper (envOfC "made_of" (defScope s_made_of) s.heap.objs.size f cdv)).guards = some [])
    (h_columns_of : HasG P w K mg base CX0 "columns_of" p_columns_of 1 (spD K F_columns_of)) :
    PSs (cxOf CX0 P w K mg base n_made_of "made_of" (defScope s_made_of) f cdv A outer s H E).nox (defBody s_made_of) (t_made_of K) := by
  have S := sc_made_of
  have hu : (A.deeper (envOfC "made_of" (defScope s_made_of) s.heap.objs.size f cdv)).units + 64 < cLine := by have := hr.un; omega
  have hv : (A.deeper (envOfC "made_of" (defScope s_made_of) s.heap.objs.size f cdv)).units + 65 < cLine := by have := hr.un; omega
  exact (pss_cons (ps_asg (pv 0) (pg_tup rfl (pgs_cons (pg_name (i := 2) S.nd rfl (.inr rfl)) (pgs_cons (pg_name (i := 3) S.nd rfl (.inl rfl)) pgs_nil))))
      (pss_cons (ps_setLc (i := 4) (own := [("key", 5)]) (g := (gName 5)) (tt := (tTest (tOp (rInU K true) (tOp (rIx K) (tVar 5) (tC (.int 0))) (tCallS (spD K F_columns_of) Ez (tCons (tVar 2) tNil))))) rfl S.nd rfl rfl (sw_true rfl rfl rfl (by decide +kernel)) (pi_seq (pv 1)) (blkOk_by (N := n_made_of) (sc := (defScope s_made_of)) (by decide +kernel)) (fun _ _ _ _ _ => (pg_name (i := 5) S.nd rfl (.inl rfl))) (fun _ _ _ _ _ => (pts_one (pt_cmpR op_niU (pe_ix ix_seq (pv 5) pe_int (fun _ _ => rfl)) (pe_hG h_columns_of (hr.mono (by decide)) hgd pz0 (pa_cons (pv 2) pa_nil)) (by rfl)))) (fun _ _ _ _ _ => (pv 5)))
      (pss_cons (ps_if (PW.pt (pw_and (pt_tru (pv 3)) (pw_and (pt_cmpR (op_neU hu) (pv 1) (pe_lst pa_nil) (nomark _)) (pw_and1 (pt_cmpR (op_eqU hu) (pe_ix ix_seq (pv 1) pe_int (fun _ _ => rfl)) (pe_tup (pa_cons (pe_ix ix_seq (pe_ix ix_seq (pv 2) (pe_un un_neg pe_int) (fun _ _ => rfl)) pe_int (fun _ _ => rfl)) (pa_cons pe_int pa_nil))) (nomark _)))))) (pss_one (ps_ret (pe_op op_addU (pe_op op_addU (pe_slice sl_U (pv 2) po_none (po_some (pe_un un_neg pe_int))) (pe_lst (pa_cons (pe_tup (pa_cons (pe_ix ix_seq (pe_ix ix_seq (pv 2) (pe_un un_neg pe_int) (fun _ _ => rfl)) pe_int (fun _ _ => rfl)) (pa_cons (pe_un un_neg (pe_ix ix_seq (pe_ix ix_seq (pv 2) (pe_un un_neg pe_int) (fun _ _ => rfl)) pe_int (fun _ _ => rfl))) pa_nil))) pa_nil))) (pv 4)))) pss_nil)
      (pss_one (ps_ret (pe_op op_addU (pv 2) (pv 4)))))))
def t_formed (K : PySem.W.Frag) (xw : L2.WX) : TS := (tSeq (tDrop (tCallS (spX K F_need_form) (WE xw) (tCons (tVar 0) tNil)))
    (tSeq (tDrop (tCallS (spX K F_need_keys) (WE xw) (tCons (tVar 1) tNil)))
    (tRet (tCallS (spD K F_made_of) Ez (tCons (tVar 0) (tCons (tVar 1) tNil))))))
theorem dv_formed {P : Program} {w : World} {K : PySem.W.Frag} {mg : Str → Option Value} {base : Heap} {f : Addr} {cdv : Value} {A : Around} {outer : List Env} {s : Shared} {H : Hp} {E : XK}
    (hr : Room 3 (A.deeper (envOfC "formed" (defScope s_formed) s.heap.objs.size f cdv)))
    (hgd : (A.deeper (envOfC "formed" (defScope s_formed) s.heap.objs.size f cdv)).guards = some [])
    (h_made_of : HasG P w K mg base CX0 "made_of" p_made_of 2 (spD K F_made_of))
    (h_need_form : HasG P w K mg base (L2.CX P w) "need_form" p_need_form 3 (spX K F_need_form))
    (h_need_keys : HasG P w K mg base (L2.CX P w) "need_keys" p_need_keys 2 (spX K F_need_keys)) :
    PSs (cxOf (L2.CX P w) P w K mg base n_formed "formed" (defScope s_formed) f cdv A outer s H E) (defBody s_formed) (t_formed K fun c d _ H => E c d H) := by
  have S := sc_formed
  have hu : (A.deeper (envOfC "formed" (defScope s_formed) s.heap.objs.size f cdv)).units + 64 < cLine := by have := hr.un; omega
  have hv : (A.deeper (envOfC "formed" (defScope s_formed) s.heap.objs.size f cdv)).units + 65 < cLine := by have := hr.un; omega
  let xw : L2.WX := fun c d _ H => E c d H
  exact (pss_cons (ps_expr (pe_hG h_need_form (hr.mono (by decide)) hgd (fun σ => passAt (takes_of rfl rfl rfl rfl) σ) (pa_cons (pv 0) pa_nil)))
      (pss_cons (ps_expr (pe_hG h_need_keys (hr.mono (by decide)) hgd (fun σ => passAt (takes_of rfl rfl rfl rfl) σ) (pa_cons (pv 1) pa_nil)))
      (pss_one (ps_ret (pe_hG h_made_of (hr.mono (by decide)) hgd pz0 (pa_cons (pv 0) (pa_cons (pv 1) pa_nil)))))))
def t_alike (K : PySem.W.Frag) (xw : L2.WX) : TS := (tRet (tOp (rEqU K) (tCallS (spX K F_form_of) (WE xw) (tCons (tVar 0) tNil)) (tCallS (spX K F_form_of) (WE xw) (tCons (tVar 1) tNil))))
theorem dv_alike {P : Program} {w : World} {K : PySem.W.Frag} {mg : Str → Option Value} {base : Heap} {f : Addr} {cdv : Value} {A : Around} {outer : List Env} {s : Shared} {H : Hp} {E : XK}
    (hr : Room 4 (A.deeper (envOfC "alike" (defScope s_alike) s.heap.objs.size f cdv)))
    (hgd : (A.deeper (envOfC "alike" (defScope s_alike) s.heap.objs.size f cdv)).guards = some [])
    (h_form_of : HasG P w K mg base (L2.CX P w) "form_of" p_form_of 4 (spX K F_form_of)) :
    PSs (cxOf (L2.CX P w) P w K mg base n_alike "alike" (defScope s_alike) f cdv A outer s H E) (defBody s_alike) (t_alike K fun c d _ H => E c d H) := by
  have S := sc_alike
  have hu : (A.deeper (envOfC "alike" (defScope s_alike) s.heap.objs.size f cdv)).units + 64 < cLine := by have := hr.un; omega
  have hv : (A.deeper (envOfC "alike" (defScope s_alike) s.heap.objs.size f cdv)).units + 65 < cLine := by have := hr.un; omega
  let xw : L2.WX := fun c d _ H => E c d H
  exact (pss_one (ps_ret (pe_cmpR (op_eqU hu) (pe_hG h_form_of (hr.mono (by decide)) hgd (fun σ => passAt (takes_of rfl rfl rfl rfl) σ) (pa_cons (pv 0) pa_nil)) (pe_hG h_form_of (hr.mono (by decide)) hgd (fun σ => passAt (takes_of rfl rfl rfl rfl) σ) (pa_cons (pv 1) pa_nil)) (nomark _))))
def t_first_apart (K : PySem.W.Frag) (xw : L2.WX) : TS := (tSeq (tPar 2 3 (tCons (tCallS (spX K F_form_of) (WE xw) (tCons (tVar 0) tNil)) (tCons (tCallS (spX K F_form_of) (WE xw) (tCons (tVar 1) tNil)) tNil)))
    (tSeq (tIfS (tTest (tOp (rEqU K) (tVar 2) (tVar 3))) (tRet (tC .non)) tNext)
    (tSeq (tIfS (tTest (tOp (rNeU K) (tOp (rIx K) (tVar 2) (tC (.int 0))) (tOp (rIx K) (tVar 3) (tC (.int 0))))) (tRet (tLst tNil)) tNext)
    (tRet (tLst (tCons (tTup (tCons (tOp (rIx K) (tOp (rIx K) (tOp (rIx K) (tVar 2) (tC (.int 0))) (tUn (rU fun i => .int (-i)) (tC (.int 1)))) (tC (.int 0))) (tCons (tC (.int 1)) tNil))) tNil))))))
theorem dv_first_apart {P : Program} {w : World} {K : PySem.W.Frag} {mg : Str → Option Value} {base : Heap} {f : Addr} {cdv : Value} {A : Around} {outer : List Env} {s : Shared} {H : Hp} {E : XK}
    (hr : Room 4 (A.deeper (envOfC "first_apart" (defScope s_first_apart) s.heap.objs.size f cdv)))
    (hgd : (A.deeper (envOfC "first_apart" (defScope s_first_apart) s.heap.objs.size f cdv)).guards = some [])
    (h_form_of : HasG P w K mg base (L2.CX P w) "form_of" p_form_of 4 (spX K F_form_of)) :
    PSs (cxOf (L2.CX P w) P w K mg base n_first_apart "first_apart" (defScope s_first_apart) f cdv A outer s H E) (defBody s_first_apart) (t_first_apart K fun c d _ H => E c d H) := by
  have S := sc_first_apart
  have hu : (A.deeper (envOfC "first_apart" (defScope s_first_apart) s.heap.objs.size f cdv)).units + 64 < cLine := by have := hr.un; omega
  have hv : (A.deeper (envOfC "first_apart" (defScope s_first_apart) s.heap.objs.size f cdv)).units + 65 < cLine := by have := hr.un; omega
  let xw : L2.WX := fun c d _ H => E c d H
  exact (pss_cons (ps_par (i := 2) (j := 3) (by rfl) S.nd rfl rfl (by decide) rfl rfl (pa_cons (pe_hG h_form_of (hr.mono (by decide)) hgd (fun σ => passAt (takes_of rfl rfl rfl rfl) σ) (pa_cons (pv 0) pa_nil)) (pa_cons (pe_hG h_form_of (hr.mono (by decide)) hgd (fun σ => passAt (takes_of rfl rfl rfl rfl) σ) (pa_cons (pv 1) pa_nil)) pa_nil)) (by rfl))
      (pss_cons (ps_if (pt_cmpR (op_eqU hu) (pv 2) (pv 3) (nomark _)) (pss_one (ps_ret pe_non)) pss_nil)
      (pss_cons (ps_if (pt_cmpR (op_neU hu) (pe_ix ix_seq (pv 2) pe_int (fun _ _ => rfl)) (pe_ix ix_seq (pv 3) pe_int (fun _ _ => rfl)) (nomark _)) (pss_one (ps_ret (pe_lst pa_nil))) pss_nil)
      (pss_one (ps_ret (pe_lst (pa_cons (pe_tup (pa_cons (pe_ix ix_seq (pe_ix ix_seq (pe_ix ix_seq (pv 2) pe_int (fun _ _ => rfl)) (pe_un un_neg pe_int) (fun _ _ => rfl)) pe_int (fun _ _ => rfl)) (pa_cons pe_int pa_nil))) pa_nil)))))))
def t__law_open (K : PySem.W.Frag) : TS := (tSeq (tAsg (tC (.int 0)) (gName 2))
    (tSeq (tIfS (tTest (tOp rLtU (tVar 1) (tCB (rLenU K) (tCons (tVar 0) tNil)))) (tAsg (tOp (rIx K) (tVar 0) (tVar 1)) (gName 2)) tNext)
    (tSeq (tAsg (tOp (rAddU K) (tOp (rAddU K) (tOp rModI (tCB (rIntU) (tCons (tOp (rAddU K) (tOp rMulU (tC (.int 2)) (tCB (rAbsU) (tCons (tVar 2) tNil))) (tCB (rIntU) (tCons (tOp rLtU (tVar 2) (tC (.int 0))) tNil))) tNil)) (tOp (rAddU K) (tOp rPowI (tC (.int 10)) (tC (.int 39))) (tC (.int 3)))) (tOp rMulU (tC (.int 5)) (tVar 1))) (tC (.int 1))) (gName 3))
    (tRet (tLst (tCons (tCB (rMaxU K) (tCons (tC (.int 0)) (tCons (tOp rSubI (tVar 2) (tOp rPowI (tC (.int 10)) (tC (.int 18)))) tNil))) (tCons (tVar 3) (tCons (tC (.int 0)) tNil))))))))
theorem dv__law_open {P : Program} {w : World} {K : PySem.W.Frag} {mg : Str → Option Value} {base : Heap} {f : Addr} {cdv : Value} {A : Around} {outer : List Env} {s : Shared} {H : Hp} {E : XK}
    (hr : Room 0 (A.deeper (envOfC "_law_open" (defScope s__law_open) s.heap.objs.size f cdv)))
    (hgd : (A.deeper (envOfC "_law_open" (defScope s__law_open) s.heap.objs.size f cdv)).guards = some [])
    (n_abs : mg "abs" = none)
    (n_int : mg "int" = none)
    (n_len : mg "len" = none)
    (n_max : mg "max" = none) :
    PSs (cxOf CX0 P w K mg base n__law_open "_law_open" (defScope s__law_open) f cdv A outer s H E).nox (defBody s__law_open) (t__law_open K) := by
  have S := sc__law_open
  have hu : (A.deeper (envOfC "_law_open" (defScope s__law_open) s.heap.objs.size f cdv)).units + 64 < cLine := by have := hr.un; omega
  have hv : (A.deeper (envOfC "_law_open" (defScope s__law_open) s.heap.objs.size f cdv)).units + 65 < cLine := by have := hr.un; omega
  exact (pss_cons (ps_asg pe_int (pg_name (i := 2) S.nd rfl (.inl rfl)))
      (pss_cons (ps_if (pt_cmpR op_ltU (pv 1) (pe_callB call_lenU (by rfl) n_len (by decide +kernel) (pa_cons (pv 0) pa_nil)) (nomark _)) (pss_one (ps_asg (pe_ix ix_seq (pv 0) (pv 1) (fun _ _ => rfl)) (pg_name (i := 2) S.nd rfl (.inl rfl)))) pss_nil)
      (pss_cons (ps_asg (pe_op op_addU (pe_op op_addU (pe_op op_modU (pe_callTy call_intU (by rfl) n_int (by decide +kernel) (pa_cons (pe_op op_addU (pe_op op_mulU pe_int (pe_callB call_absU (by rfl) n_abs (by decide +kernel) (pa_cons (pv 2) pa_nil))) (pe_callTy call_intU (by rfl) n_int (by decide +kernel) (pa_cons (pe_cmpR op_ltU (pv 2) pe_int (nomark _)) pa_nil))) pa_nil)) (pe_op op_addU (pe_op op_powU pe_int pe_int) pe_int)) (pe_op op_mulU pe_int (pv 1))) pe_int) (pg_name (i := 3) S.nd rfl (.inl rfl)))
      (pss_one (ps_ret (pe_lst (pa_cons (pe_callB (call_maxU rfl) (by rfl) n_max (by decide +kernel) (pa_cons pe_int (pa_cons (pe_op op_subU (pv 2) (pe_op op_powU pe_int pe_int)) pa_nil))) (pa_cons (pv 3) (pa_cons pe_int pa_nil)))))))))
def t__law_draw (K : PySem.W.Frag) : TS := (tSeq (tIfS (tTest (tOp rGtI (tOp (rIx K) (tVar 0) (tC (.int 0))) (tC (.int 0)))) (tSeq (tAsg (tOp rModI (tCB (rIntU) (tCons (tOp (rIx K) (tVar 0) (tC (.int 0))) tNil)) (tVar 1)) (gName 2))
    (tSeq (tAsg (tOp rDivI (tOp (rIx K) (tVar 0) (tC (.int 0))) (tVar 1)) (gSub (tVar 0) (tC (.int 0)) rSetL))
    (tRet (tVar 2)))) tNext)
    (tSeq (tAsg (tOp (rAddU K) (tOp (rIx K) (tVar 0) (tC (.int 2))) (tC (.int 1))) (gSub (tVar 0) (tC (.int 2)) rSetL))
    (tSeq (tAsg (tOp rModI (tCB (rIntU) (tCons (tOp (rAddU K) (tOp rMulU (tOp (rIx K) (tVar 0) (tC (.int 1))) (tOp (rAddU K) (tC (.int 48611)) (tOp rMulU (tC (.int 2)) (tOp (rIx K) (tVar 0) (tC (.int 2)))))) (tOp rMulU (tOp rMulU (tC (.int 104729)) (tOp (rIx K) (tVar 0) (tC (.int 2)))) (tOp (rIx K) (tVar 0) (tC (.int 2))))) tNil)) (tC (.int 1000000000000000003))) (gName 3))
    (tSeq (tAsg (tOp rModI (tCB (rIntU) (tCons (tOp (rAddU K) (tOp (rAddU K) (tOp rMulU (tVar 3) (tVar 3)) (tOp rMulU (tC (.int 611953)) (tOp (rIx K) (tVar 0) (tC (.int 2))))) (tOp (rIx K) (tVar 0) (tC (.int 1)))) tNil)) (tC (.int 2305843009213693951))) (gName 3))
    (tSeq (tAsg (tOp rModI (tCB (rIntU) (tCons (tOp (rAddU K) (tOp rMulU (tOp rMulU (tVar 3) (tVar 3)) (tVar 3)) (tOp rMulU (tC (.int 7368787)) (tOp (rIx K) (tVar 0) (tC (.int 2))))) tNil)) (tC (.int 1000000000000000009))) (gName 3))
    (tRet (tOp rModI (tCB (rIntU) (tCons (tOp rDivI (tVar 3) (tC (.int 1031))) tNil)) (tVar 1))))))))
theorem dv__law_draw {P : Program} {w : World} {K : PySem.W.Frag} {mg : Str → Option Value} {base : Heap} {f : Addr} {cdv : Value} {A : Around} {outer : List Env} {s : Shared} {H : Hp} {E : XK}
    (hr : Room 0 (A.deeper (envOfC "_law_draw" (defScope s__law_draw) s.heap.objs.size f cdv)))
    (hgd : (A.deeper (envOfC "_law_draw" (defScope s__law_draw) s.heap.objs.size f cdv)).guards = some [])
    (n_int : mg "int" = none) :
    PSs (cxOf CX0 P w K mg base n__law_draw "_law_draw" (defScope s__law_draw) f cdv A outer s H E).nox (defBody s__law_draw) (t__law_draw K) := by
  have S := sc__law_draw
  have hu : (A.deeper (envOfC "_law_draw" (defScope s__law_draw) s.heap.objs.size f cdv)).units + 64 < cLine := by have := hr.un; omega
  have hv : (A.deeper (envOfC "_law_draw" (defScope s__law_draw) s.heap.objs.size f cdv)).units + 65 < cLine := by have := hr.un; omega
  exact (pss_cons (ps_if (pt_cmpR op_gtU (pe_ix ix_seq (pv 0) pe_int (fun _ _ => rfl)) pe_int (nomark _)) (pss_cons (ps_asg (pe_op op_modU (pe_callTy call_intU (by rfl) n_int (by decide +kernel) (pa_cons (pe_ix ix_seq (pv 0) pe_int (fun _ _ => rfl)) pa_nil)) (pv 1)) (pg_name (i := 2) S.nd rfl (.inl rfl)))
      (pss_cons (ps_asg (pe_op op_divU (pe_ix ix_seq (pv 0) pe_int (fun _ _ => rfl)) (pv 1)) (pg_sub (pv 0) pe_int set_list))
      (pss_one (ps_ret (pv 2))))) pss_nil)
      (pss_cons (ps_asg (pe_op op_addU (pe_ix ix_seq (pv 0) pe_int (fun _ _ => rfl)) pe_int) (pg_sub (pv 0) pe_int set_list))
      (pss_cons (ps_asg (pe_op op_modU (pe_callTy call_intU (by rfl) n_int (by decide +kernel) (pa_cons (pe_op op_addU (pe_op op_mulU (pe_ix ix_seq (pv 0) pe_int (fun _ _ => rfl)) (pe_op op_addU pe_int (pe_op op_mulU pe_int (pe_ix ix_seq (pv 0) pe_int (fun _ _ => rfl))))) (pe_op op_mulU (pe_op op_mulU pe_int (pe_ix ix_seq (pv 0) pe_int (fun _ _ => rfl))) (pe_ix ix_seq (pv 0) pe_int (fun _ _ => rfl)))) pa_nil)) pe_int) (pg_name (i := 3) S.nd rfl (.inl rfl)))
      (pss_cons (ps_asg (pe_op op_modU (pe_callTy call_intU (by rfl) n_int (by decide +kernel) (pa_cons (pe_op op_addU (pe_op op_addU (pe_op op_mulU (pv 3) (pv 3)) (pe_op op_mulU pe_int (pe_ix ix_seq (pv 0) pe_int (fun _ _ => rfl)))) (pe_ix ix_seq (pv 0) pe_int (fun _ _ => rfl))) pa_nil)) pe_int) (pg_name (i := 3) S.nd rfl (.inl rfl)))
      (pss_cons (ps_asg (pe_op op_modU (pe_callTy call_intU (by rfl) n_int (by decide +kernel) (pa_cons (pe_op op_addU (pe_op op_mulU (pe_op op_mulU (pv 3) (pv 3)) (pv 3)) (pe_op op_mulU pe_int (pe_ix ix_seq (pv 0) pe_int (fun _ _ => rfl)))) pa_nil)) pe_int) (pg_name (i := 3) S.nd rfl (.inl rfl)))
      (pss_one (ps_ret (pe_op op_modU (pe_callTy call_intU (by rfl) n_int (by decide +kernel) (pa_cons (pe_op op_divU (pv 3) pe_int) pa_nil)) (pv 1)))))))))
def t__law_clicks (K : PySem.W.Frag) : TS := (tSeq (tAsg (tLst tNil) (gName 3))
    (tSeq (tFor (iRng1 (tCons (tCallS (spD K F__law_draw) Ez (tCons (tVar 0) (tCons (tOp (rAddU K) (tVar 2) (tC (.int 1))) tNil))) tNil)) (gName 4) (tSeq (tAsg (tCallS (spD K F__law_draw) Ez (tCons (tVar 0) (tCons (tVar 1) tNil))) (gName 5))
    (tSeq (tIfS (tAnd (tTest (tOp (rNeU K) (tVar 3) (tLst tNil))) (tTest (tOp (rEqU K) (tCallS (spD K F__law_draw) Ez (tCons (tVar 0) (tCons (tC (.int 3)) tNil))) (tC (.int 0))))) (tAsg (tOp (rIx K) (tVar 3) (tUn (rU fun i => .int (-i)) (tC (.int 1)))) (gName 5)) tNext)
    (tDrop (tBM K "list" (rAppend) (tVar 3) (tCons (tVar 5) tNil))))))
    (tRet (tVar 3))))
theorem dv__law_clicks {P : Program} {w : World} {K : PySem.W.Frag} {mg : Str → Option Value} {base : Heap} {f : Addr} {cdv : Value} {A : Around} {outer : List Env} {s : Shared} {H : Hp} {E : XK}
    (hr : Room 1 (A.deeper (envOfC "_law_clicks" (defScope s__law_clicks) s.heap.objs.size f cdv)))
    (hgd : (A.deeper (envOfC "_law_clicks" (defScope s__law_clicks) s.heap.objs.size f cdv)).guards = some [])
    (h__law_draw : HasG P w K mg base CX0 "_law_draw" p__law_draw 1 (spD K F__law_draw))
    (n_range : mg "range" = none) :
    PSs (cxOf CX0 P w K mg base n__law_clicks "_law_clicks" (defScope s__law_clicks) f cdv A outer s H E).nox (defBody s__law_clicks) (t__law_clicks K) := by
  have S := sc__law_clicks
  have hu : (A.deeper (envOfC "_law_clicks" (defScope s__law_clicks) s.heap.objs.size f cdv)).units + 64 < cLine := by have := hr.un; omega
  have hv : (A.deeper (envOfC "_law_clicks" (defScope s__law_clicks) s.heap.objs.size f cdv)).units + 65 < cLine := by have := hr.un; omega
  exact (pss_cons (ps_asg (pe_lst pa_nil) (pg_name (i := 3) S.nd rfl (.inl rfl)))
      (pss_cons (ps_for PassesOwn.never rfl (pi_range1 (by rfl) n_range (pa_cons (pe_hG h__law_draw (hr.mono (by decide)) hgd pz0 (pa_cons (pv 0) (pa_cons (pe_op op_addU (pv 2) pe_int) pa_nil))) pa_nil)) (pg_name (i := 4) S.nd rfl (.inl rfl)) (pss_cons (ps_asg (pe_hG h__law_draw (hr.mono (by decide)) hgd pz0 (pa_cons (pv 0) (pa_cons (pv 1) pa_nil))) (pg_name (i := 5) S.nd rfl (.inl rfl)))
      (pss_cons (ps_if (PW.pt (pw_and (pt_cmpR (op_neU hu) (pv 3) (pe_lst pa_nil) (nomark _)) (pw_and1 (pt_cmpR (op_eqU hu) (pe_hG h__law_draw (hr.mono (by decide)) hgd pz0 (pa_cons (pv 0) (pa_cons pe_int pa_nil))) pe_int (nomark _))))) (pss_one (ps_asg (pe_ix ix_seq (pv 3) (pe_un un_neg pe_int) (fun _ _ => rfl)) (pg_name (i := 5) S.nd rfl (.inl rfl)))) pss_nil)
      (pss_one (ps_expr (pe_bm PySem.F.plainAttrs_list PySem.F.slot_list_append PySem.F.type_list_append mt_append (pv 3) (pa_cons (pv 5) pa_nil)))))))
      (pss_one (ps_ret (pv 3)))))
def t__law_click (K : PySem.W.Frag) : TS := (tSeq (tIfS (tAnd (tTest (tOp (rNeU K) (tVar 0) (tLst tNil))) (tTest (tOp (rEqU K) (tOp (rIx K) (tOp (rIx K) (tVar 0) (tC (.int 0))) (tC (.int 0))) (tVar 1)))) (tRet (tOp (rAddU K) (tLst (tCons (tTup (tCons (tVar 1) (tCons (tUn (rU fun i => .int (-i)) (tOp (rIx K) (tOp (rIx K) (tVar 0) (tC (.int 0))) (tC (.int 1)))) tNil))) tNil)) (tSl (rSlU K) (tVar 0) (tPart (tC (.int 1))) tNoPart))) tNext)
    (tRet (tOp (rAddU K) (tLst (tCons (tTup (tCons (tVar 1) (tCons (tC (.int 1)) tNil))) tNil)) (tLc (iSeq K (tVar 0)) (gName 2) (tTest (tOp (rNeU K) (tOp (rIx K) (tVar 2) (tC (.int 0))) (tVar 1))) (tVar 2) [2]))))
theorem dv__law_click {P : Program} {w : World} {K : PySem.W.Frag} {mg : Str → Option Value} {base : Heap} {f : Addr} {cdv : Value} {A : Around} {outer : List Env} {s : Shared} {H : Hp} {E : XK}
    (hr : Room 0 (A.deeper (envOfC "_law_click" (defScope s__law_click) s.heap.objs.size f cdv)))
    (hgd : (A.deeper (envOfC "_law_click" (defScope s__law_click) s.heap.objs.size f cdv)).guards = some []) :
    PSs (cxOf CX0 P w K mg base n__law_click "_law_click" (defScope s__law_click) f cdv A outer s H E).nox (defBody s__law_click) (t__law_click K) := by
  have S := sc__law_click
  have hu : (A.deeper (envOfC "_law_click" (defScope s__law_click) s.heap.objs.size f cdv)).units + 64 < cLine := by have := hr.un; omega
  have hv : (A.deeper (envOfC "_law_click" (defScope s__law_click) s.heap.objs.size f cdv)).units + 65 < cLine := by have := hr.un; omega
  exact (pss_cons (ps_if (PW.pt (pw_and (pt_cmpR (op_neU hu) (pv 0) (pe_lst pa_nil) (nomark _)) (pw_and1 (pt_cmpR (op_eqU hu) (pe_ix ix_seq (pe_ix ix_seq (pv 0) pe_int (fun _ _ => rfl)) pe_int (fun _ _ => rfl)) (pv 1) (nomark _))))) (pss_one (ps_ret (pe_op op_addU (pe_lst (pa_cons (pe_tup (pa_cons (pv 1) (pa_cons (pe_un un_neg (pe_ix ix_seq (pe_ix ix_seq (pv 0) pe_int (fun _ _ => rfl)) pe_int (fun _ _ => rfl))) pa_nil))) pa_nil)) (pe_slice sl_U (pv 0) (po_some pe_int) po_none)))) pss_nil)
      (pss_one (ps_ret (pe_op op_addU (pe_lst (pa_cons (pe_tup (pa_cons (pv 1) (pa_cons pe_int pa_nil))) pa_nil)) (pe_lc (own := [("key", 2)]) (g := (gName 2)) (tt := (tTest (tOp (rNeU K) (tOp (rIx K) (tVar 2) (tC (.int 0))) (tVar 1)))) rfl S.nd (pi_seq (pv 0)) (blkOk_by (N := n__law_click) (sc := (defScope s__law_click)) (by decide +kernel)) (fun _ _ _ _ _ => (pg_name (i := 2) S.nd rfl (.inl rfl))) (fun _ _ _ _ _ => (pts_one (pt_cmpR (op_neU hu) (pe_ix ix_seq (pv 2) pe_int (fun _ _ => rfl)) (pv 1) (nomark _)))) (fun _ _ _ _ _ => (pv 2)))))))
def t__law_after (K : PySem.W.Frag) : TS := (tSeq (tFor (iSeq K (tVar 1)) (gName 2) (tAsg (tCallS (spD K F__law_click) Ez (tCons (tVar 0) (tCons (tVar 2) tNil))) (gName 0)))
    (tRet (tVar 0)))
theorem dv__law_after {P : Program} {w : World} {K : PySem.W.Frag} {mg : Str → Option Value} {base : Heap} {f : Addr} {cdv : Value} {A : Around} {outer : List Env} {s : Shared} {H : Hp} {E : XK}
    (hr : Room 1 (A.deeper (envOfC "_law_after" (defScope s__law_after) s.heap.objs.size f cdv)))
    (hgd : (A.deeper (envOfC "_law_after" (defScope s__law_after) s.heap.objs.size f cdv)).guards = some [])
    (h__law_click : HasG P w K mg base CX0 "_law_click" p__law_click 1 (spD K F__law_click)) :
    PSs (cxOf CX0 P w K mg base n__law_after "_law_after" (defScope s__law_after) f cdv A outer s H E).nox (defBody s__law_after) (t__law_after K) := by
  have S := sc__law_after
  have hu : (A.deeper (envOfC "_law_after" (defScope s__law_after) s.heap.objs.size f cdv)).units + 64 < cLine := by have := hr.un; omega
  have hv : (A.deeper (envOfC "_law_after" (defScope s__law_after) s.heap.objs.size f cdv)).units + 65 < cLine := by have := hr.un; omega
  exact (pss_cons (ps_for PassesOwn.never rfl (pi_seq (pv 1)) (pg_name (i := 2) S.nd rfl (.inl rfl)) (pss_one (ps_asg (pe_hG h__law_click (hr.mono (by decide)) hgd pz0 (pa_cons (pv 0) (pa_cons (pv 2) pa_nil))) (pg_name (i := 0) S.nd rfl (.inl rfl)))))
      (pss_one (ps_ret (pv 0))))
def t__law_keys (K : PySem.W.Frag) : TS := (tSeq (tAsg (tLstRg (tRg1 (tVar 1))) (gName 2))
    (tSeq (tAsg (tLst tNil) (gName 3))
    (tSeq (tFor (iRng1 (tCons (tCallS (spD K F__law_draw) Ez (tCons (tVar 0) (tCons (tOp (rAddU K) (tVar 1) (tC (.int 1))) tNil))) tNil)) (gName 4) (tDrop (tBM K "list" (rAppend) (tVar 3) (tCons (tTup (tCons (tBM K "list" (rPopU) (tVar 2) (tCons (tCallS (spD K F__law_draw) Ez (tCons (tVar 0) (tCons (tCB (rLenU K) (tCons (tVar 2) tNil)) tNil))) tNil)) (tCons (tOp (rIx K) (tLst (tCons (tC (.int 1)) (tCons (tUn (rU fun i => .int (-i)) (tC (.int 1))) tNil))) (tCallS (spD K F__law_draw) Ez (tCons (tVar 0) (tCons (tC (.int 2)) tNil)))) tNil))) tNil))))
    (tRet (tVar 3)))))
theorem dv__law_keys {P : Program} {w : World} {K : PySem.W.Frag} {mg : Str → Option Value} {base : Heap} {f : Addr} {cdv : Value} {A : Around} {outer : List Env} {s : Shared} {H : Hp} {E : XK}
    (hr : Room 1 (A.deeper (envOfC "_law_keys" (defScope s__law_keys) s.heap.objs.size f cdv)))
    (hgd : (A.deeper (envOfC "_law_keys" (defScope s__law_keys) s.heap.objs.size f cdv)).guards = some [])
    (h__law_draw : HasG P w K mg base CX0 "_law_draw" p__law_draw 1 (spD K F__law_draw))
    (n_len : mg "len" = none)
    (n_list : mg "list" = none)
    (n_range : mg "range" = none) :
    PSs (cxOf CX0 P w K mg base n__law_keys "_law_keys" (defScope s__law_keys) f cdv A outer s H E).nox (defBody s__law_keys) (t__law_keys K) := by
  have S := sc__law_keys
  have hu : (A.deeper (envOfC "_law_keys" (defScope s__law_keys) s.heap.objs.size f cdv)).units + 64 < cLine := by have := hr.un; omega
  have hv : (A.deeper (envOfC "_law_keys" (defScope s__law_keys) s.heap.objs.size f cdv)).units + 65 < cLine := by have := hr.un; omega
  exact (pss_cons (ps_asg (pe_listRg rfl (by rfl) n_list (prg_1 (by rfl) n_range (pv 1))) (pg_name (i := 2) S.nd rfl (.inl rfl)))
      (pss_cons (ps_asg (pe_lst pa_nil) (pg_name (i := 3) S.nd rfl (.inl rfl)))
      (pss_cons (ps_for PassesOwn.never rfl (pi_range1 (by rfl) n_range (pa_cons (pe_hG h__law_draw (hr.mono (by decide)) hgd pz0 (pa_cons (pv 0) (pa_cons (pe_op op_addU (pv 1) pe_int) pa_nil))) pa_nil)) (pg_name (i := 4) S.nd rfl (.inl rfl)) (pss_one (ps_expr (pe_bm PySem.F.plainAttrs_list PySem.F.slot_list_append PySem.F.type_list_append mt_append (pv 3) (pa_cons (pe_tup (pa_cons (pe_bm PySem.F.plainAttrs_list PySem.F.slot_list_pop PySem.F.type_list_pop mt_popU (pv 2) (pa_cons (pe_hG h__law_draw (hr.mono (by decide)) hgd pz0 (pa_cons (pv 0) (pa_cons (pe_callB call_lenU (by rfl) n_len (by decide +kernel) (pa_cons (pv 2) pa_nil)) pa_nil))) pa_nil)) (pa_cons (pe_ix ix_seq (pe_lst (pa_cons pe_int (pa_cons (pe_un un_neg pe_int) pa_nil))) (pe_hG h__law_draw (hr.mono (by decide)) hgd pz0 (pa_cons (pv 0) (pa_cons pe_int pa_nil))) (fun _ _ => rfl)) pa_nil))) pa_nil)))))
      (pss_one (ps_ret (pv 3))))))
def t__law_every (K : PySem.W.Frag) : TS := (tSeq (tAsg (tLst (tCons (tLst tNil) tNil)) (gName 1))
    (tSeq (tAsg (tLst (tCons (tLst tNil) tNil)) (gName 2))
    (tSeq (tFor (iRng1 (tCons (tVar 0) tNil)) (gName 3) (tSeq (tAsg (tLst tNil) (gName 4))
    (tSeq (tFor (iSeq K (tVar 2)) (gName 5) (tSeq (tAsg (tLc (iSeq K (tVar 5)) (gTup K 2 (gCons (gName 6) (gCons (gName 8) gNil))) tYes (tVar 6) [6, 8]) (gName 7))
    (tFor (iSeq K (tLc (iRng1 (tCons (tVar 0) tNil)) (gName 9) (tTest (tOp (rInU K true) (tVar 9) (tVar 7))) (tVar 9) [9])) (gName 6) (tSeq (tDrop (tBM K "list" (rAppend) (tVar 4) (tCons (tOp (rAddU K) (tVar 5) (tLst (tCons (tTup (tCons (tVar 6) (tCons (tUn (rU fun i => .int (-i)) (tC (.int 1))) tNil))) tNil))) tNil)))
    (tDrop (tBM K "list" (rAppend) (tVar 4) (tCons (tOp (rAddU K) (tVar 5) (tLst (tCons (tTup (tCons (tVar 6) (tCons (tC (.int 1)) tNil))) tNil))) tNil)))))))
    (tSeq (tAsg (tOp (rAddU K) (tVar 1) (tVar 4)) (gName 1))
    (tAsg (tCB (rListU K) (tCons (tVar 4) tNil)) (gName 2))))))
    (tRet (tVar 1)))))
theorem dv__law_every {P : Program} {w : World} {K : PySem.W.Frag} {mg : Str → Option Value} {base : Heap} {f : Addr} {cdv : Value} {A : Around} {outer : List Env} {s : Shared} {H : Hp} {E : XK}
    (hr : Room 0 (A.deeper (envOfC "_law_every" (defScope s__law_every) s.heap.objs.size f cdv)))
    (hgd : (A.deeper (envOfC "_law_every" (defScope s__law_every) s.heap.objs.size f cdv)).guards = some [])
    (n_list : mg "list" = none)
    (n_range : mg "range" = none) :
    PSs (cxOf CX0 P w K mg base n__law_every "_law_every" (defScope s__law_every) f cdv A outer s H E).nox (defBody s__law_every) (t__law_every K) := by
  have S := sc__law_every
  have hu : (A.deeper (envOfC "_law_every" (defScope s__law_every) s.heap.objs.size f cdv)).units + 64 < cLine := by have := hr.un; omega
  have hv : (A.deeper (envOfC "_law_every" (defScope s__law_every) s.heap.objs.size f cdv)).units + 65 < cLine := by have := hr.un; omega
  exact (pss_cons (ps_asg (pe_lst (pa_cons (pe_lst pa_nil) pa_nil)) (pg_name (i := 1) S.nd rfl (.inl rfl)))
      (pss_cons (ps_asg (pe_lst (pa_cons (pe_lst pa_nil) pa_nil)) (pg_name (i := 2) S.nd rfl (.inl rfl)))
      (pss_cons (ps_for PassesOwn.never rfl (pi_range1 (by rfl) n_range (pa_cons (pv 0) pa_nil)) (pg_name (i := 3) S.nd rfl (.inl rfl)) (pss_cons (ps_asg (pe_lst pa_nil) (pg_name (i := 4) S.nd rfl (.inl rfl)))
      (pss_cons (ps_for PassesOwn.never rfl (pi_seq (pv 2)) (pg_name (i := 5) S.nd rfl (.inl rfl)) (pss_cons (ps_asg (pe_lc (own := [("column", 6), ("sign", 8)]) (g := (gTup K 2 (gCons (gName 6) (gCons (gName 8) gNil)))) (tt := tYes) rfl S.nd (pi_seq (pv 5)) (blkOk_by (N := n__law_every) (sc := (defScope s__law_every)) (by decide +kernel)) (fun _ _ _ _ _ => (pg_tup rfl (pgs_cons (pg_name (i := 6) S.nd rfl (.inl rfl)) (pgs_cons (pg_name (i := 8) S.nd rfl (.inl rfl)) pgs_nil)))) (fun _ _ _ _ _ => pts_nil) (fun _ _ _ _ _ => (pv 6))) (pg_name (i := 7) S.nd rfl (.inr rfl)))
      (pss_one (ps_for PassesOwn.never rfl (pi_seq (pe_lc (own := [("one", 9)]) (g := (gName 9)) (tt := (tTest (tOp (rInU K true) (tVar 9) (tVar 7)))) rfl S.nd (pi_range1 (by rfl) n_range (pa_cons (pv 0) pa_nil)) (blkOk_by (N := n__law_every) (sc := (defScope s__law_every)) (by decide +kernel)) (fun _ _ _ _ _ => (pg_name (i := 9) S.nd rfl (.inl rfl))) (fun _ _ _ _ _ => (pts_one (pt_cmpR op_niU (pv 9) (pv 7) (by rfl)))) (fun _ _ _ _ _ => (pv 9)))) (pg_name (i := 6) S.nd rfl (.inl rfl)) (pss_cons (ps_expr (pe_bm PySem.F.plainAttrs_list PySem.F.slot_list_append PySem.F.type_list_append mt_append (pv 4) (pa_cons (pe_op op_addU (pv 5) (pe_lst (pa_cons (pe_tup (pa_cons (pv 6) (pa_cons (pe_un un_neg pe_int) pa_nil))) pa_nil))) pa_nil)))
      (pss_one (ps_expr (pe_bm PySem.F.plainAttrs_list PySem.F.slot_list_append PySem.F.type_list_append mt_append (pv 4) (pa_cons (pe_op op_addU (pv 5) (pe_lst (pa_cons (pe_tup (pa_cons (pv 6) (pa_cons pe_int pa_nil))) pa_nil))) pa_nil)))))))))
      (pss_cons (ps_asg (pe_op op_addU (pv 1) (pv 4)) (pg_name (i := 1) S.nd rfl (.inl rfl)))
      (pss_one (ps_asg (pe_callTy call_listU (by rfl) n_list (by decide +kernel) (pa_cons (pv 4) pa_nil)) (pg_name (i := 2) S.nd rfl (.inl rfl))))))))
      (pss_one (ps_ret (pv 1))))))
def t__law_says (K : PySem.W.Frag) : TS := (tRet (tAndT K (tCB (rIsi K) (tCons (tVar 0) (tCons (tC (.ty "bool")) tNil))) (tOp (rEqU K) (tVar 0) (tVar 1))))
theorem dv__law_says {P : Program} {w : World} {K : PySem.W.Frag} {mg : Str → Option Value} {base : Heap} {f : Addr} {cdv : Value} {A : Around} {outer : List Env} {s : Shared} {H : Hp} {E : XK}
    (hr : Room 0 (A.deeper (envOfC "_law_says" (defScope s__law_says) s.heap.objs.size f cdv)))
    (hgd : (A.deeper (envOfC "_law_says" (defScope s__law_says) s.heap.objs.size f cdv)).guards = some [])
    (n_bool : mg "bool" = none)
    (n_isinstance : mg "isinstance" = none) :
    PSs (cxOf CX0 P w K mg base n__law_says "_law_says" (defScope s__law_says) f cdv A outer s H E).nox (defBody s__law_says) (t__law_says K) := by
  have S := sc__law_says
  have hu : (A.deeper (envOfC "_law_says" (defScope s__law_says) s.heap.objs.size f cdv)).units + 64 < cLine := by have := hr.un; omega
  have hv : (A.deeper (envOfC "_law_says" (defScope s__law_says) s.heap.objs.size f cdv)).units + 65 < cLine := by have := hr.un; omega
  exact (pss_one (ps_ret (pe_andT (pe_callB call_isi (by rfl) n_isinstance (by decide +kernel) (pa_cons (pv 0) (pa_cons (pe_bltn (v := .ty "bool") (by rfl) n_bool (by decide +kernel) rfl) pa_nil))) (pe_one (pe_cmpR (op_eqU hu) (pv 0) (pv 1) (nomark _))))))
def t__law_bound (K : PySem.W.Frag) : TS := (tSeq (tAsg (tLc (iRng1 (tCons (tCB (rLenU K) (tCons (tVar 0) tNil)) tNil)) (gName 3) (tTest (tOp (rNeU K) (tOp (rIx K) (tVar 0) (tVar 3)) (tOp (rIx K) (tVar 0) (tC (.int 0))))) (tVar 3) [3]) (gName 1))
    (tSeq (tAsg (tLc (iRng1 (tCons (tCB (rLenU K) (tCons (tVar 0) tNil)) tNil)) (gName 3) (tAnd (tTest (tOp (rNeU K) (tVar 1) (tLst tNil))) (tAnd (tTest (tOp rGtI (tVar 3) (tOp (rIx K) (tVar 1) (tC (.int 0))))) (tTest (tOp (rEqU K) (tOp (rIx K) (tVar 0) (tVar 3)) (tOp (rIx K) (tVar 0) (tC (.int 0))))))) (tVar 3) [3]) (gName 2))
    (tRet (tAndT K (tOp (rNeU K) (tVar 0) (tLst tNil)) (tOp (rEqU K) (tVar 2) (tLst tNil))))))
theorem dv__law_bound {P : Program} {w : World} {K : PySem.W.Frag} {mg : Str → Option Value} {base : Heap} {f : Addr} {cdv : Value} {A : Around} {outer : List Env} {s : Shared} {H : Hp} {E : XK}
    (hr : Room 0 (A.deeper (envOfC "_law_bound" (defScope s__law_bound) s.heap.objs.size f cdv)))
    (hgd : (A.deeper (envOfC "_law_bound" (defScope s__law_bound) s.heap.objs.size f cdv)).guards = some [])
    (n_len : mg "len" = none)
    (n_range : mg "range" = none) :
    PSs (cxOf CX0 P w K mg base n__law_bound "_law_bound" (defScope s__law_bound) f cdv A outer s H E).nox (defBody s__law_bound) (t__law_bound K) := by
  have S := sc__law_bound
  have hu : (A.deeper (envOfC "_law_bound" (defScope s__law_bound) s.heap.objs.size f cdv)).units + 64 < cLine := by have := hr.un; omega
  have hv : (A.deeper (envOfC "_law_bound" (defScope s__law_bound) s.heap.objs.size f cdv)).units + 65 < cLine := by have := hr.un; omega
  exact (pss_cons (ps_asg (pe_lc (own := [("k", 3)]) (g := (gName 3)) (tt := (tTest (tOp (rNeU K) (tOp (rIx K) (tVar 0) (tVar 3)) (tOp (rIx K) (tVar 0) (tC (.int 0)))))) rfl S.nd (pi_range1 (by rfl) n_range (pa_cons (pe_callB call_lenU (by rfl) n_len (by decide +kernel) (pa_cons (pv 0) pa_nil)) pa_nil)) (blkOk_by (N := n__law_bound) (sc := (defScope s__law_bound)) (by decide +kernel)) (fun _ _ _ _ _ => (pg_name (i := 3) S.nd rfl (.inl rfl))) (fun _ _ _ _ _ => (pts_one (pt_cmpR (op_neU hu) (pe_ix ix_seq (pv 0) (pv 3) (fun _ _ => rfl)) (pe_ix ix_seq (pv 0) pe_int (fun _ _ => rfl)) (nomark _)))) (fun _ _ _ _ _ => (pv 3))) (pg_name (i := 1) S.nd rfl (.inr rfl)))
      (pss_cons (ps_setLc (i := 2) (own := [("k", 3)]) (g := (gName 3)) (tt := (tAnd (tTest (tOp (rNeU K) (tVar 1) (tLst tNil))) (tAnd (tTest (tOp rGtI (tVar 3) (tOp (rIx K) (tVar 1) (tC (.int 0))))) (tTest (tOp (rEqU K) (tOp (rIx K) (tVar 0) (tVar 3)) (tOp (rIx K) (tVar 0) (tC (.int 0)))))))) rfl S.nd rfl rfl (sw_true rfl rfl rfl (by decide +kernel)) (pi_range1 (by rfl) n_range (pa_cons (pe_callB call_lenU (by rfl) n_len (by decide +kernel) (pa_cons (pv 0) pa_nil)) pa_nil)) (blkOk_by (N := n__law_bound) (sc := (defScope s__law_bound)) (by decide +kernel)) (fun _ _ _ _ _ => (pg_name (i := 3) S.nd rfl (.inl rfl))) (fun _ _ _ _ _ => (pts_one (PW.pt (pw_and (pt_cmpR (op_neU hu) (pv 1) (pe_lst pa_nil) (nomark _)) (pw_and (pt_cmpR op_gtU (pv 3) (pe_ix ix_seq (pv 1) pe_int (fun _ _ => rfl)) (nomark _)) (pw_and1 (pt_cmpR (op_eqU hu) (pe_ix ix_seq (pv 0) (pv 3) (fun _ _ => rfl)) (pe_ix ix_seq (pv 0) pe_int (fun _ _ => rfl)) (nomark _)))))))) (fun _ _ _ _ _ => (pv 3)))
      (pss_one (ps_ret (pe_andT (pe_cmpR (op_neU hu) (pv 0) (pe_lst pa_nil) (nomark _)) (pe_one (pe_cmpR (op_eqU hu) (pv 2) (pe_lst pa_nil) (nomark _))))))))
def t__law_other (K : PySem.W.Frag) : TS := (tSeq (tAsg (tCallS (spD K F__law_draw) Ez (tCons (tVar 0) (tCons (tOp (rAddU K) (tCB (rLenU K) (tCons (tVar 2) tNil)) (tC (.int 1))) tNil))) (gName 3))
    (tSeq (tAsg (tCallS (spD K F__law_draw) Ez (tCons (tVar 0) (tCons (tC (.int 5)) tNil))) (gName 4))
    (tSeq (tAsg (tCallS (spD K F__law_draw) Ez (tCons (tVar 0) (tCons (tVar 1) tNil))) (gName 5))
    (tSeq (tIfS (tTest (tOp (rEqU K) (tVar 4) (tC (.int 0)))) (tRet (tOp (rAddU K) (tOp (rAddU K) (tSl (rSlU K) (tVar 2) tNoPart (tPart (tVar 3))) (tLst (tCons (tVar 5) tNil))) (tSl (rSlU K) (tVar 2) (tPart (tVar 3)) tNoPart))) tNext)
    (tSeq (tIfS (tTest (tOp (rEqU K) (tVar 4) (tC (.int 1)))) (tRet (tOp (rAddU K) (tOp (rAddU K) (tSl (rSlU K) (tVar 2) tNoPart (tPart (tVar 3))) (tLst (tCons (tVar 5) (tCons (tVar 5) tNil)))) (tSl (rSlU K) (tVar 2) (tPart (tVar 3)) tNoPart))) tNext)
    (tSeq (tIfS (tTest (tOp (rEqU K) (tVar 4) (tC (.int 2)))) (tRet (tOp (rAddU K) (tSl (rSlU K) (tVar 2) tNoPart (tPart (tVar 3))) (tSl (rSlU K) (tVar 2) (tPart (tOp (rAddU K) (tVar 3) (tC (.int 1)))) tNoPart))) tNext)
    (tSeq (tIfS (tTest (tOp (rEqU K) (tVar 4) (tC (.int 3)))) (tRet (tOp (rAddU K) (tSl (rSlU K) (tVar 2) tNoPart (tPart (tC (.int 1)))) (tVar 2))) tNext)
    (tRet (tCallS (spD K F__law_clicks) Ez (tCons (tVar 0) (tCons (tVar 1) (tCons (tC (.int 10)) tNil))))))))))))
theorem dv__law_other {P : Program} {w : World} {K : PySem.W.Frag} {mg : Str → Option Value} {base : Heap} {f : Addr} {cdv : Value} {A : Around} {outer : List Env} {s : Shared} {H : Hp} {E : XK}
    (hr : Room 2 (A.deeper (envOfC "_law_other" (defScope s__law_other) s.heap.objs.size f cdv)))
    (hgd : (A.deeper (envOfC "_law_other" (defScope s__law_other) s.heap.objs.size f cdv)).guards = some [])
    (h__law_clicks : HasG P w K mg base CX0 "_law_clicks" p__law_clicks 2 (spD K F__law_clicks))
    (h__law_draw : HasG P w K mg base CX0 "_law_draw" p__law_draw 1 (spD K F__law_draw))
    (n_len : mg "len" = none) :
    PSs (cxOf CX0 P w K mg base n__law_other "_law_other" (defScope s__law_other) f cdv A outer s H E).nox (defBody s__law_other) (t__law_other K) := by
  have S := sc__law_other
  have hu : (A.deeper (envOfC "_law_other" (defScope s__law_other) s.heap.objs.size f cdv)).units + 64 < cLine := by have := hr.un; omega
  have hv : (A.deeper (envOfC "_law_other" (defScope s__law_other) s.heap.objs.size f cdv)).units + 65 < cLine := by have := hr.un; omega
  exact (pss_cons (ps_asg (pe_hG h__law_draw (hr.mono (by decide)) hgd pz0 (pa_cons (pv 0) (pa_cons (pe_op op_addU (pe_callB call_lenU (by rfl) n_len (by decide +kernel) (pa_cons (pv 2) pa_nil)) pe_int) pa_nil))) (pg_name (i := 3) S.nd rfl (.inl rfl)))
      (pss_cons (ps_asg (pe_hG h__law_draw (hr.mono (by decide)) hgd pz0 (pa_cons (pv 0) (pa_cons pe_int pa_nil))) (pg_name (i := 4) S.nd rfl (.inl rfl)))
      (pss_cons (ps_asg (pe_hG h__law_draw (hr.mono (by decide)) hgd pz0 (pa_cons (pv 0) (pa_cons (pv 1) pa_nil))) (pg_name (i := 5) S.nd rfl (.inl rfl)))
      (pss_cons (ps_if (pt_cmpR (op_eqU hu) (pv 4) pe_int (nomark _)) (pss_one (ps_ret (pe_op op_addU (pe_op op_addU (pe_slice sl_U (pv 2) po_none (po_some (pv 3))) (pe_lst (pa_cons (pv 5) pa_nil))) (pe_slice sl_U (pv 2) (po_some (pv 3)) po_none)))) pss_nil)
      (pss_cons (ps_if (pt_cmpR (op_eqU hu) (pv 4) pe_int (nomark _)) (pss_one (ps_ret (pe_op op_addU (pe_op op_addU (pe_slice sl_U (pv 2) po_none (po_some (pv 3))) (pe_lst (pa_cons (pv 5) (pa_cons (pv 5) pa_nil)))) (pe_slice sl_U (pv 2) (po_some (pv 3)) po_none)))) pss_nil)
      (pss_cons (ps_if (pt_cmpR (op_eqU hu) (pv 4) pe_int (nomark _)) (pss_one (ps_ret (pe_op op_addU (pe_slice sl_U (pv 2) po_none (po_some (pv 3))) (pe_slice sl_U (pv 2) (po_some (pe_op op_addU (pv 3) pe_int)) po_none)))) pss_nil)
      (pss_cons (ps_if (pt_cmpR (op_eqU hu) (pv 4) pe_int (nomark _)) (pss_one (ps_ret (pe_op op_addU (pe_slice sl_U (pv 2) po_none (po_some pe_int)) (pv 2)))) pss_nil)
      (pss_one (ps_ret (pe_hG h__law_clicks (hr.mono (by decide)) hgd pz0 (pa_cons (pv 0) (pa_cons (pv 1) (pa_cons pe_int pa_nil)))))))))))))
def t__law_is_form_right (K : PySem.W.Frag) : TS := (tSeq (tAsg (tVar 0) (gTup K 2 (gCons (gName 1) (gCons (gName 2) gNil))))
    (tSeq (tAsg (tLst (tCons (tTup (tCons (tVar 0) (tCons (tC (.bl true)) tNil))) (tCons (tTup (tCons (tTup (tCons (tLst tNil) (tCons (tC (.bl true)) tNil))) (tCons (tC (.bl false)) tNil))) (tCons (tTup (tCons (tTup (tCons (tLst (tCons (tTup (tCons (tC (.int 0)) (tCons (tC (.int 1)) tNil))) tNil)) (tCons (tC (.bl false)) tNil))) (tCons (tC (.bl false)) tNil))) (tCons (tTup (tCons (tTup (tCons (tLst (tCons (tTup (tCons (tC (.int 0)) (tCons (tC (.int 0)) tNil))) tNil)) (tCons (tC (.bl true)) tNil))) (tCons (tC (.bl false)) tNil))) tNil))))) (gName 3))
    (tSeq (tAsg (tOp (rAddU K) (tVar 3) (tLst (tCons (tTup (tCons (tTup (tCons (tOp (rAddU K) (tVar 1) (tVar 1)) (tCons (tC (.bl true)) tNil))) (tCons (tC (.bl false)) tNil))) (tCons (tTup (tCons (tTup (tCons (tLst (tCons (tTup (tCons (tUn (rU fun i => .int (-i)) (tC (.int 1))) (tCons (tC (.int 1)) tNil))) tNil)) (tCons (tC (.bl true)) tNil))) (tCons (tC (.bl false)) tNil))) (tCons (tTup (tCons (tTup (tCons (tLst tNil) (tCons (tC (.bl false)) tNil))) (tCons (tC (.bl true)) tNil))) tNil))))) (gName 3))
    (tSeq (tAsg (tOp (rAddU K) (tVar 3) (tLst (tCons (tTup (tCons (tTup (tCons (tLst (tCons (tTup (tCons (tC (.int 3)) (tCons (tC (.int 1)) tNil))) (tCons (tTup (tCons (tC (.int 0)) (tCons (tUn (rU fun i => .int (-i)) (tC (.int 1))) tNil))) tNil))) (tCons (tNotT K (tVar 2)) tNil))) (tCons (tC (.bl true)) tNil))) (tCons (tTup (tCons (tTup (tCons (tLst (tCons (tTup (tCons (tC (.int 3)) (tCons (tUn (rU fun i => .int (-i)) (tC (.int 1))) tNil))) tNil)) (tCons (tC (.bl true)) tNil))) (tCons (tC (.bl true)) tNil))) tNil)))) (gName 3))
    (tSeq (tAsg (tOp (rAddU K) (tVar 3) (tLst (tCons (tTup (tCons (tTup (tCons (tLst (tCons (tTup (tCons (tC (.int 3)) (tCons (tC (.int 2)) tNil))) (tCons (tTup (tCons (tC (.int 0)) (tCons (tC (.int 1)) tNil))) tNil))) (tCons (tC (.bl false)) tNil))) (tCons (tC (.bl false)) tNil))) (tCons (tTup (tCons (tTup (tCons (tLst (tCons (tTup (tCons (tC (.int 1)) (tCons (tC (.int 1)) tNil))) (tCons (tTup (tCons (tC (.int 0)) (tCons (tC (.int 5)) tNil))) tNil))) (tCons (tC (.bl true)) tNil))) (tCons (tC (.bl false)) tNil))) tNil)))) (gName 3))
    (tSeq (tAsg (tOp (rAddU K) (tVar 3) (tLst (tCons (tTup (tCons (tTup (tCons (tLst (tCons (tTup (tCons (tC (.int 1)) (tCons (tC (.int 1)) tNil))) (tCons (tTup (tCons (tUn (rU fun i => .int (-i)) (tC (.int 1))) (tCons (tC (.int 1)) tNil))) tNil))) (tCons (tC (.bl false)) tNil))) (tCons (tC (.bl false)) tNil))) (tCons (tTup (tCons (tTup (tCons (tLst (tCons (tTup (tCons (tC (.int 0)) (tCons (tC (.int 1)) tNil))) (tCons (tTup (tCons (tC (.int 0)) (tCons (tUn (rU fun i => .int (-i)) (tC (.int 1))) tNil))) tNil))) (tCons (tC (.bl true)) tNil))) (tCons (tC (.bl false)) tNil))) tNil)))) (gName 3))
    (tSeq (tAsg (tOp (rAddU K) (tVar 3) (tLst (tCons (tTup (tCons (tTup (tCons (tLst (tCons (tTup (tCons (tC (.int 0)) (tCons (tC (.int 1)) tNil))) (tCons (tTup (tCons (tC (.int 1)) (tCons (tC (.int 1)) tNil))) (tCons (tTup (tCons (tC (.int 0)) (tCons (tUn (rU fun i => .int (-i)) (tC (.int 1))) tNil))) tNil)))) (tCons (tC (.bl false)) tNil))) (tCons (tC (.bl false)) tNil))) (tCons (tTup (tCons (tTup (tCons (tLst (tCons (tTup (tCons (tC (.int 0)) (tCons (tC (.int 1)) tNil))) (tCons (tTup (tCons (tC (.int 1)) (tCons (tC (.int 1)) tNil))) (tCons (tTup (tCons (tC (.int 2)) (tCons (tUn (rU fun i => .int (-i)) (tC (.int 1))) tNil))) tNil)))) (tCons (tC (.bl false)) tNil))) (tCons (tC (.bl true)) tNil))) tNil)))) (gName 3))
    (tSeq (tFor (iSeq K (tVar 3)) (gTup K 2 (gCons (gName 4) (gCons (gName 5) gNil))) (tIfS (tOr (tNot (tTru K (tCallS (spD K F__law_says) Ez (tCons (tCallS (spD K F_is_form) Ez (tCons (tVar 4) tNil)) (tCons (tVar 5) tNil))))) (tNot (tTru K (tCallS (spD K F__law_says) Ez (tCons (tCallNS 0 1 (spD K F_is_form) (fun vs zs => perm [0] (vs ++ zs)) Ez tNil (tCons (tVar 4) tNil)) (tCons (tVar 5) tNil)))))) (tRet (tC (.bl false))) tNext))
    (tRet (tC (.bl true)))))))))))
theorem dv__law_is_form_right {P : Program} {w : World} {K : PySem.W.Frag} {mg : Str → Option Value} {base : Heap} {f : Addr} {cdv : Value} {A : Around} {outer : List Env} {s : Shared} {H : Hp} {E : XK}
    (hr : Room 3 (A.deeper (envOfC "_law_is_form_right" (defScope s__law_is_form_right) s.heap.objs.size f cdv)))
    (hgd : (A.deeper (envOfC "_law_is_form_right" (defScope s__law_is_form_right) s.heap.objs.size f cdv)).guards = some [])
    (h__law_says : HasG P w K mg base CX0 "_law_says" p__law_says 1 (spD K F__law_says))
    (h_is_form : HasG P w K mg base CX0 "is_form" p_is_form 3 (spD K F_is_form))
    (hk_is_form_0 : HasGK P w K mg base CX0 "is_form" p_is_form 3 (spD K F_is_form) 0 ["form"] [0]) :
    PSs (cxOf CX0 P w K mg base n__law_is_form_right "_law_is_form_right" (defScope s__law_is_form_right) f cdv A outer s H E).nox (defBody s__law_is_form_right) (t__law_is_form_right K) := by
  have S := sc__law_is_form_right
  have hu : (A.deeper (envOfC "_law_is_form_right" (defScope s__law_is_form_right) s.heap.objs.size f cdv)).units + 64 < cLine := by have := hr.un; omega
  have hv : (A.deeper (envOfC "_law_is_form_right" (defScope s__law_is_form_right) s.heap.objs.size f cdv)).units + 65 < cLine := by have := hr.un; omega
  exact (pss_cons (ps_asg (pv 0) (pg_tup rfl (pgs_cons (pg_name (i := 1) S.nd rfl (.inl rfl)) (pgs_cons (pg_name (i := 2) S.nd rfl (.inl rfl)) pgs_nil))))
      (pss_cons (ps_asg (pe_lst (pa_cons (pe_tup (pa_cons (pv 0) (pa_cons pe_bl pa_nil))) (pa_cons (pe_tup (pa_cons (pe_tup (pa_cons (pe_lst pa_nil) (pa_cons pe_bl pa_nil))) (pa_cons pe_bl pa_nil))) (pa_cons (pe_tup (pa_cons (pe_tup (pa_cons (pe_lst (pa_cons (pe_tup (pa_cons pe_int (pa_cons pe_int pa_nil))) pa_nil)) (pa_cons pe_bl pa_nil))) (pa_cons pe_bl pa_nil))) (pa_cons (pe_tup (pa_cons (pe_tup (pa_cons (pe_lst (pa_cons (pe_tup (pa_cons pe_int (pa_cons pe_int pa_nil))) pa_nil)) (pa_cons pe_bl pa_nil))) (pa_cons pe_bl pa_nil))) pa_nil))))) (pg_name (i := 3) S.nd rfl (.inl rfl)))
      (pss_cons (ps_asg (pe_op op_addU (pv 3) (pe_lst (pa_cons (pe_tup (pa_cons (pe_tup (pa_cons (pe_op op_addU (pv 1) (pv 1)) (pa_cons pe_bl pa_nil))) (pa_cons pe_bl pa_nil))) (pa_cons (pe_tup (pa_cons (pe_tup (pa_cons (pe_lst (pa_cons (pe_tup (pa_cons (pe_un un_neg pe_int) (pa_cons pe_int pa_nil))) pa_nil)) (pa_cons pe_bl pa_nil))) (pa_cons pe_bl pa_nil))) (pa_cons (pe_tup (pa_cons (pe_tup (pa_cons (pe_lst pa_nil) (pa_cons pe_bl pa_nil))) (pa_cons pe_bl pa_nil))) pa_nil))))) (pg_name (i := 3) S.nd rfl (.inl rfl)))
      (pss_cons (ps_asg (pe_op op_addU (pv 3) (pe_lst (pa_cons (pe_tup (pa_cons (pe_tup (pa_cons (pe_lst (pa_cons (pe_tup (pa_cons pe_int (pa_cons pe_int pa_nil))) (pa_cons (pe_tup (pa_cons pe_int (pa_cons (pe_un un_neg pe_int) pa_nil))) pa_nil))) (pa_cons (pe_notT (pv 2)) pa_nil))) (pa_cons pe_bl pa_nil))) (pa_cons (pe_tup (pa_cons (pe_tup (pa_cons (pe_lst (pa_cons (pe_tup (pa_cons pe_int (pa_cons (pe_un un_neg pe_int) pa_nil))) pa_nil)) (pa_cons pe_bl pa_nil))) (pa_cons pe_bl pa_nil))) pa_nil)))) (pg_name (i := 3) S.nd rfl (.inl rfl)))
      (pss_cons (ps_asg (pe_op op_addU (pv 3) (pe_lst (pa_cons (pe_tup (pa_cons (pe_tup (pa_cons (pe_lst (pa_cons (pe_tup (pa_cons pe_int (pa_cons pe_int pa_nil))) (pa_cons (pe_tup (pa_cons pe_int (pa_cons pe_int pa_nil))) pa_nil))) (pa_cons pe_bl pa_nil))) (pa_cons pe_bl pa_nil))) (pa_cons (pe_tup (pa_cons (pe_tup (pa_cons (pe_lst (pa_cons (pe_tup (pa_cons pe_int (pa_cons pe_int pa_nil))) (pa_cons (pe_tup (pa_cons pe_int (pa_cons pe_int pa_nil))) pa_nil))) (pa_cons pe_bl pa_nil))) (pa_cons pe_bl pa_nil))) pa_nil)))) (pg_name (i := 3) S.nd rfl (.inl rfl)))
      (pss_cons (ps_asg (pe_op op_addU (pv 3) (pe_lst (pa_cons (pe_tup (pa_cons (pe_tup (pa_cons (pe_lst (pa_cons (pe_tup (pa_cons pe_int (pa_cons pe_int pa_nil))) (pa_cons (pe_tup (pa_cons (pe_un un_neg pe_int) (pa_cons pe_int pa_nil))) pa_nil))) (pa_cons pe_bl pa_nil))) (pa_cons pe_bl pa_nil))) (pa_cons (pe_tup (pa_cons (pe_tup (pa_cons (pe_lst (pa_cons (pe_tup (pa_cons pe_int (pa_cons pe_int pa_nil))) (pa_cons (pe_tup (pa_cons pe_int (pa_cons (pe_un un_neg pe_int) pa_nil))) pa_nil))) (pa_cons pe_bl pa_nil))) (pa_cons pe_bl pa_nil))) pa_nil)))) (pg_name (i := 3) S.nd rfl (.inl rfl)))
      (pss_cons (ps_asg (pe_op op_addU (pv 3) (pe_lst (pa_cons (pe_tup (pa_cons (pe_tup (pa_cons (pe_lst (pa_cons (pe_tup (pa_cons pe_int (pa_cons pe_int pa_nil))) (pa_cons (pe_tup (pa_cons pe_int (pa_cons pe_int pa_nil))) (pa_cons (pe_tup (pa_cons pe_int (pa_cons (pe_un un_neg pe_int) pa_nil))) pa_nil)))) (pa_cons pe_bl pa_nil))) (pa_cons pe_bl pa_nil))) (pa_cons (pe_tup (pa_cons (pe_tup (pa_cons (pe_lst (pa_cons (pe_tup (pa_cons pe_int (pa_cons pe_int pa_nil))) (pa_cons (pe_tup (pa_cons pe_int (pa_cons pe_int pa_nil))) (pa_cons (pe_tup (pa_cons pe_int (pa_cons (pe_un un_neg pe_int) pa_nil))) pa_nil)))) (pa_cons pe_bl pa_nil))) (pa_cons pe_bl pa_nil))) pa_nil)))) (pg_name (i := 3) S.nd rfl (.inl rfl)))
      (pss_cons (ps_for PassesOwn.never rfl (pi_seq (pv 3)) (pg_tup rfl (pgs_cons (pg_name (i := 4) S.nd rfl (.inl rfl)) (pgs_cons (pg_name (i := 5) S.nd rfl (.inl rfl)) pgs_nil))) (pss_one (ps_if (PW.pt (pw_or (pt_not (pt_tru (pe_hG h__law_says (hr.mono (by decide)) hgd pz0 (pa_cons (pe_hG h_is_form (hr.mono (by decide)) hgd pz0 (pa_cons (pv 4) pa_nil)) (pa_cons (pv 5) pa_nil))))) (pw_or1 (pt_not (pt_tru (pe_hG h__law_says (hr.mono (by decide)) hgd pz0 (pa_cons (pe_hGN0 hk_is_form_0 (hr.mono (by decide)) hgd pz0 (pk_cons (pv 4) pk_nil)) (pa_cons (pv 5) pa_nil)))))))) (pss_one (ps_ret pe_bl)) pss_nil)))
      (pss_one (ps_ret pe_bl))))))))))
def t__law_far_right (K : PySem.W.Frag) : TS := (tSeq (tAsg (tOp (rAddU K) (tC (.int 1)) (tCallS (spD K F__law_draw) Ez (tCons (tVar 0) (tCons (tC (.int 57)) tNil)))) (gName 1))
    (tSeq (tAsg (tCallS (spD K F__law_clicks) Ez (tCons (tVar 0) (tCons (tC (.int 3)) (tCons (tC (.int 10)) tNil)))) (gName 2))
    (tSeq (tAsg (tCallS (spX K F_form_of) Ez (tCons (tVar 2) tNil)) (gTup K 2 (gCons (gName 3) (gCons (gName 4) gNil))))
    (tSeq (tAsg (tCallS (spX K F_form_of) Ez (tCons (tLc (iSeq K (tVar 2)) (gName 11) tYes (tOp (rAddU K) (tVar 11) (tVar 1)) [11]) tNil)) (gName 5))
    (tSeq (tIfS (tTest (tOp (rNeU K) (tVar 5) (tTup (tCons (tLc (iSeq K (tVar 3)) (gTup K 2 (gCons (gName 11) (gCons (gName 12) gNil))) tYes (tTup (tCons (tOp (rAddU K) (tVar 11) (tVar 1)) (tCons (tVar 12) tNil))) [11, 12]) (tCons (tVar 4) tNil))))) (tRet (tC (.bl false))) tNext)
    (tSeq (tAsg (tCallS (spD K F__law_other) Ez (tCons (tVar 0) (tCons (tC (.int 3)) (tCons (tVar 2) tNil)))) (gName 6))
    (tSeq (tAsg (tCallS (spX K F_first_apart) Ez (tCons (tVar 2) (tCons (tVar 6) tNil))) (gName 7))
    (tSeq (tAsg (tCallS (spX K F_first_apart) Ez (tCons (tLc (iSeq K (tVar 2)) (gName 11) tYes (tOp (rAddU K) (tVar 11) (tVar 1)) [11]) (tCons (tLc (iSeq K (tVar 6)) (gName 11) tYes (tOp (rAddU K) (tVar 11) (tVar 1)) [11]) tNil))) (gName 8))
    (tSeq (tIfS (tTest (tOp (rNeU K) (tOp (rIsU false) (tVar 7) (tC .non)) (tOp (rIsU false) (tVar 8) (tC .non)))) (tRet (tC (.bl false))) tNext)
    (tSeq (tIfS (tTest (tOp (rNeU K) (tCallS (spX K F_alike) Ez (tCons (tLc (iSeq K (tVar 2)) (gName 11) tYes (tOp (rAddU K) (tVar 11) (tVar 1)) [11]) (tCons (tLc (iSeq K (tVar 6)) (gName 11) tYes (tOp (rAddU K) (tVar 11) (tVar 1)) [11]) tNil))) (tOp (rIsU false) (tVar 7) (tC .non)))) (tRet (tC (.bl false))) tNext)
    (tSeq (tIfS (tAnd (tTest (tOp (rIsU true) (tVar 7) (tC .non))) (tTest (tOp (rNeU K) (tVar 8) (tLc (iSeq K (tVar 7)) (gTup K 2 (gCons (gName 11) (gCons (gName 12) gNil))) tYes (tTup (tCons (tOp (rAddU K) (tVar 11) (tVar 1)) (tCons (tVar 12) tNil))) [11, 12])))) (tRet (tC (.bl false))) tNext)
    (tSeq (tAsg (tCallS (spD K F__law_keys) Ez (tCons (tVar 0) (tCons (tC (.int 3)) tNil))) (gName 9))
    (tSeq (tAsg (tCallS (spX K F_formed) Ez (tCons (tVar 5) (tCons (tLc (iSeq K (tVar 9)) (gTup K 2 (gCons (gName 11) (gCons (gName 12) gNil))) tYes (tTup (tCons (tOp (rAddU K) (tVar 11) (tVar 1)) (tCons (tVar 12) tNil))) [11, 12]) tNil))) (gName 10))
    (tRet (tOp (rEqU K) (tVar 10) (tLc (iSeq K (tCallS (spD K F__law_after) Ez (tCons (tVar 9) (tCons (tVar 2) tNil)))) (gTup K 2 (gCons (gName 11) (gCons (gName 12) gNil))) tYes (tTup (tCons (tOp (rAddU K) (tVar 11) (tVar 1)) (tCons (tVar 12) tNil))) [11, 12]))))))))))))))))
theorem dv__law_far_right {P : Program} {w : World} {K : PySem.W.Frag} {mg : Str → Option Value} {base : Heap} {f : Addr} {cdv : Value} {A : Around} {outer : List Env} {s : Shared} {H : Hp} {E : XK}
    (hr : Room 5 (A.deeper (envOfC "_law_far_right" (defScope s__law_far_right) s.heap.objs.size f cdv)))
    (hgd : (A.deeper (envOfC "_law_far_right" (defScope s__law_far_right) s.heap.objs.size f cdv)).guards = some [])
    (h__law_after : HasG P w K mg base CX0 "_law_after" p__law_after 2 (spD K F__law_after))
    (h__law_clicks : HasG P w K mg base CX0 "_law_clicks" p__law_clicks 2 (spD K F__law_clicks))
    (h__law_draw : HasG P w K mg base CX0 "_law_draw" p__law_draw 1 (spD K F__law_draw))
    (h__law_keys : HasG P w K mg base CX0 "_law_keys" p__law_keys 2 (spD K F__law_keys))
    (h__law_other : HasG P w K mg base CX0 "_law_other" p__law_other 3 (spD K F__law_other))
    (h_alike : HasG P w K mg base (L2.CX P w) "alike" p_alike 5 (spX K F_alike))
    (h_first_apart : HasG P w K mg base (L2.CX P w) "first_apart" p_first_apart 5 (spX K F_first_apart))
    (h_form_of : HasG P w K mg base (L2.CX P w) "form_of" p_form_of 4 (spX K F_form_of))
    (h_formed : HasG P w K mg base (L2.CX P w) "formed" p_formed 4 (spX K F_formed)) :
    PSs (cxOf CX0 P w K mg base n__law_far_right "_law_far_right" (defScope s__law_far_right) f cdv A outer s H E).nox (defBody s__law_far_right) (t__law_far_right K) := by
  have S := sc__law_far_right
  have hu : (A.deeper (envOfC "_law_far_right" (defScope s__law_far_right) s.heap.objs.size f cdv)).units + 64 < cLine := by have := hr.un; omega
  have hv : (A.deeper (envOfC "_law_far_right" (defScope s__law_far_right) s.heap.objs.size f cdv)).units + 65 < cLine := by have := hr.un; omega
  exact (pss_cons (ps_asg (pe_op op_addU pe_int (pe_hG h__law_draw (hr.mono (by decide)) hgd pz0 (pa_cons (pv 0) (pa_cons pe_int pa_nil)))) (pg_name (i := 1) S.nd rfl (.inr rfl)))
      (pss_cons (ps_asg (pe_hG h__law_clicks (hr.mono (by decide)) hgd pz0 (pa_cons (pv 0) (pa_cons pe_int (pa_cons pe_int pa_nil)))) (pg_name (i := 2) S.nd rfl (.inl rfl)))
      (pss_cons (ps_asg (pe_hG h_form_of (hr.mono (by decide)) hgd pzL (pa_cons (pv 2) pa_nil)) (pg_tup rfl (pgs_cons (pg_name (i := 3) S.nd rfl (.inl rfl)) (pgs_cons (pg_name (i := 4) S.nd rfl (.inl rfl)) pgs_nil))))
      (pss_cons (ps_asg (pe_hG h_form_of (hr.mono (by decide)) hgd pzL (pa_cons (pe_lc (own := [("column", 11)]) (g := (gName 11)) (tt := tYes) rfl S.nd (pi_seq (pv 2)) (blkOk_by (N := n__law_far_right) (sc := (defScope s__law_far_right)) (by decide +kernel)) (fun _ _ _ _ _ => (pg_name (i := 11) S.nd rfl (.inl rfl))) (fun _ _ _ _ _ => pts_nil) (fun _ _ _ _ _ => (pe_op op_addU (pv 11) (pv 1)))) pa_nil)) (pg_name (i := 5) S.nd rfl (.inl rfl)))
      (pss_cons (ps_if (pt_cmpR (op_neU hu) (pv 5) (pe_tup (pa_cons (pe_lc (own := [("column", 11), ("sign", 12)]) (g := (gTup K 2 (gCons (gName 11) (gCons (gName 12) gNil)))) (tt := tYes) rfl S.nd (pi_seq (pv 3)) (blkOk_by (N := n__law_far_right) (sc := (defScope s__law_far_right)) (by decide +kernel)) (fun _ _ _ _ _ => (pg_tup rfl (pgs_cons (pg_name (i := 11) S.nd rfl (.inl rfl)) (pgs_cons (pg_name (i := 12) S.nd rfl (.inl rfl)) pgs_nil)))) (fun _ _ _ _ _ => pts_nil) (fun _ _ _ _ _ => (pe_tup (pa_cons (pe_op op_addU (pv 11) (pv 1)) (pa_cons (pv 12) pa_nil))))) (pa_cons (pv 4) pa_nil))) (nomark _)) (pss_one (ps_ret pe_bl)) pss_nil)
      (pss_cons (ps_asg (pe_hG h__law_other (hr.mono (by decide)) hgd pz0 (pa_cons (pv 0) (pa_cons pe_int (pa_cons (pv 2) pa_nil)))) (pg_name (i := 6) S.nd rfl (.inl rfl)))
      (pss_cons (ps_asg (pe_hG h_first_apart (hr.mono (by decide)) hgd pzL (pa_cons (pv 2) (pa_cons (pv 6) pa_nil))) (pg_name (i := 7) S.nd rfl (.inl rfl)))
      (pss_cons (ps_asg (pe_hG h_first_apart (hr.mono (by decide)) hgd pzL (pa_cons (pe_lc (own := [("column", 11)]) (g := (gName 11)) (tt := tYes) rfl S.nd (pi_seq (pv 2)) (blkOk_by (N := n__law_far_right) (sc := (defScope s__law_far_right)) (by decide +kernel)) (fun _ _ _ _ _ => (pg_name (i := 11) S.nd rfl (.inl rfl))) (fun _ _ _ _ _ => pts_nil) (fun _ _ _ _ _ => (pe_op op_addU (pv 11) (pv 1)))) (pa_cons (pe_lc (own := [("column", 11)]) (g := (gName 11)) (tt := tYes) rfl S.nd (pi_seq (pv 6)) (blkOk_by (N := n__law_far_right) (sc := (defScope s__law_far_right)) (by decide +kernel)) (fun _ _ _ _ _ => (pg_name (i := 11) S.nd rfl (.inl rfl))) (fun _ _ _ _ _ => pts_nil) (fun _ _ _ _ _ => (pe_op op_addU (pv 11) (pv 1)))) pa_nil))) (pg_name (i := 8) S.nd rfl (.inl rfl)))
      (pss_cons (ps_if (pt_cmpR (op_neU hu) (pe_cmpR op_isU (pv 7) pe_non (nomark _)) (pe_cmpR op_isU (pv 8) pe_non (nomark _)) (nomark _)) (pss_one (ps_ret pe_bl)) pss_nil)
      (pss_cons (ps_if (pt_cmpR (op_neU hu) (pe_hG h_alike (hr.mono (by decide)) hgd pzL (pa_cons (pe_lc (own := [("column", 11)]) (g := (gName 11)) (tt := tYes) rfl S.nd (pi_seq (pv 2)) (blkOk_by (N := n__law_far_right) (sc := (defScope s__law_far_right)) (by decide +kernel)) (fun _ _ _ _ _ => (pg_name (i := 11) S.nd rfl (.inl rfl))) (fun _ _ _ _ _ => pts_nil) (fun _ _ _ _ _ => (pe_op op_addU (pv 11) (pv 1)))) (pa_cons (pe_lc (own := [("column", 11)]) (g := (gName 11)) (tt := tYes) rfl S.nd (pi_seq (pv 6)) (blkOk_by (N := n__law_far_right) (sc := (defScope s__law_far_right)) (by decide +kernel)) (fun _ _ _ _ _ => (pg_name (i := 11) S.nd rfl (.inl rfl))) (fun _ _ _ _ _ => pts_nil) (fun _ _ _ _ _ => (pe_op op_addU (pv 11) (pv 1)))) pa_nil))) (pe_cmpR op_isU (pv 7) pe_non (nomark _)) (nomark _)) (pss_one (ps_ret pe_bl)) pss_nil)
      (pss_cons (ps_if (PW.pt (pw_and (pt_cmpR op_isnU (pv 7) pe_non (nomark _)) (pw_and1 (pt_cmpR (op_neU hu) (pv 8) (pe_lc (own := [("column", 11), ("sign", 12)]) (g := (gTup K 2 (gCons (gName 11) (gCons (gName 12) gNil)))) (tt := tYes) rfl S.nd (pi_seq (pv 7)) (blkOk_by (N := n__law_far_right) (sc := (defScope s__law_far_right)) (by decide +kernel)) (fun _ _ _ _ _ => (pg_tup rfl (pgs_cons (pg_name (i := 11) S.nd rfl (.inl rfl)) (pgs_cons (pg_name (i := 12) S.nd rfl (.inl rfl)) pgs_nil)))) (fun _ _ _ _ _ => pts_nil) (fun _ _ _ _ _ => (pe_tup (pa_cons (pe_op op_addU (pv 11) (pv 1)) (pa_cons (pv 12) pa_nil))))) (nomark _))))) (pss_one (ps_ret pe_bl)) pss_nil)
      (pss_cons (ps_asg (pe_hG h__law_keys (hr.mono (by decide)) hgd pz0 (pa_cons (pv 0) (pa_cons pe_int pa_nil))) (pg_name (i := 9) S.nd rfl (.inl rfl)))
      (pss_cons (ps_asg (pe_hG h_formed (hr.mono (by decide)) hgd pzL (pa_cons (pv 5) (pa_cons (pe_lc (own := [("column", 11), ("sign", 12)]) (g := (gTup K 2 (gCons (gName 11) (gCons (gName 12) gNil)))) (tt := tYes) rfl S.nd (pi_seq (pv 9)) (blkOk_by (N := n__law_far_right) (sc := (defScope s__law_far_right)) (by decide +kernel)) (fun _ _ _ _ _ => (pg_tup rfl (pgs_cons (pg_name (i := 11) S.nd rfl (.inl rfl)) (pgs_cons (pg_name (i := 12) S.nd rfl (.inl rfl)) pgs_nil)))) (fun _ _ _ _ _ => pts_nil) (fun _ _ _ _ _ => (pe_tup (pa_cons (pe_op op_addU (pv 11) (pv 1)) (pa_cons (pv 12) pa_nil))))) pa_nil))) (pg_name (i := 10) S.nd rfl (.inl rfl)))
      (pss_one (ps_ret (pe_cmpR (op_eqU hu) (pv 10) (pe_lc (own := [("column", 11), ("sign", 12)]) (g := (gTup K 2 (gCons (gName 11) (gCons (gName 12) gNil)))) (tt := tYes) rfl S.nd (pi_seq (pe_hG h__law_after (hr.mono (by decide)) hgd pz0 (pa_cons (pv 9) (pa_cons (pv 2) pa_nil)))) (blkOk_by (N := n__law_far_right) (sc := (defScope s__law_far_right)) (by decide +kernel)) (fun _ _ _ _ _ => (pg_tup rfl (pgs_cons (pg_name (i := 11) S.nd rfl (.inl rfl)) (pgs_cons (pg_name (i := 12) S.nd rfl (.inl rfl)) pgs_nil)))) (fun _ _ _ _ _ => pts_nil) (fun _ _ _ _ _ => (pe_tup (pa_cons (pe_op op_addU (pv 11) (pv 1)) (pa_cons (pv 12) pa_nil))))) (nomark _)))))))))))))))))
def t__law_many_right (K : PySem.W.Frag) : TS := (tSeq (tAsg (tLc (iRng1 (tCons (tOp (rAddU K) (tC (.int 1)) (tCallS (spD K F__law_draw) Ez (tCons (tVar 0) (tCons (tC (.int 12)) tNil)))) tNil)) (gName 5) tYes (tCallS (spD K F__law_draw) Ez (tCons (tVar 0) (tCons (tC (.int 60)) tNil))) [5]) (gName 1))
    (tSeq (tAsg (tLc (iSeq K (tCallS (spD K F__law_clicks) Ez (tCons (tVar 0) (tCons (tCB (rLenU K) (tCons (tVar 1) tNil)) (tCons (tOp (rIx K) (tLst (tCons (tC (.int 15)) (tCons (tC (.int 60)) tNil))) (tCB (rIntU) (tCons (tOp (rEqU K) (tCallS (spD K F__law_draw) Ez (tCons (tVar 0) (tCons (tC (.int 4)) tNil))) (tC (.int 0))) tNil))) tNil))))) (gName 6) tYes (tOp (rIx K) (tVar 1) (tVar 6)) [6]) (gName 2))
    (tSeq (tAsg (tCallS (spX K F_form_of) Ez (tCons (tVar 2) tNil)) (gName 3))
    (tSeq (tIfS (tOr (tTest (tOp (rNeU K) (tVar 3) (tTup (tCons (tCallS (spD K F__law_after) Ez (tCons (tLst tNil) (tCons (tVar 2) tNil))) (tCons (tCallS (spD K F__law_bound) Ez (tCons (tVar 2) tNil)) tNil))))) (tTest (tOp (rIsU true) (tCallS (spD K F_is_form) Ez (tCons (tVar 3) tNil)) (tC (.bl true))))) (tRet (tC (.bl false))) tNext)
    (tSeq (tAsg (tCallS (spD K F__law_after) Ez (tCons (tLst tNil) (tCons (tLc (iSeq K (tCallS (spD K F__law_clicks) Ez (tCons (tVar 0) (tCons (tCB (rLenU K) (tCons (tVar 1) tNil)) (tCons (tC (.int 9)) tNil))))) (gName 6) tYes (tOp (rIx K) (tVar 1) (tVar 6)) [6]) tNil))) (gName 4))
    (tRet (tOp (rEqU K) (tCallS (spX K F_formed) Ez (tCons (tVar 3) (tCons (tVar 4) tNil))) (tCallS (spD K F__law_after) Ez (tCons (tVar 4) (tCons (tVar 2) tNil))))))))))
theorem dv__law_many_right {P : Program} {w : World} {K : PySem.W.Frag} {mg : Str → Option Value} {base : Heap} {f : Addr} {cdv : Value} {A : Around} {outer : List Env} {s : Shared} {H : Hp} {E : XK}
    (hr : Room 4 (A.deeper (envOfC "_law_many_right" (defScope s__law_many_right) s.heap.objs.size f cdv)))
    (hgd : (A.deeper (envOfC "_law_many_right" (defScope s__law_many_right) s.heap.objs.size f cdv)).guards = some [])
    (h__law_after : HasG P w K mg base CX0 "_law_after" p__law_after 2 (spD K F__law_after))
    (h__law_bound : HasG P w K mg base CX0 "_law_bound" p__law_bound 1 (spD K F__law_bound))
    (h__law_clicks : HasG P w K mg base CX0 "_law_clicks" p__law_clicks 2 (spD K F__law_clicks))
    (h__law_draw : HasG P w K mg base CX0 "_law_draw" p__law_draw 1 (spD K F__law_draw))
    (h_form_of : HasG P w K mg base (L2.CX P w) "form_of" p_form_of 4 (spX K F_form_of))
    (h_formed : HasG P w K mg base (L2.CX P w) "formed" p_formed 4 (spX K F_formed))
    (h_is_form : HasG P w K mg base CX0 "is_form" p_is_form 3 (spD K F_is_form))
    (n_int : mg "int" = none)
    (n_len : mg "len" = none)
    (n_range : mg "range" = none) :
    PSs (cxOf CX0 P w K mg base n__law_many_right "_law_many_right" (defScope s__law_many_right) f cdv A outer s H E).nox (defBody s__law_many_right) (t__law_many_right K) := by
  have S := sc__law_many_right
  have hu : (A.deeper (envOfC "_law_many_right" (defScope s__law_many_right) s.heap.objs.size f cdv)).units + 64 < cLine := by have := hr.un; omega
  have hv : (A.deeper (envOfC "_law_many_right" (defScope s__law_many_right) s.heap.objs.size f cdv)).units + 65 < cLine := by have := hr.un; omega
  exact (pss_cons (ps_asg (pe_lc (own := [("turn", 5)]) (g := (gName 5)) (tt := tYes) rfl S.nd (pi_range1 (by rfl) n_range (pa_cons (pe_op op_addU pe_int (pe_hG h__law_draw (hr.mono (by decide)) hgd pz0 (pa_cons (pv 0) (pa_cons pe_int pa_nil)))) pa_nil)) (blkOk_by (N := n__law_many_right) (sc := (defScope s__law_many_right)) (by decide +kernel)) (fun _ _ _ _ _ => (pg_name (i := 5) S.nd rfl (.inl rfl))) (fun _ _ _ _ _ => pts_nil) (fun _ _ _ _ _ => (pe_hG h__law_draw (hr.mono (by decide)) hgd pz0 (pa_cons (pv 0) (pa_cons pe_int pa_nil))))) (pg_name (i := 1) S.nd rfl (.inr rfl)))
      (pss_cons (ps_setLc (i := 2) (own := [("number", 6)]) (g := (gName 6)) (tt := tYes) rfl S.nd rfl rfl (sw_true rfl rfl rfl (by decide +kernel)) (pi_seq (pe_hG h__law_clicks (hr.mono (by decide)) hgd pz0 (pa_cons (pv 0) (pa_cons (pe_callB call_lenU (by rfl) n_len (by decide +kernel) (pa_cons (pv 1) pa_nil)) (pa_cons (pe_ix ix_seq (pe_lst (pa_cons pe_int (pa_cons pe_int pa_nil))) (pe_callTy call_intU (by rfl) n_int (by decide +kernel) (pa_cons (pe_cmpR (op_eqU hu) (pe_hG h__law_draw (hr.mono (by decide)) hgd pz0 (pa_cons (pv 0) (pa_cons pe_int pa_nil))) pe_int (nomark _)) pa_nil)) (fun _ _ => rfl)) pa_nil))))) (blkOk_by (N := n__law_many_right) (sc := (defScope s__law_many_right)) (by decide +kernel)) (fun _ _ _ _ _ => (pg_name (i := 6) S.nd rfl (.inl rfl))) (fun _ _ _ _ _ => pts_nil) (fun _ _ _ _ _ => (pe_ix ix_seq (pv 1) (pv 6) (fun _ _ => rfl))))
      (pss_cons (ps_asg (pe_hG h_form_of (hr.mono (by decide)) hgd pzL (pa_cons (pv 2) pa_nil)) (pg_name (i := 3) S.nd rfl (.inl rfl)))
      (pss_cons (ps_if (PW.pt (pw_or (pt_cmpR (op_neU hu) (pv 3) (pe_tup (pa_cons (pe_hG h__law_after (hr.mono (by decide)) hgd pz0 (pa_cons (pe_lst pa_nil) (pa_cons (pv 2) pa_nil))) (pa_cons (pe_hG h__law_bound (hr.mono (by decide)) hgd pz0 (pa_cons (pv 2) pa_nil)) pa_nil))) (nomark _)) (pw_or1 (pt_cmpR op_isnU (pe_hG h_is_form (hr.mono (by decide)) hgd pz0 (pa_cons (pv 3) pa_nil)) pe_bl (nomark _))))) (pss_one (ps_ret pe_bl)) pss_nil)
      (pss_cons (ps_asg (pe_hG h__law_after (hr.mono (by decide)) hgd pz0 (pa_cons (pe_lst pa_nil) (pa_cons (pe_lc (own := [("number", 6)]) (g := (gName 6)) (tt := tYes) rfl S.nd (pi_seq (pe_hG h__law_clicks (hr.mono (by decide)) hgd pz0 (pa_cons (pv 0) (pa_cons (pe_callB call_lenU (by rfl) n_len (by decide +kernel) (pa_cons (pv 1) pa_nil)) (pa_cons pe_int pa_nil))))) (blkOk_by (N := n__law_many_right) (sc := (defScope s__law_many_right)) (by decide +kernel)) (fun _ _ _ _ _ => (pg_name (i := 6) S.nd rfl (.inl rfl))) (fun _ _ _ _ _ => pts_nil) (fun _ _ _ _ _ => (pe_ix ix_seq (pv 1) (pv 6) (fun _ _ => rfl)))) pa_nil))) (pg_name (i := 4) S.nd rfl (.inl rfl)))
      (pss_one (ps_ret (pe_cmpR (op_eqU hu) (pe_hG h_formed (hr.mono (by decide)) hgd pzL (pa_cons (pv 3) (pa_cons (pv 4) pa_nil))) (pe_hG h__law_after (hr.mono (by decide)) hgd pz0 (pa_cons (pv 4) (pa_cons (pv 2) pa_nil))) (nomark _)))))))))
def t__law_alike_right (K : PySem.W.Frag) : TS := (tSeq (tAsg (tLc (iSeq K (tCallS (spD K F__law_every) Ez (tCons (tVar 0) tNil))) (gName 6) (tTest (tOp (rNeU K) (tCallS (spD K F__law_after) Ez (tCons (tVar 6) (tCons (tVar 1) tNil))) (tCallS (spD K F__law_after) Ez (tCons (tVar 6) (tCons (tVar 2) tNil))))) (tVar 6) [6]) (gName 3))
    (tSeq (tAsg (tOp (rIx K) (tOp (rAddU K) (tVar 3) (tLst (tCons (tC .non) tNil))) (tC (.int 0))) (gName 4))
    (tSeq (tAsg (tCB (rRep K) (tCons (tLst (tCons (tVar 1) (tCons (tVar 2) tNil))) tNil)) (gName 5))
    (tSeq (tIfS (tOr (tNot (tTru K (tCallS (spD K F__law_says) Ez (tCons (tCallS (spX K F_alike) Ez (tCons (tVar 1) (tCons (tVar 2) tNil))) (tCons (tOp (rEqU K) (tVar 3) (tLst tNil)) tNil))))) (tNot (tTru K (tCallS (spD K F__law_says) Ez (tCons (tCallNS 0 2 (spX K F_alike) (fun vs zs => perm [1, 0] (vs ++ zs)) Ez tNil (tCons (tVar 1) (tCons (tVar 2) tNil))) (tCons (tOp (rEqU K) (tVar 3) (tLst tNil)) tNil)))))) (tRet (tC (.bl false))) tNext)
    (tSeq (tIfS (tOr (tTest (tOp (rNeU K) (tCallS (spX K F_first_apart) Ez (tCons (tVar 1) (tCons (tVar 2) tNil))) (tVar 4))) (tTest (tOp (rNeU K) (tCallNS 0 2 (spX K F_first_apart) (fun vs zs => perm [1, 0] (vs ++ zs)) Ez tNil (tCons (tVar 1) (tCons (tVar 2) tNil))) (tVar 4)))) (tRet (tC (.bl false))) tNext)
    (tRet (tOp (rEqU K) (tCB (rRep K) (tCons (tLst (tCons (tVar 1) (tCons (tVar 2) tNil))) tNil)) (tVar 5))))))))
theorem dv__law_alike_right {P : Program} {w : World} {K : PySem.W.Frag} {mg : Str → Option Value} {base : Heap} {f : Addr} {cdv : Value} {A : Around} {outer : List Env} {s : Shared} {H : Hp} {E : XK}
    (hr : Room 5 (A.deeper (envOfC "_law_alike_right" (defScope s__law_alike_right) s.heap.objs.size f cdv)))
    (hgd : (A.deeper (envOfC "_law_alike_right" (defScope s__law_alike_right) s.heap.objs.size f cdv)).guards = some [])
    (h__law_after : HasG P w K mg base CX0 "_law_after" p__law_after 2 (spD K F__law_after))
    (h__law_every : HasG P w K mg base CX0 "_law_every" p__law_every 1 (spD K F__law_every))
    (h__law_says : HasG P w K mg base CX0 "_law_says" p__law_says 1 (spD K F__law_says))
    (h_alike : HasG P w K mg base (L2.CX P w) "alike" p_alike 5 (spX K F_alike))
    (hk_alike_0 : HasGK P w K mg base (L2.CX P w) "alike" p_alike 5 (spX K F_alike) 0 ["other", "one"] [1, 0])
    (h_first_apart : HasG P w K mg base (L2.CX P w) "first_apart" p_first_apart 5 (spX K F_first_apart))
    (hk_first_apart_0 : HasGK P w K mg base (L2.CX P w) "first_apart" p_first_apart 5 (spX K F_first_apart) 0 ["other", "one"] [1, 0])
    (n_repr : mg "repr" = none) :
    PSs (cxOf CX0 P w K mg base n__law_alike_right "_law_alike_right" (defScope s__law_alike_right) f cdv A outer s H E).nox (defBody s__law_alike_right) (t__law_alike_right K) := by
  have S := sc__law_alike_right
  have hu : (A.deeper (envOfC "_law_alike_right" (defScope s__law_alike_right) s.heap.objs.size f cdv)).units + 64 < cLine := by have := hr.un; omega
  have hv : (A.deeper (envOfC "_law_alike_right" (defScope s__law_alike_right) s.heap.objs.size f cdv)).units + 65 < cLine := by have := hr.un; omega
  exact (pss_cons (ps_setLc (i := 3) (own := [("keys", 6)]) (g := (gName 6)) (tt := (tTest (tOp (rNeU K) (tCallS (spD K F__law_after) Ez (tCons (tVar 6) (tCons (tVar 1) tNil))) (tCallS (spD K F__law_after) Ez (tCons (tVar 6) (tCons (tVar 2) tNil)))))) rfl S.nd rfl rfl (sw_true rfl rfl rfl (by decide +kernel)) (pi_seq (pe_hG h__law_every (hr.mono (by decide)) hgd pz0 (pa_cons (pv 0) pa_nil))) (blkOk_by (N := n__law_alike_right) (sc := (defScope s__law_alike_right)) (by decide +kernel)) (fun _ _ _ _ _ => (pg_name (i := 6) S.nd rfl (.inl rfl))) (fun _ _ _ _ _ => (pts_one (pt_cmpR (op_neU hu) (pe_hG h__law_after (hr.mono (by decide)) hgd pz0 (pa_cons (pv 6) (pa_cons (pv 1) pa_nil))) (pe_hG h__law_after (hr.mono (by decide)) hgd pz0 (pa_cons (pv 6) (pa_cons (pv 2) pa_nil))) (nomark _)))) (fun _ _ _ _ _ => (pv 6)))
      (pss_cons (ps_asg (pe_ix ix_seq (pe_op op_addU (pv 3) (pe_lst (pa_cons pe_non pa_nil))) pe_int (fun _ _ => rfl)) (pg_name (i := 4) S.nd rfl (.inl rfl)))
      (pss_cons (ps_asg (pe_callB (call_rep hgd hu) (by rfl) n_repr (by decide +kernel) (pa_cons (pe_lst (pa_cons (pv 1) (pa_cons (pv 2) pa_nil))) pa_nil)) (pg_name (i := 5) S.nd rfl (.inl rfl)))
      (pss_cons (ps_if (PW.pt (pw_or (pt_not (pt_tru (pe_hG h__law_says (hr.mono (by decide)) hgd pz0 (pa_cons (pe_hG h_alike (hr.mono (by decide)) hgd pzL (pa_cons (pv 1) (pa_cons (pv 2) pa_nil))) (pa_cons (pe_cmpR (op_eqU hu) (pv 3) (pe_lst pa_nil) (nomark _)) pa_nil))))) (pw_or1 (pt_not (pt_tru (pe_hG h__law_says (hr.mono (by decide)) hgd pz0 (pa_cons (pe_hGN0 hk_alike_0 (hr.mono (by decide)) hgd pzL (pk_cons (pv 1) (pk_cons (pv 2) pk_nil))) (pa_cons (pe_cmpR (op_eqU hu) (pv 3) (pe_lst pa_nil) (nomark _)) pa_nil)))))))) (pss_one (ps_ret pe_bl)) pss_nil)
      (pss_cons (ps_if (PW.pt (pw_or (pt_cmpR (op_neU hu) (pe_hG h_first_apart (hr.mono (by decide)) hgd pzL (pa_cons (pv 1) (pa_cons (pv 2) pa_nil))) (pv 4) (nomark _)) (pw_or1 (pt_cmpR (op_neU hu) (pe_hGN0 hk_first_apart_0 (hr.mono (by decide)) hgd pzL (pk_cons (pv 1) (pk_cons (pv 2) pk_nil))) (pv 4) (nomark _))))) (pss_one (ps_ret pe_bl)) pss_nil)
      (pss_one (ps_ret (pe_cmpR (op_eqU hu) (pe_callB (call_rep hgd hu) (by rfl) n_repr (by decide +kernel) (pa_cons (pe_lst (pa_cons (pv 1) (pa_cons (pv 2) pa_nil))) pa_nil)) (pv 5) (nomark _)))))))))
def t__law_right (K : PySem.W.Frag) : TS := (tSeq (tAsg (tOp (rAddU K) (tC (.int 1)) (tCallS (spD K F__law_draw) Ez (tCons (tVar 0) (tCons (tOp (rIx K) (tLst (tCons (tC (.int 3)) (tCons (tC (.int 3)) (tCons (tC (.int 3)) (tCons (tC (.int 5)) tNil))))) (tCallS (spD K F__law_draw) Ez (tCons (tVar 0) (tCons (tC (.int 4)) tNil)))) tNil)))) (gName 1))
    (tSeq (tAsg (tCallS (spD K F__law_clicks) Ez (tCons (tVar 0) (tCons (tVar 1) (tCons (tC (.int 10)) tNil)))) (gName 2))
    (tSeq (tAsg (tCallS (spD K F__law_other) Ez (tCons (tVar 0) (tCons (tVar 1) (tCons (tVar 2) tNil)))) (gName 3))
    (tSeq (tFor (iSeq K (tLst (tCons (tVar 2) (tCons (tVar 3) tNil)))) (gName 4) (tSeq (tAsg (tCB (rRep K) (tCons (tVar 4) tNil)) (gName 5))
    (tSeq (tAsg (tCallS (spX K F_form_of) Ez (tCons (tVar 4) tNil)) (gName 6))
    (tSeq (tIfS (tOr (tTest (tOp (rNeU K) (tVar 6) (tTup (tCons (tCallS (spD K F__law_after) Ez (tCons (tLst tNil) (tCons (tVar 4) tNil))) (tCons (tCallS (spD K F__law_bound) Ez (tCons (tVar 4) tNil)) tNil))))) (tNot (tTru K (tCB (rIsi K) (tCons (tOp (rIx K) (tVar 6) (tC (.int 1))) (tCons (tC (.ty "bool")) tNil)))))) (tRet (tC (.bl false))) tNext)
    (tSeq (tIfS (tOr (tTest (tOp (rNeU K) (tCallNS 0 1 (spX K F_form_of) (fun vs zs => perm [0] (vs ++ zs)) Ez tNil (tCons (tVar 4) tNil)) (tVar 6))) (tOr (tNot (tTru K (tCallS (spD K F__law_is_form_right) Ez (tCons (tVar 6) tNil)))) (tTest (tOp (rNeU K) (tCB (rRep K) (tCons (tVar 4) tNil)) (tVar 5))))) (tRet (tC (.bl false))) tNext)
    (tSeq (tAsg (tLc (iRng1 (tCons (tC (.int 12)) tNil)) (gName 10) tYes (tCallS (spD K F__law_keys) Ez (tCons (tVar 0) (tCons (tVar 1) tNil))) [10]) (gName 7))
    (tSeq (tIfS (tTest (tOp rLtU (tVar 1) (tC (.int 3)))) (tAsg (tCallS (spD K F__law_every) Ez (tCons (tVar 1) tNil)) (gName 7)) tNext)
    (tFor (iSeq K (tVar 7)) (gName 8) (tSeq (tAsg (tCallS (spX K F_formed) Ez (tCons (tVar 6) (tCons (tVar 8) tNil))) (gName 9))
    (tSeq (tIfS (tOr (tTest (tOp (rNeU K) (tVar 9) (tCallS (spD K F__law_after) Ez (tCons (tVar 8) (tCons (tVar 4) tNil))))) (tTest (tOp (rNeU K) (tCallNS 0 2 (spX K F_formed) (fun vs zs => perm [1, 0] (vs ++ zs)) Ez tNil (tCons (tVar 8) (tCons (tVar 6) tNil))) (tVar 9)))) (tRet (tC (.bl false))) tNext)
    (tSeq (tDrop (tBM K "list" (rAppend) (tVar 9) (tCons (tC .non) tNil)))
    (tIfS (tOr (tTest (tOp (rEqU K) (tCallS (spX K F_formed) Ez (tCons (tVar 6) (tCons (tVar 8) tNil))) (tVar 9))) (tTest (tOp (rNeU K) (tVar 6) (tCallS (spX K F_form_of) Ez (tCons (tVar 4) tNil))))) (tRet (tC (.bl false))) tNext))))))))))))
    (tSeq (tIfS (tAnd (tTest (tOp rLtU (tVar 1) (tC (.int 4)))) (tNot (tTru K (tCallS (spD K F__law_alike_right) Ez (tCons (tVar 1) (tCons (tVar 2) (tCons (tVar 3) tNil))))))) (tRet (tC (.bl false))) tNext)
    (tRet (tAndT K (tCallS (spD K F__law_far_right) Ez (tCons (tVar 0) tNil)) (tCallS (spD K F__law_many_right) Ez (tCons (tVar 0) tNil)))))))))
theorem dv__law_right {P : Program} {w : World} {K : PySem.W.Frag} {mg : Str → Option Value} {base : Heap} {f : Addr} {cdv : Value} {A : Around} {outer : List Env} {s : Shared} {H : Hp} {E : XK}
    (hr : Room 6 (A.deeper (envOfC "_law_right" (defScope s__law_right) s.heap.objs.size f cdv)))
    (hgd : (A.deeper (envOfC "_law_right" (defScope s__law_right) s.heap.objs.size f cdv)).guards = some [])
    (h__law_after : HasG P w K mg base CX0 "_law_after" p__law_after 2 (spD K F__law_after))
    (h__law_alike_right : HasG P w K mg base CX0 "_law_alike_right" p__law_alike_right 6 (spD K F__law_alike_right))
    (h__law_bound : HasG P w K mg base CX0 "_law_bound" p__law_bound 1 (spD K F__law_bound))
    (h__law_clicks : HasG P w K mg base CX0 "_law_clicks" p__law_clicks 2 (spD K F__law_clicks))
    (h__law_draw : HasG P w K mg base CX0 "_law_draw" p__law_draw 1 (spD K F__law_draw))
    (h__law_every : HasG P w K mg base CX0 "_law_every" p__law_every 1 (spD K F__law_every))
    (h__law_far_right : HasG P w K mg base CX0 "_law_far_right" p__law_far_right 6 (spD K F__law_far_right))
    (h__law_is_form_right : HasG P w K mg base CX0 "_law_is_form_right" p__law_is_form_right 4 (spD K F__law_is_form_right))
    (h__law_keys : HasG P w K mg base CX0 "_law_keys" p__law_keys 2 (spD K F__law_keys))
    (h__law_many_right : HasG P w K mg base CX0 "_law_many_right" p__law_many_right 5 (spD K F__law_many_right))
    (h__law_other : HasG P w K mg base CX0 "_law_other" p__law_other 3 (spD K F__law_other))
    (h_form_of : HasG P w K mg base (L2.CX P w) "form_of" p_form_of 4 (spX K F_form_of))
    (hk_form_of_0 : HasGK P w K mg base (L2.CX P w) "form_of" p_form_of 4 (spX K F_form_of) 0 ["clicks"] [0])
    (h_formed : HasG P w K mg base (L2.CX P w) "formed" p_formed 4 (spX K F_formed))
    (hk_formed_0 : HasGK P w K mg base (L2.CX P w) "formed" p_formed 4 (spX K F_formed) 0 ["sorting", "form"] [1, 0])
    (n_bool : mg "bool" = none)
    (n_isinstance : mg "isinstance" = none)
    (n_range : mg "range" = none)
    (n_repr : mg "repr" = none) :
    PSs (cxOf CX0 P w K mg base n__law_right "_law_right" (defScope s__law_right) f cdv A outer s H E).nox (defBody s__law_right) (t__law_right K) := by
  have S := sc__law_right
  have hu : (A.deeper (envOfC "_law_right" (defScope s__law_right) s.heap.objs.size f cdv)).units + 64 < cLine := by have := hr.un; omega
  have hv : (A.deeper (envOfC "_law_right" (defScope s__law_right) s.heap.objs.size f cdv)).units + 65 < cLine := by have := hr.un; omega
  exact (pss_cons (ps_asg (pe_op op_addU pe_int (pe_hG h__law_draw (hr.mono (by decide)) hgd pz0 (pa_cons (pv 0) (pa_cons (pe_ix ix_seq (pe_lst (pa_cons pe_int (pa_cons pe_int (pa_cons pe_int (pa_cons pe_int pa_nil))))) (pe_hG h__law_draw (hr.mono (by decide)) hgd pz0 (pa_cons (pv 0) (pa_cons pe_int pa_nil))) (fun _ _ => rfl)) pa_nil)))) (pg_name (i := 1) S.nd rfl (.inr rfl)))
      (pss_cons (ps_asg (pe_hG h__law_clicks (hr.mono (by decide)) hgd pz0 (pa_cons (pv 0) (pa_cons (pv 1) (pa_cons pe_int pa_nil)))) (pg_name (i := 2) S.nd rfl (.inl rfl)))
      (pss_cons (ps_asg (pe_hG h__law_other (hr.mono (by decide)) hgd pz0 (pa_cons (pv 0) (pa_cons (pv 1) (pa_cons (pv 2) pa_nil)))) (pg_name (i := 3) S.nd rfl (.inl rfl)))
      (pss_cons (ps_for PassesOwn.never rfl (pi_seq (pe_lst (pa_cons (pv 2) (pa_cons (pv 3) pa_nil)))) (pg_name (i := 4) S.nd rfl (.inl rfl)) (pss_cons (ps_asg (pe_callB (call_rep hgd hu) (by rfl) n_repr (by decide +kernel) (pa_cons (pv 4) pa_nil)) (pg_name (i := 5) S.nd rfl (.inl rfl)))
      (pss_cons (ps_asg (pe_hG h_form_of (hr.mono (by decide)) hgd pzL (pa_cons (pv 4) pa_nil)) (pg_name (i := 6) S.nd rfl (.inl rfl)))
      (pss_cons (ps_if (PW.pt (pw_or (pt_cmpR (op_neU hu) (pv 6) (pe_tup (pa_cons (pe_hG h__law_after (hr.mono (by decide)) hgd pz0 (pa_cons (pe_lst pa_nil) (pa_cons (pv 4) pa_nil))) (pa_cons (pe_hG h__law_bound (hr.mono (by decide)) hgd pz0 (pa_cons (pv 4) pa_nil)) pa_nil))) (nomark _)) (pw_or1 (pt_not (pt_tru (pe_callB call_isi (by rfl) n_isinstance (by decide +kernel) (pa_cons (pe_ix ix_seq (pv 6) pe_int (fun _ _ => rfl)) (pa_cons (pe_bltn (v := .ty "bool") (by rfl) n_bool (by decide +kernel) rfl) pa_nil)))))))) (pss_one (ps_ret pe_bl)) pss_nil)
      (pss_cons (ps_if (PW.pt (pw_or (pt_cmpR (op_neU hu) (pe_hGN0 hk_form_of_0 (hr.mono (by decide)) hgd pzL (pk_cons (pv 4) pk_nil)) (pv 6) (nomark _)) (pw_or (pt_not (pt_tru (pe_hG h__law_is_form_right (hr.mono (by decide)) hgd pz0 (pa_cons (pv 6) pa_nil)))) (pw_or1 (pt_cmpR (op_neU hu) (pe_callB (call_rep hgd hu) (by rfl) n_repr (by decide +kernel) (pa_cons (pv 4) pa_nil)) (pv 5) (nomark _)))))) (pss_one (ps_ret pe_bl)) pss_nil)
      (pss_cons (ps_setLc (i := 7) (own := [("turn", 10)]) (g := (gName 10)) (tt := tYes) rfl S.nd rfl rfl (sw_true rfl rfl rfl (by decide +kernel)) (pi_range1 (by rfl) n_range (pa_cons pe_int pa_nil)) (blkOk_by (N := n__law_right) (sc := (defScope s__law_right)) (by decide +kernel)) (fun _ _ _ _ _ => (pg_name (i := 10) S.nd rfl (.inl rfl))) (fun _ _ _ _ _ => pts_nil) (fun _ _ _ _ _ => (pe_hG h__law_keys (hr.mono (by decide)) hgd pz0 (pa_cons (pv 0) (pa_cons (pv 1) pa_nil)))))
      (pss_cons (ps_if (pt_cmpR op_ltU (pv 1) pe_int (nomark _)) (pss_one (ps_asg (pe_hG h__law_every (hr.mono (by decide)) hgd pz0 (pa_cons (pv 1) pa_nil)) (pg_name (i := 7) S.nd rfl (.inl rfl)))) pss_nil)
      (pss_one (ps_for PassesOwn.never rfl (pi_seq (pv 7)) (pg_name (i := 8) S.nd rfl (.inl rfl)) (pss_cons (ps_asg (pe_hG h_formed (hr.mono (by decide)) hgd pzL (pa_cons (pv 6) (pa_cons (pv 8) pa_nil))) (pg_name (i := 9) S.nd rfl (.inl rfl)))
      (pss_cons (ps_if (PW.pt (pw_or (pt_cmpR (op_neU hu) (pv 9) (pe_hG h__law_after (hr.mono (by decide)) hgd pz0 (pa_cons (pv 8) (pa_cons (pv 4) pa_nil))) (nomark _)) (pw_or1 (pt_cmpR (op_neU hu) (pe_hGN0 hk_formed_0 (hr.mono (by decide)) hgd pzL (pk_cons (pv 8) (pk_cons (pv 6) pk_nil))) (pv 9) (nomark _))))) (pss_one (ps_ret pe_bl)) pss_nil)
      (pss_cons (ps_expr (pe_bm PySem.F.plainAttrs_list PySem.F.slot_list_append PySem.F.type_list_append mt_append (pv 9) (pa_cons pe_non pa_nil)))
      (pss_one (ps_if (PW.pt (pw_or (pt_cmpR (op_eqU hu) (pe_hG h_formed (hr.mono (by decide)) hgd pzL (pa_cons (pv 6) (pa_cons (pv 8) pa_nil))) (pv 9) (nomark _)) (pw_or1 (pt_cmpR (op_neU hu) (pv 6) (pe_hG h_form_of (hr.mono (by decide)) hgd pzL (pa_cons (pv 4) pa_nil)) (nomark _))))) (pss_one (ps_ret pe_bl)) pss_nil))))))))))))))
      (pss_cons (ps_if (PW.pt (pw_and (pt_cmpR op_ltU (pv 1) pe_int (nomark _)) (pw_and1 (pt_not (pt_tru (pe_hG h__law_alike_right (hr.mono (by decide)) hgd pz0 (pa_cons (pv 1) (pa_cons (pv 2) (pa_cons (pv 3) pa_nil))))))))) (pss_one (ps_ret pe_bl)) pss_nil)
      (pss_one (ps_ret (pe_andT (pe_hG h__law_far_right (hr.mono (by decide)) hgd pz0 (pa_cons (pv 0) pa_nil)) (pe_one (pe_hG h__law_many_right (hr.mono (by decide)) hgd pz0 (pa_cons (pv 0) pa_nil)))))))))))
def t_law (K : PySem.W.Frag) : TS := (tSeq (tFor (iRng1 (tCons (tCB (rMaxU K) (tCons (tC (.int 1)) (tCons (tCB (rMinU K) (tCons (tC (.int 5)) (tCons (tCB (rLenU K) (tCons (tVar 0) tNil)) tNil))) tNil))) tNil)) (gName 1) (tIfS (tNot (tTru K (tCallS (spD K F__law_right) Ez (tCons (tCallS (spD K F__law_open) Ez (tCons (tVar 0) (tCons (tVar 1) tNil))) tNil)))) (tRet (tC (.bl false))) tNext))
    (tRet (tC (.bl true))))
theorem dv_law {P : Program} {w : World} {K : PySem.W.Frag} {mg : Str → Option Value} {base : Heap} {f : Addr} {cdv : Value} {A : Around} {outer : List Env} {s : Shared} {H : Hp} {E : XK}
    (hr : Room 7 (A.deeper (envOfC "law" (defScope s_law) s.heap.objs.size f cdv)))
    (hgd : (A.deeper (envOfC "law" (defScope s_law) s.heap.objs.size f cdv)).guards = some [])
    (h__law_open : HasG P w K mg base CX0 "_law_open" p__law_open 1 (spD K F__law_open))
    (h__law_right : HasG P w K mg base CX0 "_law_right" p__law_right 7 (spD K F__law_right))
    (n_len : mg "len" = none)
    (n_max : mg "max" = none)
    (n_min : mg "min" = none)
    (n_range : mg "range" = none) :
    PSs (cxOf CX0 P w K mg base n_law "law" (defScope s_law) f cdv A outer s H E).nox (defBody s_law) (t_law K) := by
  have S := sc_law
  have hu : (A.deeper (envOfC "law" (defScope s_law) s.heap.objs.size f cdv)).units + 64 < cLine := by have := hr.un; omega
  have hv : (A.deeper (envOfC "law" (defScope s_law) s.heap.objs.size f cdv)).units + 65 < cLine := by have := hr.un; omega
  exact (pss_cons (ps_for PassesOwn.never rfl (pi_range1 (by rfl) n_range (pa_cons (pe_callB (call_maxU rfl) (by rfl) n_max (by decide +kernel) (pa_cons pe_int (pa_cons (pe_callB (call_minU rfl) (by rfl) n_min (by decide +kernel) (pa_cons pe_int (pa_cons (pe_callB call_lenU (by rfl) n_len (by decide +kernel) (pa_cons (pv 0) pa_nil)) pa_nil))) pa_nil))) pa_nil)) (pg_name (i := 1) S.nd rfl (.inl rfl)) (pss_one (ps_if (pt_not (pt_tru (pe_hG h__law_right (hr.mono (by decide)) hgd pz0 (pa_cons (pe_hG h__law_open (hr.mono (by decide)) hgd pz0 (pa_cons (pv 0) (pa_cons (pv 1) pa_nil))) pa_nil)))) (pss_one (ps_ret pe_bl)) pss_nil)))
      (pss_one (ps_ret pe_bl)))
end Lw

namespace Lw
open PySem PySem.Spec PyProof.Rows L2 Pd
/-! one step of a reading -/
local macro_rules | `(tactic| walk_at "mu") => `(tactic| first | with_reducible assumption | with_reducible exact mu_end | ((with_reducible refine' mu_set ?hm2); (case hm2 => walk_at "mu")) | ((with_reducible refine' mu_app ?hm2); (case hm2 => walk_at "mu")))
local macro_rules | `(tactic| walk_at "lw") => `(tactic| first | with_reducible assumption | with_reducible exact lw_ints _ _ | with_reducible exact ln_ints _ _ | with_reducible exact LW.d _ | with_reducible exact LN.d _ | with_reducible exact TW.d2 | with_reducible exact TW.d3 | with_reducible exact TW.d4 | with_reducible exact TW.d5 | with_reducible exact TW.d1 | with_reducible exact TW.d _ | with_reducible exact TW.t _ | with_reducible exact LW.f _ | (refine' LW.m ?hmu; (case hmu => walk_at "mu")) | (refine' LN.m ?hmu; (case hmu => walk_at "mu")))
local macro_rules | `(tactic| walk_at "sz") => `(tactic| first | exact rfl | with_reducible assumption | (refine sz_ok ?_; (try simp only [List.length_map, List.length_append, List.length_cons, List.length_nil]); omega) | (refine sz_lt ?_; (try simp only [List.length_map, List.length_append, List.length_cons, List.length_nil]); omega))
local macro_rules | `(tactic| walk_at "rs") => `(tactic| first | with_reducible assumption | with_reducible exact Rs.d _ | (refine' Rs.m ?hmu (rss_ints _); (case hmu => walk_at "mu")) | (refine' Rs.f (rss_ints _)))
local macro_rules | `(tactic| walk_at "sh") => `(tactic| first | with_reducible assumption | with_reducible exact shaped_ints _ | rfl | decide)
local macro_rules | `(tactic| walk_at "x") => `(tactic| (first
  | ((with_reducible refine' ax_var ?hv ?_); (case hv => exact rfl))
  | (with_reducible refine' ax_int ?_)
  | (with_reducible refine' ax_bl ?_)
  | (with_reducible refine' ax_str ?_)
  | (with_reducible refine' ax_non ?_)
  | (with_reducible refine' ax_cV ?_)
  | (with_reducible refine' ax_op ?_)
  | (with_reducible refine' ax_un ?_)
  | (with_reducible refine' au_neg ?_)
  | (with_reducible refine' o_addI ?_)
  | (with_reducible refine' o_subI ?_)
  | (with_reducible refine' o_gtI ?_)
  | (with_reducible refine' o_ltI ?_)
  | (with_reducible refine' o_leI ?_)
  | (with_reducible refine' o_geI ?_)
  | (with_reducible refine' o_eqI ?_)
  | (with_reducible refine' o_neI ?_)
  | (with_reducible refine' o_eqB ?_)
  | (with_reducible refine' o_neB ?_)
  | ((with_reducible refine' o_eqD ?a1 ?a2 ?a3 ?a4 ?_); (case a1 => walk_at "rs"); (case a2 => walk_at "rs"); (case a3 => walk_at "sh"); (case a4 => walk_at "sh"))
  | ((with_reducible refine' o_neD ?a1 ?a2 ?a3 ?a4 ?_); (case a1 => walk_at "rs"); (case a2 => walk_at "rs"); (case a3 => walk_at "sh"); (case a4 => walk_at "sh"))
  | (with_reducible refine' o_is ?_)
  | (with_reducible refine' o_isB ?_)
  | ((with_reducible refine' o_addL ?a1 ?a2 ?a3 ?_); (case a1 => walk_at "lw"); (case a2 => walk_at "lw"); (case a3 => walk_at "sz"))
  | (with_reducible refine' aa_cons ?_)
  | (with_reducible refine' aa_nil ?_)
  | (with_reducible refine' ax_cb ?_)
  | (with_reducible refine' c_abs ?_)
  | (with_reducible refine' c_int ?_)
  | (with_reducible refine' c_max2 ?_)
  | (with_reducible refine' c_min2 ?_)
  | ((with_reducible refine' c_lenL ?a1 ?_); (case a1 => walk_at "lw"))
  | ((with_reducible refine' c_lenT ?a1 ?_); (case a1 => walk_at "lw"))
  | (with_reducible refine' ax_lst ?_)
  | (with_reducible refine' ax_tup ?_)
  | ((with_reducible refine' And.intro ?a1 ?_); (case a1 => walk_at "sz"))
  | (with_reducible refine' at_test ?_)
  | (with_reducible refine' at_truB ?_)
  | (with_reducible refine' at_and ?_)
  | (with_reducible refine' at_or ?_)
  | (with_reducible refine' at_not ?_)
  | (with_reducible refine' at_yes ?_)
  | (with_reducible refine' ax_if ?_)
  | (with_reducible refine' as_seq ?_)
  | (with_reducible refine' as_asg ?_)
  | ((with_reducible refine' ag_name ?_); dsimp only [List.set_cons_zero, List.set_cons_succ])
  | (with_reducible refine' as_ret ?_)
  | (with_reducible refine' as_if ?_)
  | (with_reducible refine' as_drop ?_)
  | (with_reducible refine' as_next ?_)
  | (with_reducible refine' as_break ?_)
  | (with_reducible refine' as_cont ?_)
  | (with_reducible refine' as_retN ?_)
  | (with_reducible refine' ax_call ?_)
  | (with_reducible refine' ax_callN ?_)
  | ((with_reducible refine' c_isi ?a1 ?a2 ?_); (case a1 => with_reducible first | exact tyw_l | exact tyw_b | exact tyw_i | exact tyw_t | exact tyw_s | exact tyw_n); (case a2 => walk_at "kb"))
  | ((with_reducible refine' c_listL ?a1 ?_); (case a1 => walk_at "lw"))
  | (with_reducible refine' ax_sl ?_)
  | (with_reducible refine' xo_no ?_)
  | (with_reducible refine' xo_some ?_)
  | (with_reducible refine' ags_nil ?_)
  | (with_reducible refine' ags_cons ?_)
  | ((with_reducible refine' ag_tup ?a1 ?a2 ?_); (case a1 => walk_at "lw"); (case a2 => rfl))
  | (with_reducible refine' ag_sub ?_)
  | ((with_reducible refine' ax_bm ?_); (with_reducible refine' ax_var ?hv ?_); (case hv => exact rfl); refine ⟨?ty, ?_⟩; (case ty => walk_at "ty"))
  | ((with_reducible refine' ax_bm0 ?_); (with_reducible refine' ax_var ?hv ?_); (case hv => exact rfl); refine ⟨?ty, ?_⟩; (case ty => walk_at "ty"))
  | (with_reducible refine' Exists.intro _ (And.intro rfl ?_))))
local macro_rules | `(tactic| walk_at "ty") => `(tactic| first | exact ⟨rfl, _, by walk_at "mu"⟩ | exact rfl)
local macro_rules | `(tactic| walk_at "xs") => `(tactic| repeat walk_at "x")
local macro_rules | `(tactic| walk_at "kb") => `(tactic| with_reducible first | exact kb_NoneType_list | exact kb_NoneType_tuple | exact kb_NoneType_bool | exact kb_NoneType_int | exact kb_NoneType_str | exact kb_bool_list | exact kb_bool_tuple | exact kb_bool_bool | exact kb_bool_int | exact kb_bool_str | exact kb_int_list | exact kb_int_tuple | exact kb_int_bool | exact kb_int_int | exact kb_int_str | exact kb_str_list | exact kb_str_tuple | exact kb_str_bool | exact kb_str_int | exact kb_str_str | exact kb_list_list | exact kb_list_tuple | exact kb_list_bool | exact kb_list_int | exact kb_list_str | exact kb_tuple_list | exact kb_tuple_tuple | exact kb_tuple_bool | exact kb_tuple_int | exact kb_tuple_str)
/-! more steps: promises, raising, repr -/
local macro_rules | `(tactic| walk_at "x") => `(tactic| (first
  | (with_reducible refine' as_dropX (axx_call ?_))
  | (with_reducible refine' as_retX (axx_call ?_))
  | (with_reducible refine' as_asgX (axx_call ?_))
  | ((with_reducible refine' as_raiseE ?hv ?_); (case hv => exact rfl))
  | (with_reducible refine' ax_g ?_)
  | (with_reducible refine' ax_gX ?_)
  | (with_reducible refine' ax_gN ?_)
  | (with_reducible refine' ax_gXN ?_)
  | ((with_reducible refine' as_augR ?hv ?_); (case hv => exact rfl))
  | (with_reducible refine' o_eqS ?_)
  | (with_reducible refine' o_neS ?_)
  | (with_reducible refine' as_par ?_)
  | (with_reducible refine' as_par3 ?_)
  | (with_reducible refine' ao_l (ao_iI ?_))))
/-- a list or tuple of data is data -/
local macro_rules | `(tactic| walk_at "d") => `(tactic| with_reducible first | refine' NL.d0 ?_ | refine' NL.d1 ?_ | refine' NL.d2 ?_ | refine' NL.d3 ?_ | refine' NL.di ?_ | refine' NT.d1 ?_ | refine' NT.d2 ?_ | refine' NT.d3 ?_ | refine' NT.d0 ?_ | refine' NT.d4 ?_ | refine' NT.d5 ?_ | refine' NT.d6 ?_ | refine' NL.d4 ?_ | refine' NL.d5 ?_ | refine' NL.d6 ?_ | refine' NL.d7 ?_ | refine' NL.dd ?_)
/-- a draw -/
local macro_rules | `(tactic| walk_at "dr") => `(tactic| (refine draw_at (by walk_at "mu") (by assumption) (by omega) (by first | decide | omega) (by first | decide | omega) ?_))
local macro_rules | `(tactic| walk_at "x") => `(tactic| (first
  | (with_reducible refine' ax_andT ?_)
  | (with_reducible refine' ax_orT ?_)
  | (with_reducible refine' ax_notT ?_)
  | (with_reducible refine' Exists.intro _ (And.intro (TrW.bl _) ?_))
  | ((with_reducible refine' ax_revT ?_))))
/-- a test whose answer is plain -/
local macro_rules | `(tactic| walk_at "if") => `(tactic| first | (refine ite_t rfl ?_) | (refine ite_f rfl ?_))
local macro_rules | `(tactic| walk_at "xi") => `(tactic| repeat (first | walk_at "x" | walk_at "if"))
local macro_rules | `(tactic| walk_at "mu") => `(tactic| with_reducible exact mu_endS)
local macro_rules | `(tactic| walk_at "x") => `(tactic| (first
  | (with_reducible refine' o_leV ?_)
  | (with_reducible refine' o_gtV ?_)
  | (with_reducible refine' o_geV ?_)
  | (with_reducible refine' o_leS ?_)
  | (with_reducible refine' o_gtS ?_)
  | (with_reducible refine' o_geS ?_)
  | (with_reducible refine' o_ltS ?_)
  | (with_reducible refine' c_intB ?_)))
local macro_rules | `(tactic| walk_at "x") => `(tactic| ((with_reducible refine' ax_bm ?_); (with_reducible refine' ax_str ?_); refine ⟨rfl, ?_⟩))
/-! tuple places, dicts -/
local macro_rules | `(tactic| walk_at "dk") => `(tactic| first | exact .inl (by walk_at "mu") | exact .inr ⟨_, _, by walk_at "mu"⟩)
local macro_rules | `(tactic| walk_at "x") => `(tactic| (first
  | ((with_reducible refine' o_ixT ?a1 ?a2 ?_); (case a1 => walk_at "lw"); (case a2 => exact rfl))
  | (with_reducible refine' ax_dnew ?_)
  | ((with_reducible refine' o_dinI ?a1 ?_); (case a1 => walk_at "dk"))
  | ((with_reducible refine' o_dnotinI ?a1 ?_); (case a1 => walk_at "dk"))))
theorem mu_at0 {μ cs : Mu} {a : Option C} : (μ ++ a :: cs)[μ.length]? = some a := by simp
theorem mu_at1 {μ cs : Mu} {a b : Option C} : (μ ++ a :: b :: cs)[μ.length + 1]? = some b := by simp
theorem mu_at2 {μ cs : Mu} {a b c : Option C} : (μ ++ a :: b :: c :: cs)[μ.length + 2]? = some c := by simp
theorem mu_at3 {μ cs : Mu} {a b c d : Option C} : (μ ++ a :: b :: c :: d :: cs)[μ.length + 3]? = some d := by simp
theorem mu_at4 {μ cs : Mu} {a b c d e : Option C} : (μ ++ a :: b :: c :: d :: e :: cs)[μ.length + 4]? = some e := by simp
theorem mu_st0 {μ cs : Mu} {a x : Option C} : (μ ++ a :: cs).set μ.length x = μ ++ x :: cs := by simp
theorem mu_st1 {μ cs : Mu} {a b x : Option C} : (μ ++ a :: b :: cs).set (μ.length + 1) x = μ ++ a :: x :: cs := by simp
theorem mu_st2 {μ cs : Mu} {a b c x : Option C} : (μ ++ a :: b :: c :: cs).set (μ.length + 2) x = μ ++ a :: b :: x :: cs := by simp
theorem mu_st3 {μ cs : Mu} {a b c d x : Option C} : (μ ++ a :: b :: c :: d :: cs).set (μ.length + 3) x = μ ++ a :: b :: c :: x :: cs := by simp
theorem mu_st4 {μ cs : Mu} {a b c d e x : Option C} : (μ ++ a :: b :: c :: d :: e :: cs).set (μ.length + 4) x = μ ++ a :: b :: c :: d :: x :: cs := by simp
local macro_rules | `(tactic| walk_at "mu") => `(tactic| with_reducible first | exact mu_at0 | exact mu_at1 | exact mu_at2 | exact mu_at3 | exact mu_at4)
theorem mlen {μ : Mu} {c : Option C} {cs : Mu} : (μ ++ c :: cs).length = μ.length + (cs.length + 1) := by simp
/-- cells in one list -/
local macro_rules | `(tactic| walk_at "nm") => `(tactic| simp only [List.append_assoc, List.cons_append, List.nil_append, mlen, List.length_cons, List.length_nil, Nat.zero_add, Nat.reduceAdd, mu_st0, mu_st1, mu_st2, mu_st3, mu_st4])
/-- the slots within a comprehension -/
local macro_rules | `(tactic| walk_at "wp") => `(tactic| simp only [wipeG, List.foldr_cons, List.foldr_nil, List.set_cons_succ, List.set_cons_zero])
local macro_rules | `(tactic| walk_at "if") => `(tactic| with_reducible first | refine ite_f ne_self ?_ | refine ite_t eq_self' ?_)
/-- steps where each list and tuple is data -/
local macro_rules | `(tactic| walk_at "xd") => `(tactic| repeat (first | walk_at "x" | walk_at "if" | walk_at "d"))
local macro_rules | `(tactic| walk_at "x") => `(tactic| ((with_reducible refine' o_ixL ?a1 ?a2 ?_); (case a1 => with_reducible exact LW.d _); (case a2 => exact rfl)))
theorem mu_at0S {μ cs : Mu} {k : Nat} {p a : Option C} : (μ.set k p ++ a :: cs)[μ.length]? = some a := by rw [List.getElem?_append_right (by simp)]; simp
theorem mu_at1S {μ cs : Mu} {k : Nat} {p a b : Option C} : (μ.set k p ++ a :: b :: cs)[μ.length + 1]? = some b := by rw [List.getElem?_append_right (by simp)]; simp
theorem mu_at2S {μ cs : Mu} {k : Nat} {p a b c : Option C} : (μ.set k p ++ a :: b :: c :: cs)[μ.length + 2]? = some c := by rw [List.getElem?_append_right (by simp)]; simp
theorem mu_st0S {μ cs : Mu} {k : Nat} {p a x : Option C} : (μ.set k p ++ a :: cs).set μ.length x = μ.set k p ++ x :: cs := by rw [List.set_append_right _ _ (by simp)]; simp
theorem mu_st1S {μ cs : Mu} {k : Nat} {p a b x : Option C} : (μ.set k p ++ a :: b :: cs).set (μ.length + 1) x = μ.set k p ++ a :: x :: cs := by rw [List.set_append_right _ _ (by simp)]; simp
theorem mu_st2S {μ cs : Mu} {k : Nat} {p a b c x : Option C} : (μ.set k p ++ a :: b :: c :: cs).set (μ.length + 2) x = μ.set k p ++ a :: b :: x :: cs := by rw [List.set_append_right _ _ (by simp)]; simp
local macro_rules | `(tactic| walk_at "mu") => `(tactic| with_reducible first | exact mu_at0S | exact mu_at1S | exact mu_at2S)
local macro_rules | `(tactic| walk_at "nm") => `(tactic| simp only [List.append_assoc, List.cons_append, List.nil_append, mlen, List.length_cons, List.length_nil, Nat.zero_add, Nat.reduceAdd, mu_st0, mu_st1, mu_st2, mu_st3, mu_st4, mu_st0S, mu_st1S, mu_st2S])
/-- the end of a plain element -/
local macro_rules | `(tactic| walk_at "e") => `(tactic| first | exact rfl | exact ⟨rfl, rfl⟩)
theorem mu_same {μ : Mu} {k : Nat} {p : Option C} (h : μ[k]? = some p) : μ.set k p = μ := by
  apply List.ext_getElem?
  intro i
  rw [List.getElem?_set]
  split
  · rename_i z
    subst z
    rw [if_pos (List.getElem?_eq_some_iff.mp h).1, h]
  · rfl
theorem p18 : (10 : Int) ^ (18 : Int).toNat = 1000000000000000000 := by decide +kernel
theorem p27 : (10 : Int) ^ (27 : Int).toNat = 1000000000000000000000000000 := by decide +kernel
theorem p28 : (10 : Int) ^ (28 : Int).toNat = 10000000000000000000000000000 := by decide +kernel
theorem p29 : (10 : Int) ^ (29 : Int).toNat = 100000000000000000000000000000 := by decide +kernel
theorem p30 : (10 : Int) ^ (30 : Int).toNat = 1000000000000000000000000000000 := by decide +kernel
theorem p20 : (10 : Int) ^ (20 : Int).toNat = 100000000000000000000 := by decide +kernel
theorem p6 : (10 : Int) ^ (6 : Int).toNat = 1000000 := by decide +kernel
theorem ten_ok {j : Int} (h0 : 0 ≤ j) (h1 : j ≤ 1000) : COp 10 j := pow_ok (a := 4) h0 (by decide) (by omega)
theorem mul_r {i j : Int} (h : -(2 ^ 64) < j ∧ j < 2 ^ 64) : CMul i j := .inr h
theorem mul_l {i j : Int} (h : -(2 ^ 64) < i ∧ i < 2 ^ 64) : CMul i j := .inl h
theorem div_ok {i j : Int} (h : 0 < j) (hb : j < 2 ^ 200) : CDivW i j := wide_div (b := 200) h (by omega) (by decide) (by decide)
open M03 (Kys Fm clk aft lone frm made hasF OkK fa lastC fnd lay grow shK)
theorem lw_dKs {μ : Mu} (S : Kys) : LW μ (.d (dKs S)) (S.map fun k => W.d (dK k)) := by
  have h : LW μ (.d (dKs S)) ((S.map dK).map W.d) := LW.d _
  rw [List.map_map] at h
  exact h
theorem ln_dKs {μ : Mu} (S : Kys) : LN μ (.d (dKs S)) (S.map fun k => W.d (dK k)) := by
  have h : LN μ (.d (dKs S)) ((S.map dK).map W.d) := LN.d _
  rw [List.map_map] at h
  exact h
theorem kdK (S : Kys) : (S.map fun k => W.d (dK k)) = (S.map dK).map W.d := by rw [List.map_map]; rfl
theorem eqb_dK (k : Int × Int) : Eqb (dK k) 1 := ((eqb_int _).cons_ ((eqb_int _).cons_ Eqbs.nil)).tup
theorem eqb_dKs (S : Kys) : Eqb (dKs S) 2 := (Eqbs.of fun d hd => by
  obtain ⟨k, _, rfl⟩ := List.mem_map.mp hd
  exact eqb_dK k).lst
theorem dK_inj {a b : Int × Int} (h : dK a = dK b) : a = b := by
  obtain ⟨a1, a2⟩ := a
  obtain ⟨b1, b2⟩ := b
  simp [dK] at h
  rw [h.1, h.2]
theorem dKs_inj {S T : Kys} : dKs S = dKs T ↔ S = T := by
  refine ⟨fun h => ?_, fun h => by rw [h]⟩
  have h : S.map dK = T.map dK := by
    unfold dKs at h
    exact PyData.list.inj h
  exact (List.map_inj_right fun _ _ z => dK_inj z).mp h
theorem eqv_dFm (f g : Fm) : PyData.eqv (dFm f) (dFm g) = decide (f = g) := by
  obtain ⟨S, a⟩ := f
  obtain ⟨T, b⟩ := g
  have h := eqv_pl (dKs S) (dKs T) (eqb_dKs S).1 (eqb_dKs T).1
  rw [dKs_inj] at h
  rw [Bool.eq_iff_iff, decide_eq_true_iff]
  simp only [dFm, PyData.eqv, PyData.eqvAll, Bool.and_eq_true, h, Prod.mk.injEq]
  simp
theorem sh_dFm (f : Fm) : SeqAt.shaped (dFm f) = true := by
  have h1 := (eqb_dKs f.1).2.1
  have h2 := (eqb_dKs f.1).2.2
  unfold SeqAt.shaped
  have e : (dFm f).canLay0 = true := by simp [dFm, PyData.canLay0, PyData.canLayAll0, h1]
  have d : (dFm f).depth ≤ 64 := by
    simp only [dFm, PyData.depth, PyData.depthAll]
    omega
  rw [e, decide_eq_true d]
  rfl
section
variable {K : PySem.W.Frag} {μ : Mu} {R : W → Mu → Prop}
theorem o_eqFm {f g : Fm} (k : R (.d (.bool (decide (f = g)))) μ) : AO K (rEqU K) (.d (dFm f)) (.d (dFm g)) μ R := o_eqD (.d _) (.d _) (sh_dFm f) (sh_dFm g) (by rw [eqv_dFm]; exact k)
theorem o_neFm {f g : Fm} (k : R (.d (.bool (!decide (f = g)))) μ) : AO K (rNeU K) (.d (dFm f)) (.d (dFm g)) μ R := o_neD (.d _) (.d _) (sh_dFm f) (sh_dFm g) (by rw [eqv_dFm]; exact k)
theorem o_eqKs {S T : Kys} {x y : W} (hx : Rs μ x (dKs S)) (hy : Rs μ y (dKs T)) (k : R (.d (.bool (decide (S = T)))) μ) : AO K (rEqU K) x y μ R := o_eqP hx hy (eqb_dKs S) (eqb_dKs T) (by decide) (by decide) fun b hb => by
  have e : b = decide (S = T) := by rw [Bool.eq_iff_iff, decide_eq_true_iff, hb, dKs_inj]
  rw [e]
  exact k
theorem o_neKs {S T : Kys} {x y : W} (hx : Rs μ x (dKs S)) (hy : Rs μ y (dKs T)) (k : R (.d (.bool (!decide (S = T)))) μ) : AO K (rNeU K) x y μ R := o_neP hx hy (eqb_dKs S) (eqb_dKs T) (by decide) (by decide) fun b hb => by
  have e : b = decide (S = T) := by rw [Bool.eq_iff_iff, decide_eq_true_iff, hb, dKs_inj]
  rw [e]
  exact k
end
theorem nd_len {α : Type} [DecidableEq α] : ∀ {ks m : List α}, ks.Nodup → (∀ k ∈ ks, k ∈ m) → ks.length ≤ m.length
  | [], _, _, _ => Nat.zero_le _
  | k :: ks, m, hn, h => by
    rw [List.nodup_cons] at hn
    have hk := h k (by simp)
    have := nd_len (m := m.erase k) hn.2 fun x hx => (List.mem_erase_of_ne fun z => hn.1 (by rw [← z]; exact hx)).mpr (h x (by simp [hx]))
    rw [List.length_erase_of_mem hk] at this
    have := List.length_pos_of_mem hk
    rw [List.length_cons]
    omega
theorem nd_of_len : ∀ {ds ns : List Int}, ds.Nodup → (∀ y ∈ ds, y ∈ ns) → ns.length ≤ ds.length → ns.Nodup
  | [], ns, _, _, h => by
    have : ns = [] := List.length_eq_zero_iff.mp (by simpa using h)
    subst this
    exact List.nodup_nil
  | d :: ds, ns, hd, hm, hl => by
    rw [List.nodup_cons] at hd
    have hk := hm d (by simp)
    have hp := List.length_pos_of_mem hk
    have sub : ∀ y ∈ ds, y ∈ ns.erase d := fun y hy => (List.mem_erase_of_ne fun z => hd.1 (by rw [← z]; exact hy)).mpr (hm y (by simp [hy]))
    have el := List.length_erase_of_mem hk
    rw [List.length_cons] at hl
    have ih := nd_of_len hd.2 sub (by omega)
    have hn : d ∉ ns.erase d := fun z => by
      have sub2 : ∀ y ∈ ds, y ∈ (ns.erase d).erase d := fun y hy => (List.mem_erase_of_ne fun z => hd.1 (by rw [← z]; exact hy)).mpr (sub y hy)
      have := nd_len hd.2 sub2
      rw [List.length_erase_of_mem z] at this
      have := List.length_pos_of_mem z
      omega
    exact (List.perm_cons_erase hk).nodup_iff.mpr (List.nodup_cons.mpr ⟨hn, ih⟩)
theorem atI_0 {α : Type} (x : α) (xs : List α) : atI (x :: xs) 0 = some x := by
  unfold atI ixN
  simp
def pfc (c : Int) (x : Int × Int) : Bool := !decide (x.1 = c)
theorem clk_nil (c : Int) : clk [] c = [(c, 1)] := rfl
theorem clk_yes {k1 k2 c : Int} {r : Kys} (h : k1 = c) : clk ((k1, k2) :: r) c = (c, -k2) :: r := by
  unfold M03.clk
  dsimp only
  rw [if_pos h]
theorem clk_no {k1 k2 c : Int} {r : Kys} (h : ¬ k1 = c) : clk ((k1, k2) :: r) c = (c, 1) :: ((k1, k2) :: r).filter (pfc c) := by
  unfold M03.clk
  dsimp only
  rw [if_neg h]
  exact congrArg _ (List.filter_congr fun x _ => by unfold pfc; by_cases h : x.1 = c <;> simp [h])
theorem rs_mKs {μ : Mu} {S : Kys} {k : Nat} (h : μ[k]? = some (mKs S)) : Rs μ (.m k) (dKs S) := by
  refine .m h ?_
  rw [kdK]
  exact Rss.ds _
theorem rd_are_keys {K : PySem.W.Frag} : ∀ ws μ R, F_are_keys ws μ R → AS K (t_are_keys K) { nx := fun _ μ' => R (.d .none) μ', rt := R } (stG n_are_keys ws) μ := by
  rintro ws μ R ⟨S, rfl, hl, q⟩
  show AS K _ _ [some (.d (dKs S)), none, none, none] μ
  unfold t_are_keys
  walk_at "xs"
  refine ax_lcI (fun k : Int × Int => W.d (dK k)) S (fun k => k.1) (sz_ok (by omega)) (wk_tup (wks_cons (by decide) (wks_cons (by decide) wks_nil))) (ai_l (ai_list ?_)) ?_ ?_
  · walk_at "xs"
    exact ⟨_, lw_dKs S, rfl, lw_dKs S, rfl⟩
  · rintro ⟨c, s⟩ hm
    show AG K _ (W.d (.tuple [.int c, .int s])) _ _ _
    walk_at "wp"
    walk_at "xs"
    walk_at "e"
  · walk_at "d"
    walk_at "xs"
    refine ax_lenSet ?_
    walk_at "xs"
    refine ⟨_, lw_ints _ _, by simpa using by omega, fun ds d1 d2 => ?_⟩
    walk_at "xs"
    have el : (wInts (S.map fun k => k.1)).length = (S.map fun k => k.1).length := by simp
    rw [el]
    by_cases hn : (S.map fun k => k.1).Nodup
    · have e : ds.length = (S.map fun k => k.1).length := ((List.perm_ext_iff_of_nodup d1 hn).mpr d2).length_eq
      rw [e]
      walk_at "xi"
      refine ax_lcB (fun k : Int × Int => W.d (dK k)) S (fun k => decide (0 ≤ k.1 ∧ (k.2 = 1 ∨ k.2 = -1))) (sz_ok (by omega)) (wk_tup (wks_cons (by decide) (wks_cons (by decide) wks_nil))) (ai_l (ai_list ?_)) ?_ ?_
      · walk_at "xs"
        exact ⟨_, lw_dKs S, rfl, lw_dKs S, rfl⟩
      · rintro ⟨c, s⟩ hm
        show AG K _ (W.d (.tuple [.int c, .int s])) _ _ _
        walk_at "wp"
        walk_at "xs"
        refine ite_b (fun h => ?_) fun h => ?_
        · have h := of_decide_eq_true h
          walk_at "xs"
          walk_at "d"
          refine o_inT (ns := [1, -1]) (TW.d _) ?_
          refine ⟨?_, rfl⟩
          have e : decide (s ∈ [(1 : Int), -1]) = decide (0 ≤ c ∧ (s = 1 ∨ s = -1)) := decide_eq_decide.mpr (by simp; omega)
          exact congrArg (fun b => W.d (.bool b)) e
        · refine ⟨?_, rfl⟩
          have h := of_decide_eq_false h
          exact congrArg (fun b => W.d (.bool b)) (decide_eq_decide.mpr (by omega))
      · walk_at "xs"
        refine c_allB ?_
        have e3 : (S.map fun k => decide (0 ≤ k.1 ∧ (k.2 = 1 ∨ k.2 = -1))).all id = decide (OkK S) := by
          rw [Bool.eq_iff_iff, decide_eq_true_iff, List.all_map, List.all_eq_true]
          exact ⟨fun z => ⟨hn, fun k hk => of_decide_eq_true (z k hk)⟩, fun z k hk => decide_eq_true (z.2 k hk)⟩
        rw [e3]
        exact q
    · rw [decide_eq_false (fun z : OkK S => hn z.1)] at q
      refine ite_t ?_ ?_
      · rw [Bool.not_eq_true', decide_eq_false_iff_not]
        intro z
        exact hn (nd_of_len d1 (fun y hy => (d2 y).mp hy) (by omega))
      · walk_at "xs"
        exact q
theorem rd_after_click {K : PySem.W.Frag} : ∀ ws μ R, F_after_click ws μ R → AS K (t_after_click K) { nx := fun _ μ' => R (.d .none) μ', rt := R } (stG n_after_click ws) μ := by
  rintro ws μ R ⟨S, c, rfl, hl, q⟩
  show AS K _ _ [some (.d (dKs S)), some (.d (.int c)), none] μ
  have rest : (clk S c = (c, 1) :: S.filter (pfc c)) → AS K (tRet (tLst (tCons (tTup (tCons (tVar 1) (tCons (tC (.int 1)) tNil))) (StX.tStar K (tLc (iSeq K (tVar 0)) (gName 2) (tTest (tOp (rNeU K) (tOp (rIx K) (tVar 2) (tC (.int 0))) (tVar 1))) (tVar 2) [2]) tNil)))) { nx := fun _ μ' => R (.d .none) μ', rt := R } [some (.d (dKs S)), some (.d (.int c)), none] μ := by
    intro e
    rw [e] at q
    walk_at "xs"
    walk_at "d"
    refine aa_starL ?_
    refine ax_lcF (fun k : Int × Int => W.d (dK k)) S (pfc c) (fun k => W.d (dK k)) (sz_ok (by omega)) (wk_name (by decide)) (ai_l (ai_list ?_)) ?_ ?_
    · walk_at "xs"
      exact ⟨_, lw_dKs S, rfl, lw_dKs S, rfl⟩
    · rintro ⟨k1, k2⟩ hm
      show AG K _ (W.d (.tuple [.int k1, .int k2])) _ _ _
      walk_at "wp"
      walk_at "xs"
      intro _
      walk_at "xs"
      walk_at "e"
    · rw [kdK]
      refine NL.d (xs := (S.filter (pfc c)).map dK) ⟨_, LW.d _, ?_⟩ rfl
      walk_at "xs"
      have hf := List.length_filter_le (pfc c) S
      refine ⟨sz_ok (by simp only [List.length_append, List.length_cons, List.length_nil, List.length_map]; omega), ?_⟩
      exact NL.d (xs := ((c, 1) :: S.filter (pfc c)).map dK) q (by simp [dK])
  unfold t_after_click
  walk_at "xd"
  refine o_neKs (S := S) (T := []) (.d _) (.d _) ?_
  cases S with
  | nil =>
    refine ⟨_, rfl, ite_f rfl (ite_f rfl (as_next ?_))⟩
    exact rest rfl
  | cons k r =>
    obtain ⟨k1, k2⟩ := k
    refine ⟨_, rfl, ite_t rfl ?_⟩
    walk_at "xs"
    refine o_ixL (lw_dKs ((k1, k2) :: r)) (z := W.d (.tuple [.int k1, .int k2])) (atI_0 _ _) ?_
    walk_at "xs"
    refine ite_b (fun h => ?_) fun h => ?_
    · have h := of_decide_eq_true h
      rw [clk_yes h] at q
      walk_at "xs"
      refine o_ixL (lw_dKs ((k1, k2) :: r)) (z := W.d (.tuple [.int k1, .int k2])) (atI_0 _ _) ?_
      walk_at "xs"
      walk_at "d"
      refine aa_starL ?_
      walk_at "xs"
      refine o_slL (lw_dKs ((k1, k2) :: r)) ?_
      rw [List.map_cons, cut_tail1, kdK]
      refine NL.d (xs := r.map dK) ⟨_, LW.d _, ?_⟩ rfl
      walk_at "xs"
      rw [List.length_cons] at hl
      refine ⟨sz_ok (by simp only [List.length_append, List.length_cons, List.length_nil, List.length_map]; omega), ?_⟩
      exact NL.d (xs := ((c, -k2) :: r).map dK) q (by simp [dK])
    · refine as_next ?_
      exact rest (clk_no (of_decide_eq_false h))
theorem rd_need_keys {K : PySem.W.Frag} (xk : L2.XK) : ∀ ws μ R S, F_need_keys ws μ R S → AS K (t_need_keys K fun c d _ H => xk c d H) (xD R S xk) (stG n_need_keys ws) μ := by
  rintro ws μ R S' ⟨S, rfl, hS, hl, q⟩
  show AS K _ _ [some (.d (dKs S))] μ
  unfold t_need_keys
  walk_at "xs"
  refine ⟨S, rfl, hl, ?_⟩
  rw [decide_eq_true hS]
  walk_at "xi"
  exact q
theorem rd_after_clicks {K : PySem.W.Frag} : ∀ ws μ R, F_after_clicks ws μ R → AS K (t_after_clicks K) { nx := fun _ μ' => R (.d .none) μ', rt := R } (stG n_after_clicks ws) μ := by
  rintro ws μ R ⟨S, cs, rfl, hl, q⟩
  show AS K _ _ [some (.d (dKs S)), some (.d (dInts cs)), none, none] μ
  unfold t_after_clicks
  walk_at "xs"
  refine c_listL (lw_dKs S) ?_
  rw [kdK]
  refine NL.d (xs := S.map dK) ?_ rfl
  walk_at "xs"
  refine as_for (fun c : Int => W.d (.int c)) cs (fun pre Γ' μ' => ∃ z, Γ' = [some (.d (dKs S)), some (.d (dInts cs)), some (.d (dKs (aft S pre))), z] ∧ μ' = μ) (ai_l (ai_list ?_)) ?_ ?_
  · walk_at "xs"
    exact ⟨_, lw_ints _ _, rfl, fun _ _ _ _ => lw_ints _ _, none, rfl, rfl⟩
  · rintro pre c post Γ' μ' e ⟨z, rfl, rfl⟩
    walk_at "xs"
    refine ⟨aft S pre, c, rfl, ?_, ?_⟩
    · have h1 := M03.aft_len S pre
      have h2 : pre.length ≤ cs.length := by rw [e]; simp
      omega
    · walk_at "xs"
      exact ⟨_, by rw [M03.aft_snoc], rfl⟩
  · rintro Γ' μ' ⟨z, rfl, rfl⟩
    walk_at "xs"
    exact q
theorem rd_has_form {K : PySem.W.Frag} : ∀ ws μ R, F_has_form ws μ R → AS K (t_has_form K) { nx := fun _ μ' => R (.d .none) μ', rt := R } (stG n_has_form ws) μ := by
  rintro ws μ R ⟨f, rfl, hl, q⟩
  show AS K _ _ [some (.d (.tuple [dKs f.1, .bool f.2])), none, none] μ
  rw [M03.hasF_eq] at q
  unfold t_has_form
  walk_at "xs"
  refine ⟨f.1, rfl, hl, ?_⟩
  by_cases h : OkK f.1
  · rw [if_pos h] at q
    rw [decide_eq_true h]
    walk_at "xi"
    walk_at "d"
    refine o_neKs (S := f.1) (T := []) (.d _) (.d _) ?_
    walk_at "xs"
    refine ite_b (fun h1 => ?_) fun h1 => ?_
    · rw [h1]
      rw [if_pos (of_decide_eq_true h1)] at q
      exact q
    · rw [if_neg (of_decide_eq_false h1)] at q
      walk_at "xs"
      refine c_lenL (lw_dKs f.1) ?_
      walk_at "xs"
      rw [List.length_map]
      exact q
  · rw [if_neg h] at q
    rw [decide_eq_false h]
    walk_at "xi"
    exact q
theorem rd_need_form {K : PySem.W.Frag} (xk : L2.XK) : ∀ ws μ R S, F_need_form ws μ R S → AS K (t_need_form K fun c d _ H => xk c d H) (xD R S xk) (stG n_need_form ws) μ := by
  rintro ws μ R S' ⟨f, rfl, hl, hf, q⟩
  show AS K _ _ [some (.d (dFm f))] μ
  unfold t_need_form
  walk_at "xs"
  refine ⟨f, rfl, hl, ?_⟩
  rw [hf]
  walk_at "xi"
  exact q
theorem rd_columns_of {K : PySem.W.Frag} : ∀ ws μ R, F_columns_of ws μ R → AS K (t_columns_of K) { nx := fun _ μ' => R (.d .none) μ', rt := R } (stG n_columns_of ws) μ := by
  rintro ws μ R ⟨S, rfl, hl, q⟩
  show AS K _ _ [some (.d (dKs S)), none, none] μ
  unfold t_columns_of
  walk_at "xs"
  refine ax_lcI (fun k : Int × Int => W.d (dK k)) S (fun k => k.1) (sz_ok (by omega)) (wk_tup (wks_cons (by decide) (wks_cons (by decide) wks_nil))) (ai_l (ai_list ?_)) ?_ ?_
  · walk_at "xs"
    exact ⟨_, lw_dKs S, rfl, lw_dKs S, rfl⟩
  · rintro ⟨c, s⟩ hm
    show AG K _ (W.d (.tuple [.int c, .int s])) _ _ _
    walk_at "wp"
    walk_at "xs"
    walk_at "e"
  · walk_at "d"
    walk_at "xs"
    exact q
theorem wI_drop (cs : List Int) (a : Nat) : (wInts cs).drop a = wInts (cs.drop a) := by simp only [wInts, List.map_drop]
theorem wI_take (cs : List Int) (a : Nat) : (wInts cs).take a = wInts (cs.take a) := by simp only [wInts, List.map_take]
theorem wI_len (cs : List Int) : (wInts cs).length = cs.length := by simp [wInts]
theorem wI_at {cs : List Int} {i : Nat} (h : i < cs.length) : atI (wInts cs) (i : Int) = some (.d (.int (cs.getD i 0))) := by
  refine atI_get ?_
  rw [wInts, List.getElem?_map, List.getElem?_eq_getElem h, List.getD_eq_getElem?_getD, List.getElem?_eq_getElem h]
  rfl
theorem wI_at0 {cs : List Int} (h : cs ≠ []) : atI (wInts cs) 0 = some (.d (.int (cs.getD 0 0))) := wI_at (i := 0) (List.length_pos_iff.mpr h)
theorem rd_is_left_alone {K : PySem.W.Frag} : ∀ ws μ R, F_is_left_alone ws μ R → AS K (t_is_left_alone K) { nx := fun _ μ' => R (.d .none) μ', rt := R } (stG n_is_left_alone ws) μ := by
  rintro ws μ R ⟨cs, rfl, hl, q⟩
  show AS K _ _ [some (.d (dInts cs)), none] μ
  have rest : ∀ (a : Nat) (μ' : Mu), μ' = μ → (∀ i, i < a → cs.getD i 0 = cs.getD 0 0) → (a = cs.length ∨ cs.getD a 0 ≠ cs.getD 0 0) → AS K (tRet (tAndT K (tOp (rNeU K) (tVar 0) (tLst tNil)) (tOp (rInU K true) (tOp (rIx K) (tVar 0) (tC (.int 0))) (tSl (rSlU K) (tVar 0) (tPart (tVar 1)) tNoPart)))) { nx := fun _ μ' => R (.d .none) μ', rt := R } [some (.d (dInts cs)), some (.d (.int a))] μ' := by
    rintro a _ rfl h2 h3
    walk_at "xd"
    rw [eqv_nil]
    by_cases hn : cs = []
    · rw [decide_eq_true hn]
      rw [M03.lone_not fun z => z.1 hn] at q
      refine ite_f rfl ?_
      exact q
    · rw [decide_eq_false hn]
      refine ite_t rfl ?_
      walk_at "xs"
      refine o_ixL (lw_ints _ _) (wI_at0 hn) ?_
      walk_at "xs"
      refine o_slL (lw_ints _ _) ?_
      rw [cut_dropN, wI_drop]
      walk_at "d"
      refine o_inL (ns := cs.drop a) (lw_ints _ _) ?_
      have e : (if true = true then !decide (cs.getD 0 0 ∈ cs.drop a) else decide (cs.getD 0 0 ∈ cs.drop a)) = lone cs := by
        have := M03.lone_stop hn h2 h3
        rw [if_pos rfl, Bool.eq_iff_iff, M03.lone_iff, this]
        simp
      rw [e]
      exact q
  unfold t_is_left_alone
  walk_at "xs"
  refine as_while (fun m Γ' μ' => ∃ a : Nat, Γ' = [some (.d (dInts cs)), some (.d (.int a))] ∧ μ' = μ ∧ a ≤ cs.length ∧ (∀ i, i < a → cs.getD i 0 = cs.getD 0 0) ∧ m = cs.length - a) _ ⟨0, rfl, rfl, by omega, fun i h => by omega, rfl⟩ ?_
  rintro m Γ' μ' ⟨a, rfl, rfl, h1, h2, rfl⟩
  walk_at "xs"
  rw [wI_len]
  refine ite_b (fun h => ?_) fun h => ?_
  · have h := of_decide_eq_true h
    have ha : a < cs.length := by omega
    have hn : cs ≠ [] := fun z => by rw [z] at ha; cases ha
    walk_at "xs"
    refine o_ixL (lw_ints _ _) (wI_at ha) ?_
    walk_at "xs"
    refine o_ixL (lw_ints _ _) (wI_at0 hn) ?_
    walk_at "xs"
    refine ite_b (fun h3 => ?_) fun h3 => ?_
    · have h3 := of_decide_eq_true h3
      walk_at "xs"
      refine ⟨cs.length - (a + 1), by omega, a + 1, rfl, rfl, by omega, fun i hi => ?_, rfl⟩
      by_cases z : i = a
      · rw [z]; exact h3
      · exact h2 i (by omega)
    · exact rest a _ rfl h2 (.inr (of_decide_eq_false h3))
  · have h := of_decide_eq_false h
    refine ite_f rfl ?_
    exact rest a _ rfl h2 (.inl (by omega))
theorem rd_made_form {K : PySem.W.Frag} : ∀ ws μ R, F_made_form ws μ R → AS K (t_made_form K) { nx := fun _ μ' => R (.d .none) μ', rt := R } (stG n_made_form ws) μ := by
  rintro ws μ R ⟨cs, rfl, hl, q⟩
  show AS K _ _ [some (.d (dInts cs))] μ
  unfold t_made_form
  walk_at "xd"
  refine ⟨[], cs, rfl, by simp; omega, ?_⟩
  walk_at "xs"
  refine ⟨cs, rfl, hl, ?_⟩
  walk_at "xd"
  exact q
theorem rd_form_of {K : PySem.W.Frag} (xk : L2.XK) : ∀ ws μ R S, F_form_of ws μ R S → AS K (t_form_of K fun c d _ H => xk c d H) (xD R S xk) (stG n_form_of ws) μ := by
  rintro ws μ R S' ⟨cs, rfl, hp, hl, q⟩
  show AS K _ _ [some (.d (dInts cs)), none] μ
  unfold t_form_of
  walk_at "xs"
  refine as_for (fun c : Int => W.d (.int c)) cs (fun pre Γ' μ' => ∃ z, Γ' = [some (.d (dInts cs)), z] ∧ μ' = μ) (ai_l (ai_list ?_)) ?_ ?_
  · walk_at "xs"
    exact ⟨_, lw_ints _ _, rfl, fun _ _ _ _ => lw_ints _ _, none, rfl, rfl⟩
  · rintro pre c post Γ' μ' e ⟨z, rfl, rfl⟩
    have hc := hp c (by rw [e]; simp)
    walk_at "xs"
    refine ite_f (decide_eq_false (by omega)) ?_
    refine as_next ?_
    exact ⟨_, rfl, rfl⟩
  · rintro Γ' μ' ⟨z, rfl, rfl⟩
    walk_at "xs"
    refine ⟨cs, rfl, hl, ?_⟩
    exact q
theorem rd_is_form {K : PySem.W.Frag} : ∀ ws μ R, F_is_form ws μ R → AS K (t_is_form K) { nx := fun _ μ' => R (.d .none) μ', rt := R } (stG n_is_form ws) μ := by
  rintro ws μ R ⟨f, rfl, hl, q⟩
  show AS K _ _ [some (.d (dFm f))] μ
  unfold t_is_form
  walk_at "xs"
  exact ⟨f, rfl, hl, q⟩
theorem lw_dKsL {μ : Mu} (B : Kys) (k : Int × Int) : LW μ (.d (dKs (B ++ [k]))) ((B.map fun k => W.d (dK k)) ++ [W.d (dK k)]) := by
  have h := lw_dKs (μ := μ) (B ++ [k])
  rw [List.map_append] at h
  exact h
theorem rd_made_of {K : PySem.W.Frag} : ∀ ws μ R, F_made_of ws μ R → AS K (t_made_of K) { nx := fun _ μ' => R (.d .none) μ', rt := R } (stG n_made_of ws) μ := by
  rintro ws μ R ⟨⟨Q, b⟩, S, rfl, hne, hl, hS, q⟩
  have hne : b = true → Q ≠ [] := hne
  have hl : Q.length ≤ 900 := hl
  show AS K _ _ [some (.d (.tuple [dKs Q, .bool b])), some (.d (dKs S)), none, none, none, none] μ
  have rest : (M03.made (Q, b) S = Q ++ S.filter (M03.pfn Q)) → AS K (tRet (tOp (rAddU K) (tVar 2) (tVar 4))) { nx := fun _ μ' => R (.d .none) μ', rt := R } [some (.d (.tuple [dKs Q, .bool b])), some (.d (dKs S)), some (.d (dKs Q)), some (.d (.bool b)), some (.d (dKs (S.filter (M03.pfn Q)))), none] μ := by
    intro e
    rw [e] at q
    have hf := List.length_filter_le (M03.pfn Q) S
    walk_at "xs"
    refine o_addL (ln_dKs _) (ln_dKs _) (sz_ok (by simp only [List.length_map]; omega)) ?_
    refine NL.m ?_
    rw [← List.map_append]
    exact q
  unfold t_made_of
  walk_at "xs"
  refine ax_lcF (fun k : Int × Int => W.d (dK k)) S (M03.pfn Q) (fun k => W.d (dK k)) (sz_ok (by omega)) (wk_name (by decide)) (ai_l (ai_list ?_)) ?_ ?_
  · walk_at "xs"
    exact ⟨_, lw_dKs S, rfl, lw_dKs S, rfl⟩
  · rintro ⟨k1, k2⟩ hm
    show AG K _ (W.d (.tuple [.int k1, .int k2])) _ _ _
    walk_at "wp"
    walk_at "xs"
    refine ⟨Q, rfl, by omega, ?_⟩
    walk_at "xs"
    refine o_inL (ns := Q.map (·.1)) (lw_ints _ _) ?_
    refine ⟨_, rfl, rfl, rfl, fun _ => ?_⟩
    walk_at "xs"
    walk_at "e"
  · rw [kdK]
    refine NL.d (xs := (S.filter (M03.pfn Q)).map dK) ?_ rfl
    walk_at "xs"
    cases b with
    | false =>
      refine ite_f rfl ?_
      refine as_next ?_
      exact rest (M03.made_no (by simp))
    | true =>
      obtain ⟨B, s, hB, _, _⟩ := M03.split_last (hne rfl)
      generalize hlc : M03.lastC Q = l at hB
      subst hB
      refine ite_t rfl ?_
      walk_at "xd"
      refine o_neKs (S := S) (T := []) (.d _) (.d _) ?_
      cases S with
      | nil =>
        refine ⟨_, rfl, ite_f rfl (ite_f rfl (as_next ?_))⟩
        exact rest (M03.made_no (by simp))
      | cons k r =>
        obtain ⟨k1, k2⟩ := k
        refine ⟨_, rfl, ite_t rfl ?_⟩
        walk_at "xs"
        refine o_ixL (lw_dKs ((k1, k2) :: r)) (z := W.d (.tuple [.int k1, .int k2])) (atI_0 _ _) ?_
        walk_at "xs"
        refine o_ixL (lw_dKsL B (l, s)) (z := W.d (.tuple [.int l, .int s])) (L2.atI_last _ _) ?_
        walk_at "xs"
        walk_at "d"
        refine o_eqP (.d _) (.d _) (eqb_dK (k1, k2)) (eqb_dK (l, 1)) (by decide) (by decide) fun b hb => ?_
        walk_at "xs"
        cases b with
        | false =>
          refine ite_f rfl ?_
          refine as_next ?_
          refine rest (M03.made_no ?_)
          rintro ⟨_, _, z⟩
          rw [hlc] at z
          have z : (k1, k2) = (l, (1 : Int)) := Option.some.inj z
          exact absurd (hb.mpr (congrArg dK z)) (by decide)
        | true =>
          have z : (k1, k2) = (l, (1 : Int)) := dK_inj (hb.mp rfl)
          rw [M03.made_yes (by rw [z]; rfl)] at q
          refine ite_t rfl ?_
          walk_at "xs"
          refine o_slL (lw_dKsL B (l, s)) ?_
          rw [show (-1 : Int) = -1 from rfl, cut_init, kdK]
          refine NL.d (xs := B.map dK) ?_ rfl
          walk_at "xs"
          refine o_ixL (lw_dKsL B (l, s)) (z := W.d (.tuple [.int l, .int s])) (L2.atI_last _ _) ?_
          walk_at "xs"
          refine o_ixL (lw_dKsL B (l, s)) (z := W.d (.tuple [.int l, .int s])) (L2.atI_last _ _) ?_
          walk_at "xs"
          walk_at "d"
          walk_at "xs"
          walk_at "d"
          rw [List.length_append, List.length_singleton] at hl
          refine o_addL (LN.d _) (LN.d _) (sz_ok (by simp only [List.length_map, List.length_singleton]; omega)) ?_
          refine NL.d (xs := (B ++ [(l, -s)]).map dK) ?_ (by simp [dK])
          walk_at "xs"
          have hf := List.length_filter_le (M03.pfn (B ++ [(l, s)])) ((k1, k2) :: r)
          refine o_addL (ln_dKs (B ++ [(l, -s)])) (ln_dKs _) (sz_ok (by simp only [List.length_map, List.length_append, List.length_singleton]; omega)) ?_
          refine NL.m ?_
          rw [← List.map_append]
          exact q
theorem rd_formed {K : PySem.W.Frag} (xk : L2.XK) : ∀ ws μ R S, F_formed ws μ R S → AS K (t_formed K fun c d _ H => xk c d H) (xD R S xk) (stG n_formed ws) μ := by
  rintro ws μ R S' ⟨f, S, rfl, hf, hl, hS, hSl, q⟩
  show AS K _ _ [some (.d (dFm f)), some (.d (dKs S))] μ
  unfold t_formed
  walk_at "xs"
  refine ⟨f, rfl, hl, hf, ?_⟩
  walk_at "xs"
  refine ⟨S, rfl, hS, hSl, ?_⟩
  walk_at "xs"
  exact ⟨f, S, rfl, M03.hasF_ne hf, by omega, by omega, q⟩
theorem rd_alike {K : PySem.W.Frag} (xk : L2.XK) : ∀ ws μ R S, F_alike ws μ R S → AS K (t_alike K fun c d _ H => xk c d H) (xD R S xk) (stG n_alike ws) μ := by
  rintro ws μ R S' ⟨cs, ds, rfl, hc, hd, hl, hm, q⟩
  show AS K _ _ [some (.d (dInts cs)), some (.d (dInts ds))] μ
  unfold t_alike
  walk_at "xs"
  refine ⟨cs, rfl, hc, hl, ?_⟩
  walk_at "xs"
  refine ⟨ds, rfl, hd, hm, ?_⟩
  refine o_eqFm ?_
  exact q
theorem tw_dFm (f : Fm) : TW (.d (dFm f)) [W.d (dKs f.1), W.d (.bool f.2)] := TW.d2
theorem rd_first_apart {K : PySem.W.Frag} (xk : L2.XK) : ∀ ws μ R S, F_first_apart ws μ R S → AS K (t_first_apart K fun c d _ H => xk c d H) (xD R S xk) (stG n_first_apart ws) μ := by
  rintro ws μ R S' ⟨cs, ds, rfl, hc, hd, hl, hm, q⟩
  show AS K _ _ [some (.d (dInts cs)), some (.d (dInts ds)), none, none] μ
  have gf := M03.frm_good hc
  have gg := M03.frm_good hd
  unfold t_first_apart
  walk_at "xs"
  refine ⟨cs, rfl, hc, hl, ?_⟩
  walk_at "xs"
  refine ⟨ds, rfl, hd, hm, ?_⟩
  generalize frm cs = f at q gf
  generalize frm ds = g at q gg
  walk_at "xs"
  refine ⟨_, _, rfl, ?_⟩
  simp only [List.set_cons_zero, List.set_cons_succ]
  walk_at "xs"
  refine o_eqFm ?_
  walk_at "xs"
  by_cases e : f = g
  · rw [show fa f g = none by unfold M03.fa; rw [if_pos e]] at q
    refine ite_t (decide_eq_true e) ?_
    walk_at "xs"
    exact q
  · refine ite_f (decide_eq_false e) ?_
    refine as_next ?_
    walk_at "xs"
    refine o_ixT (tw_dFm f) (atI_0 _ _) ?_
    walk_at "xs"
    refine o_ixT (tw_dFm g) (atI_0 _ _) ?_
    refine o_neKs (.d _) (.d _) ?_
    walk_at "xs"
    by_cases e1 : f.1 = g.1
    · rw [show fa f g = some [(lastC f.1, 1)] by unfold M03.fa; rw [if_neg e, if_neg (by simpa using e1)]] at q
      have hn : f.1 ≠ [] := fun z => by
        refine e (Prod.ext e1 ?_)
        have z2 : g.1 = [] := by rw [← e1, z]
        cases hf : f.2 with
        | true => exact absurd z (gf.ne hf)
        | false =>
          cases hg : g.2 with
          | true => exact absurd z2 (gg.ne hg)
          | false => rfl
      obtain ⟨B, s, hB, _, _⟩ := M03.split_last hn
      refine ite_f (by rw [decide_eq_true e1]; rfl) ?_
      refine as_next ?_
      walk_at "xs"
      refine o_ixT (tw_dFm f) (atI_0 _ _) ?_
      walk_at "xs"
      generalize lastC f.1 = l at hB q
      rw [hB]
      refine o_ixL (lw_dKsL B (l, s)) (z := W.d (.tuple [.int l, .int s])) (L2.atI_last _ _) ?_
      walk_at "xd"
      exact q
    · rw [show fa f g = some [] by unfold M03.fa; rw [if_neg e, if_pos e1]] at q
      refine ite_t (by rw [decide_eq_false e1]; rfl) ?_
      walk_at "xd"
      exact q
theorem pot_ok {a b c : Int} {n : Nat} (h0 : 0 ≤ a) (h1 : 0 ≤ b) (h2 : b < 2 ^ 200) (h3 : 0 ≤ c) (h4 : c ≤ n) : PotOk n (some (.lst (wInts [a, b, c]))) := ⟨a, b, c, rfl, h0, h1, h2, h3, h4⟩
theorem p39 : (10 : Int) ^ (39 : Int).toNat = 1000000000000000000000000000000000000000 := by decide +kernel
theorem rng_split {n : Nat} {pre post : List Nat} {x : Nat} (h : List.range n = pre ++ x :: post) : x = pre.length ∧ x < n := by
  have e : (List.range n)[pre.length]? = some x := by rw [h]; simp
  have l := congrArg List.length h
  simp at l
  rw [List.getElem?_range (by omega)] at e
  have e' := Option.some.inj e
  exact ⟨e'.symm, by omega⟩
theorem rd__law_open {K : PySem.W.Frag} : ∀ ws μ R, F__law_open ws μ R → AS K (t__law_open K) { nx := fun _ μ' => R (.d .none) μ', rt := R } (stG n__law_open ws) μ := by
  rintro ws μ R ⟨ns, k, rfl, k0, k1, q⟩
  show AS K (t__law_open K) _ [some (.f (wInts ns)), some (.d (.int k)), none, none] μ
  unfold t__law_open
  refine as_seq ?_
  refine as_asg ?_
  refine ax_int ?_
  refine ag_name ?_
  simp only [List.set_cons_zero, List.set_cons_succ]
  refine as_cut (fun Γ' m => ∃ c, Γ' = [some (.f (wInts ns)), some (.d (.int k)), some (.d (.int c)), none] ∧ m = μ) ?_ ?_
  · walk_at "xs"
    refine ite_b (fun h => ?_) (fun h => ?_)
    · walk_at "xs"
      have hk : k.toNat < ns.length := by
        have := of_decide_eq_true h
        simp at this
        omega
      have hx : ns[k.toNat]? = some ns[k.toNat] := List.getElem?_eq_getElem hk
      have e := atI_get hx
      rw [show ((k.toNat : Nat) : Int) = k by omega] at e
      refine o_ixL (LW.f _) (atI_int e) ?_
      walk_at "xs"
      exact rfl
    · walk_at "xs"
      exact rfl
  · rintro Γ' μ0 ⟨c, rfl, rfl⟩
    walk_at "xs"
    refine o_mulI (mul_l (by decide)) ?_
    walk_at "xs"
    refine o_powI (ten_ok (by decide) (by decide)) ?_
    rw [p39]
    walk_at "xs"
    refine o_modI (by decide) ?_
    walk_at "xs"
    refine o_mulI (mul_l (by decide)) ?_
    walk_at "xs"
    refine o_powI (ten_ok (by decide) (by decide)) ?_
    walk_at "xs"
    refine NL.m ?_
    generalize 2 * (if c < 0 then -c else c) + (if decide (c < 0) = true then (1 : Int) else 0) = y
    have h1 := Int.emod_nonneg y (show (1000000000000000000000000000000000000000 + 3 : Int) ≠ 0 by decide)
    have h2 := Int.emod_lt_of_pos y (show (0 : Int) < 1000000000000000000000000000000000000000 + 3 by decide)
    exact q _ (pot_ok (c := 0) (by omega) (by omega) (by omega) (by decide) (by decide))
theorem rd__law_draw {K : PySem.W.Frag} : ∀ ws μ R, F__law_draw ws μ R → AS K (t__law_draw K) { nx := fun _ μ' => R (.d .none) μ', rt := R } (stG n__law_draw ws) μ := by
  rintro ws μ R ⟨k, many, p, n, rfl, hk, ⟨a, b, c, rfl, a0, b0, b1, c0, c1⟩, n1, m0, m1, q⟩
  show AS K (t__law_draw K) _ [some (.m k), some (.d (.int many)), none, none] μ
  unfold t__law_draw
  have g0 : LW μ (.m k) (wInts [a, b, c]) := .m hk
  walk_at "xs"
  refine o_ixL g0 (atI_int (x := a) rfl) ?_
  walk_at "xs"
  refine ite_b (fun h => ?_) (fun h => ?_)
  · have ha : 0 < a := of_decide_eq_true h
    walk_at "xs"
    refine o_ixL g0 (atI_int (x := a) rfl) ?_
    walk_at "xs"
    refine o_modI m0 ?_
    walk_at "xs"
    refine o_ixL g0 (atI_int (x := a) rfl) ?_
    walk_at "xs"
    refine o_divI (div_ok m0 m1) ?_
    walk_at "xs"
    refine aset_L (j := 0) hk rfl ?_
    walk_at "xs"
    exact q _ _ (Int.emod_nonneg _ (by omega)) (Int.emod_lt_of_pos _ m0) (pot_ok (Int.ediv_nonneg a0 (by omega)) b0 b1 c0 (by omega))
  · refine as_next ?_
    walk_at "xs"
    refine o_ixL g0 (atI_int (x := c) rfl) ?_
    walk_at "xs"
    refine aset_L (j := 2) hk rfl ?_
    have ej : (some (C.lst ((wInts [a, b, c]).set 2 (W.d (PyData.int (c + 1)))))) = some (C.lst (wInts [a, b, c + 1])) := rfl
    rw [ej]
    have hk2 : (μ.set k (some (C.lst (wInts [a, b, c + 1]))))[k]? = some (some (C.lst (wInts [a, b, c + 1]))) := mu_set hk
    have g2 : LW (μ.set k (some (C.lst (wInts [a, b, c + 1])))) (.m k) (wInts [a, b, c + 1]) := .m hk2
    walk_at "xs"
    refine o_ixL g2 (atI_int (x := b) rfl) ?_
    walk_at "xs"
    refine o_ixL g2 (atI_int (x := c + 1) rfl) ?_
    refine o_mulI (mul_l (by decide)) ?_
    walk_at "xs"
    refine o_mulI (mul_r (by omega)) ?_
    walk_at "xs"
    refine o_ixL g2 (atI_int (x := c + 1) rfl) ?_
    refine o_mulI (mul_l (by decide)) ?_
    walk_at "xs"
    refine o_ixL g2 (atI_int (x := c + 1) rfl) ?_
    refine o_mulI (mul_r (by omega)) ?_
    walk_at "xs"
    refine o_modI (by decide) ?_
    generalize b * (48611 + 2 * (c + 1)) + 104729 * (c + 1) * (c + 1) = z
    have h1 := Int.emod_nonneg z (show (1000000000000000003 : Int) ≠ 0 by decide)
    have h2 := Int.emod_lt_of_pos z (show (0 : Int) < 1000000000000000003 by decide)
    generalize z % (1000000000000000003 : Int) = z2 at *
    walk_at "xs"
    refine o_mulI (mul_r (by omega)) ?_
    walk_at "xs"
    refine o_ixL g2 (atI_int (x := c + 1) rfl) ?_
    refine o_mulI (mul_l (by decide)) ?_
    walk_at "xs"
    refine o_ixL g2 (atI_int (x := b) rfl) ?_
    walk_at "xs"
    refine o_modI (by decide) ?_
    generalize z2 * z2 + 611953 * (c + 1) + b = y
    have h3 := Int.emod_nonneg y (show (2305843009213693951 : Int) ≠ 0 by decide)
    have h4 := Int.emod_lt_of_pos y (show (0 : Int) < 2305843009213693951 by decide)
    generalize y % (2305843009213693951 : Int) = y2 at *
    walk_at "xs"
    refine o_mulI (mul_r (by omega)) ?_
    walk_at "xs"
    refine o_mulI (mul_r (by omega)) ?_
    walk_at "xs"
    refine o_ixL g2 (atI_int (x := c + 1) rfl) ?_
    refine o_mulI (mul_l (by decide)) ?_
    walk_at "xs"
    refine o_modI (by decide) ?_
    walk_at "xs"
    refine o_divI (div_ok (by decide) (by decide)) ?_
    walk_at "xs"
    refine o_modI m0 ?_
    exact q _ _ (Int.emod_nonneg _ (by omega)) (Int.emod_lt_of_pos _ m0) (pot_ok a0 b0 b1 (by omega) (by omega))
theorem rd__law_clicks {K : PySem.W.Frag} : ∀ ws μ R, F__law_clicks ws μ R → AS K (t__law_clicks K) { nx := fun _ μ' => R (.d .none) μ', rt := R } (stG n__law_clicks ws) μ := by
  rintro ws μ R ⟨k, p, n, w, m, rfl, hk, hp, hn, hw1, hw, hm, q⟩
  refine as_fz ?_
  show AS K _ _ [some (.m k), some (.d (.int w)), some (.d (.int m)), none, none, none] μ
  unfold t__law_clicks
  walk_at "xs"
  refine NL.m ?_
  walk_at "xs"
  refine as_forD (fun (i : Nat) => W.d (.int (0 + i))) (ai_rng1 ?_)
  walk_at "xs"
  walk_at "dr"
  intro r p1 a1 b1 hp1
  rw [mu_setApp hk]
  walk_at "xs"
  refine ⟨by omega, List.range r.toNat, fun pre Γ' μ' => ∃ z4 z5 cs p', Γ' = [some (.m k), some (.d (.int w)), some (.d (.int m)), some (.m μ.length), z4, z5] ∧ μ' = μ.set k p' ++ [some (.lst (wInts cs))] ∧ cs.length = pre.length ∧ (∀ c ∈ cs, 0 ≤ c ∧ c < (w : Int)) ∧ PotOk (n + 1 + 2 * pre.length) p', rfl, fun _ _ _ _ => trivial, ⟨_, _, [], p1, rfl, rfl, rfl, (fun _ z => by cases z), hp1⟩, ?_, ?_⟩
  · rintro pre i post Γ' μ' e ⟨z4, z5, cs, p', rfl, rfl, f1, f2, f3⟩
    obtain ⟨e1, e2⟩ := rng_split e
    walk_at "xs"
    walk_at "dr"
    intro r2 p2 a2 b2 hp2
    rw [mu_setK hk]
    have f2' : ∀ c ∈ cs ++ [r2], 0 ≤ c ∧ c < (w : Int) := fun c hc => by
      rcases List.mem_append.mp hc with hc | hc
      · exact f2 c hc
      · rw [List.mem_singleton.mp hc]
        exact ⟨a2, b2⟩
    refine ag_name ?_
    simp only [List.set_cons_zero, List.set_cons_succ]
    refine as_cut (fun Γ' μ' => ∃ z4 c p', Γ' = [some (.m k), some (.d (.int w)), some (.d (.int m)), some (.m μ.length), z4, some (.d (.int c))] ∧ μ' = μ.set k p' ++ [some (.lst (wInts cs))] ∧ (0 ≤ c ∧ c < (w : Int)) ∧ PotOk (n + 1 + 2 * pre.length + 2) p') ?_ ?_
    · walk_at "xd"
      rw [show PyData.eqv (.list (cs.map PyData.int)) (.list []) = decide (cs = []) from eqv_nil cs]
      by_cases hne : cs = []
      · rw [decide_eq_true hne]
        refine ite_f rfl (ite_f rfl (as_next ?_))
        exact ⟨_, _, _, rfl, rfl, ⟨a2, b2⟩, hp2.le (by omega)⟩
      · rw [decide_eq_false hne]
        refine ite_t rfl ?_
        walk_at "xs"
        walk_at "dr"
        intro r3 p3 a3 b3 hp3
        rw [mu_setK hk]
        walk_at "xs"
        refine ite_b (fun _ => ?_) fun _ => ?_
        · obtain ⟨ds, d, rfl⟩ : ∃ ds d, cs = ds ++ [d] := ⟨cs.dropLast, cs.getLast hne, (List.dropLast_concat_getLast hne).symm⟩
          walk_at "xs"
          refine o_ixL (ws := wInts ds ++ [W.d (.int d)]) (LW.m (by rw [mu_at0S]; simp [wInts])) (L2.atI_last _ _) ?_
          walk_at "xs"
          exact ⟨_, _, _, rfl, rfl, f2 d (by simp), hp3.le (by omega)⟩
        · walk_at "xs"
          exact ⟨_, _, _, rfl, rfl, ⟨a2, b2⟩, hp3.le (by omega)⟩
    · rintro Γ' μ' ⟨z4, c, p', rfl, rfl, hc, hp'⟩
      walk_at "xs"
      refine am_append mu_at0S (sz_lt (by simp; omega)) ?_
      walk_at "nm"
      refine ⟨_, _, cs ++ [c], p', rfl, by simp [wInts], by simp; omega, fun x hx => ?_, hp'.le (by simp; omega)⟩
      rcases List.mem_append.mp hx with hx | hx
      · exact f2 x hx
      · rw [List.mem_singleton.mp hx]
        exact hc
  · rintro Γ' μ' ⟨z4, z5, cs, p', rfl, rfl, f1, f2, f3⟩
    rw [List.length_range] at f1 f3
    walk_at "xs"
    refine ⟨_, _, .list (cs.map PyData.int), rfl, by simp, Keeps.pot f3, .m (Nat.le_refl _) mu_at0S (by rw [ints_d]; exact Rns.ds _), q cs p' (by omega) f2 (f3.le (by omega))⟩
theorem rd__law_click {K : PySem.W.Frag} : ∀ ws μ R, F__law_click ws μ R → AS K (t__law_click K) { nx := fun _ μ' => R (.d .none) μ', rt := R } (stG n__law_click ws) μ := by
  rintro ws μ R ⟨S, c, rfl, hl, q⟩
  show AS K _ _ [some (.d (dKs S)), some (.d (.int c)), none] μ
  have rest : (clk S c = (c, 1) :: S.filter (pfc c)) → AS K (tRet (tOp (rAddU K) (tLst (tCons (tTup (tCons (tVar 1) (tCons (tC (.int 1)) tNil))) tNil)) (tLc (iSeq K (tVar 0)) (gName 2) (tTest (tOp (rNeU K) (tOp (rIx K) (tVar 2) (tC (.int 0))) (tVar 1))) (tVar 2) [2]))) { nx := fun _ μ' => R (.d .none) μ', rt := R } [some (.d (dKs S)), some (.d (.int c)), none] μ := by
    intro e
    rw [e] at q
    walk_at "xd"
    refine ax_lcF (fun k : Int × Int => W.d (dK k)) S (pfc c) (fun k => W.d (dK k)) (sz_ok (by omega)) (wk_name (by decide)) (ai_l (ai_list ?_)) ?_ ?_
    · walk_at "xs"
      exact ⟨_, lw_dKs S, rfl, lw_dKs S, rfl⟩
    · rintro ⟨k1, k2⟩ hm
      show AG K _ (W.d (.tuple [.int k1, .int k2])) _ _ _
      walk_at "wp"
      walk_at "xs"
      intro _
      walk_at "xs"
      walk_at "e"
    · rw [kdK]
      refine NL.d (xs := (S.filter (pfc c)).map dK) ?_ rfl
      have hf := List.length_filter_le (pfc c) S
      refine o_addL (LN.d _) (LN.d _) (sz_ok (by simp only [List.length_cons, List.length_nil, List.length_map]; omega)) ?_
      refine NL.d (xs := ((c, 1) :: S.filter (pfc c)).map dK) ?_ (by simp [dK])
      walk_at "xs"
      exact q
  unfold t__law_click
  walk_at "xd"
  refine o_neKs (S := S) (T := []) (.d _) (.d _) ?_
  cases S with
  | nil =>
    refine ⟨_, rfl, ite_f rfl (ite_f rfl (as_next ?_))⟩
    exact rest rfl
  | cons k r =>
    obtain ⟨k1, k2⟩ := k
    refine ⟨_, rfl, ite_t rfl ?_⟩
    walk_at "xs"
    refine o_ixL (lw_dKs ((k1, k2) :: r)) (z := W.d (.tuple [.int k1, .int k2])) (atI_0 _ _) ?_
    walk_at "xs"
    refine ite_b (fun h => ?_) fun h => ?_
    · have h := of_decide_eq_true h
      rw [clk_yes h] at q
      walk_at "xs"
      refine o_ixL (lw_dKs ((k1, k2) :: r)) (z := W.d (.tuple [.int k1, .int k2])) (atI_0 _ _) ?_
      walk_at "xd"
      refine o_slL (lw_dKs ((k1, k2) :: r)) ?_
      rw [List.map_cons, cut_tail1, kdK]
      rw [List.length_cons] at hl
      refine NL.d (xs := r.map dK) ?_ rfl
      refine o_addL (LN.d _) (LN.d _) (sz_ok (by simp only [List.length_cons, List.length_nil, List.length_map]; omega)) ?_
      refine NL.d (xs := ((c, -k2) :: r).map dK) ?_ (by simp [dK])
      walk_at "xs"
      exact q
    · refine as_next ?_
      exact rest (clk_no (of_decide_eq_false h))
theorem rd__law_after {K : PySem.W.Frag} : ∀ ws μ R, F__law_after ws μ R → AS K (t__law_after K) { nx := fun _ μ' => R (.d .none) μ', rt := R } (stG n__law_after ws) μ := by
  rintro ws μ R ⟨S, cs, rfl, hl, q⟩
  show AS K _ _ [some (.d (dKs S)), some (.d (dInts cs)), none] μ
  unfold t__law_after
  walk_at "xs"
  refine as_for (fun c : Int => W.d (.int c)) cs (fun pre Γ' μ' => ∃ z, Γ' = [some (.d (dKs (aft S pre))), some (.d (dInts cs)), z] ∧ μ' = μ) (ai_l (ai_list ?_)) ?_ ?_
  · walk_at "xs"
    exact ⟨_, lw_ints _ _, rfl, fun _ _ _ _ => lw_ints _ _, none, rfl, rfl⟩
  · rintro pre c post Γ' μ' e ⟨z, rfl, rfl⟩
    walk_at "xs"
    refine ⟨aft S pre, c, rfl, ?_, ?_⟩
    · have h1 := M03.aft_len S pre
      have h2 : pre.length ≤ cs.length := by rw [e]; simp
      omega
    · walk_at "xs"
      exact ⟨_, by rw [M03.aft_snoc], rfl⟩
  · rintro Γ' μ' ⟨z, rfl, rfl⟩
    walk_at "xs"
    exact q
theorem not_mem_er : ∀ {l : List Nat} {j : Nat}, l.Nodup → (h : j < l.length) → l[j] ∉ l.eraseIdx j
  | [], _, _, h => by cases h
  | x :: l, 0, hn, _ => (List.nodup_cons.mp hn).1
  | x :: l, j + 1, hn, h => by
    have h' : j < l.length := by simpa using h
    rw [List.nodup_cons] at hn
    rw [List.eraseIdx_cons_succ, List.getElem_cons_succ, List.mem_cons]
    rintro (z | z)
    · exact hn.1 (by rw [← z]; exact List.getElem_mem h')
    · exact not_mem_er hn.2 h' z
abbrev wNat (ns : List Nat) : List Int := ns.map fun (n : Nat) => (n : Int)
theorem rd__law_keys {K : PySem.W.Frag} : ∀ ws μ R, F__law_keys ws μ R → AS K (t__law_keys K) { nx := fun _ μ' => R (.d .none) μ', rt := R } (stG n__law_keys ws) μ := by
  rintro ws μ R ⟨k, p, n, w, rfl, hk, hp, hn, hw, q⟩
  refine as_fz ?_
  show AS K _ _ [some (.m k), some (.d (.int w)), none, none, none] μ
  unfold t__law_keys
  walk_at "xs"
  refine ax_listRg1 ?_
  walk_at "xs"
  refine ⟨by omega, NL.m ?_⟩
  walk_at "xs"
  refine NL.m ?_
  walk_at "nm"
  walk_at "xs"
  refine as_forD (fun (i : Nat) => W.d (.int (0 + i))) (ai_rng1 ?_)
  walk_at "xs"
  walk_at "dr"
  intro r p1 a1 b1 hp1
  rw [mu_setApp hk]
  walk_at "xs"
  refine ⟨by omega, List.range r.toNat, fun pre Γ' μ' => ∃ z4 S lf p', Γ' = [some (.m k), some (.d (.int w)), some (.m μ.length), some (.m (μ.length + 1)), z4] ∧ μ' = μ.set k p' ++ [some (.lst (wInts (wNat lf))), mKs S] ∧ OkK S ∧ (∀ x ∈ S, x.1 < (w : Int)) ∧ S.length = pre.length ∧ lf.length + pre.length = w ∧ lf.Nodup ∧ (∀ c ∈ lf, c < w ∧ (c : Int) ∉ S.map (·.1)) ∧ PotOk (n + 1 + 2 * pre.length) p', rfl, fun _ _ _ _ => trivial, ?_, ?_, ?_⟩
  · refine ⟨_, [], List.range w, p1, rfl, ?_, M03.ok_nil, (fun _ h => by cases h), rfl, by simp, List.nodup_range, fun c hc => ⟨List.mem_range.mp hc, by simp⟩, hp1⟩
    have e : rgI 0 (w : Int) = wNat (List.range w) := by
      unfold rgI
      rw [show ((w : Int) - 0).toNat = w by omega]
      exact List.map_congr_left fun i _ => by simp
    rw [e]
    rfl
  · rintro pre i post Γ' μ' e ⟨z4, S, lf, p', rfl, rfl, f1, f0, f2, f3, f4, f5, f6⟩
    obtain ⟨e1, e2⟩ := rng_split e
    have hlf : 0 < lf.length := by
      have : r.toNat ≤ w := by omega
      omega
    walk_at "xs"
    have hl2 : (wInts (wNat lf)).length = lf.length := by simp [wInts, wNat]
    rw [hl2]
    walk_at "dr"
    intro r2 p2 a2 b2 hp2
    rw [mu_setK hk]
    walk_at "xs"
    obtain ⟨j, hj⟩ : ∃ j : Nat, r2 = j := ⟨r2.toNat, by omega⟩
    subst hj
    have hjl : j < lf.length := by omega
    refine am_r (am_popAt (i := (j : Int)) (j := j) (w := .d (.int (lf[j] : Nat))) mu_at0S (by omega) (by rw [seqIndex_of (by omega) (by rw [hl2]; omega)]; rfl) (by simp [wInts, wNat, hjl]) ?_)
    walk_at "nm"
    have ee : (wInts (wNat lf)).eraseIdx j = wInts (wNat (lf.eraseIdx j)) := by simp only [wInts, wNat, List.eraseIdx_eq_take_drop_succ, List.map_append, List.map_take, List.map_drop]
    rw [ee]
    walk_at "xd"
    walk_at "dr"
    intro r3 p3 a3 b3 hp3
    rw [mu_setK hk]
    obtain ⟨s, hs, hs1⟩ : ∃ s : Int, atI (List.map W.d [PyData.int 1, .int (-1)]) r3 = some (.d (.int s)) ∧ (s = 1 ∨ s = -1) := by
      have : r3 = 0 ∨ r3 = 1 := by omega
      rcases this with rfl | rfl
      · exact ⟨1, rfl, .inl rfl⟩
      · exact ⟨-1, rfl, .inr rfl⟩
    refine o_ixL (.d _) hs ?_
    walk_at "xd"
    refine am_append mu_at1S (sz_lt (by simp; omega)) ?_
    walk_at "nm"
    refine ⟨_, S ++ [((lf[j] : Int), s)], lf.eraseIdx j, p3, rfl, by simp [dK], ?_, ?_, by simp; omega, by simp [List.length_eraseIdx, hjl]; omega, f4.sublist (List.eraseIdx_sublist _ _), ?_, hp3.le (by simp; omega)⟩
    · refine ⟨?_, fun x hx => ?_⟩
      · rw [List.map_append, List.nodup_append]
        refine ⟨f1.1, by simp, fun a ha b hb z => ?_⟩
        have hb' : b = (lf[j] : Int) := by simpa using hb
        subst hb'
        subst z
        exact (f5 _ (List.getElem_mem hjl)).2 ha
      · rcases List.mem_append.mp hx with hx | hx
        · exact f1.2 x hx
        · rw [List.mem_singleton.mp hx]
          exact ⟨Int.natCast_nonneg _, hs1⟩
    · intro x hx
      rcases List.mem_append.mp hx with hx | hx
      · exact f0 x hx
      · rw [List.mem_singleton.mp hx]
        have := (f5 _ (List.getElem_mem hjl)).1
        show (lf[j] : Int) < w
        omega
    · intro c hc
      have hc2 := List.mem_of_mem_eraseIdx hc
      refine ⟨(f5 c hc2).1, fun z => ?_⟩
      rw [List.map_append] at z
      rcases List.mem_append.mp z with z | z
      · exact (f5 c hc2).2 z
      · have z : (c : Int) = (lf[j] : Int) := by simpa using z
        have z : c = lf[j] := by omega
        subst z
        exact absurd hc (not_mem_er f4 hjl)
  · rintro Γ' μ' ⟨z4, S, lf, p', rfl, rfl, f1, f0, f2, f3, f4, f5, f6⟩
    rw [List.length_range] at f2 f6
    walk_at "xs"
    refine ⟨_, _, dKs S, rfl, by simp, Keeps.pot f6, .m (by omega) mu_at1S (by rw [kdK]; exact Rns.ds _), q S p' f1 f0 (by omega) (f6.le (by omega))⟩
abbrev g1 (S : Kys) (c : Nat) : List Kys := [S ++ [((c : Int), -1)], S ++ [((c : Int), 1)]]
abbrev fr (w : Nat) (S : Kys) : List Nat := (List.range w).filter fun (c : Nat) => decide ((c : Int) ∉ S.map (·.1))
theorem grow_snoc (w : Nat) (Y : List Kys) (S : Kys) : grow w (Y ++ [S]) = grow w Y ++ (fr w S).flatMap (g1 S) := by
  unfold M03.grow
  rw [List.flatMap_append, List.flatMap_cons, List.flatMap_nil, List.append_nil]
theorem kdKs (Y : List Kys) : (Y.map fun S => W.d (dKs S)) = (Y.map dKs).map W.d := by rw [List.map_map]; rfl
theorem fr_len (w : Nat) (S : Kys) : (fr w S).length ≤ w := by
  have h : (fr w S).length ≤ (List.range w).length := List.length_filter_le _ _
  rwa [List.length_range] at h
theorem fm_len {S : Kys} : ∀ cs : List Nat, (cs.flatMap (g1 S)).length = 2 * cs.length
  | [] => rfl
  | c :: cs => by
    rw [List.flatMap_cons, List.length_append, fm_len cs]
    simp
    omega
theorem grow_len (w : Nat) : ∀ Y : List Kys, (grow w Y).length ≤ 2 * w * Y.length
  | [] => Nat.zero_le _
  | S :: Y => by
    have h := grow_len w Y
    have h2 := fr_len w S
    have h3 := fm_len (S := S) (fr w S)
    unfold M03.grow at h ⊢
    rw [List.flatMap_cons, List.length_append, List.length_cons, Nat.mul_succ]
    have e : (((List.range w).filter fun (c : Nat) => decide ((c : Int) ∉ S.map (·.1))).flatMap fun (c : Nat) => [S ++ [((c : Int), -1)], S ++ [((c : Int), 1)]]).length ≤ 2 * w := by
      show ((fr w S).flatMap (g1 S)).length ≤ 2 * w
      omega
    omega
theorem rd__law_every {K : PySem.W.Frag} : ∀ ws μ R, F__law_every ws μ R → AS K (t__law_every K) { nx := fun _ μ' => R (.d .none) μ', rt := R } (stG n__law_every ws) μ := by
  rintro ws μ R ⟨w, rfl, hw1, hw3, q⟩
  have hw := M03.w3 hw1 hw3
  have t4 : ∀ t, t ≤ w → t ∈ [0, 1, 2, 3] := fun t ht => by
    have : t = 0 ∨ t = 1 ∨ t = 2 ∨ t = 3 := by omega
    rcases this with rfl | rfl | rfl | rfl <;> simp
  refine as_fz ?_
  show AS K _ _ [some (.d (.int w)), none, none, none, none, none, none, none, none, none] μ
  unfold t__law_every
  walk_at "xd"
  refine as_for (fun (i : Nat) => W.d (.int (0 + i))) (List.range (w : Int).toNat) (fun pre Γ' μ' => ∃ z3 z4 z5 z6 z7 z8 z9 cs, Γ' = [some (.d (.int w)), some (.d (.list ((fnd w pre.length).map dKs))), some (.d (.list ((lay w pre.length).map dKs))), z3, z4, z5, z6, z7, z8, z9] ∧ μ' = μ ++ cs) (ai_rng1 ?_) ?_ ?_
  · walk_at "xs"
    exact ⟨by omega, rfl, fun _ _ _ _ => trivial, _, _, _, _, _, _, _, [], rfl, by simp⟩
  · rintro pre t post Γ' μ' e ⟨z3, z4, z5, z6, z7, z8, z9, cs, rfl, rfl⟩
    obtain ⟨et, ht⟩ := rng_split e
    rw [Int.toNat_natCast] at ht
    subst et
    obtain ⟨ll, lf⟩ := M03.lay_len w hw pre.length (t4 _ (by omega))
    have few := M03.lay_few w hw pre.length (t4 _ (by omega))
    generalize hν : μ ++ cs = ν
    generalize hY : lay w pre.length = Y at ll few
    walk_at "xs"
    refine NL.m ?_
    walk_at "xs"
    refine as_mid (fun Γ' μ' => ∃ z5 z6 z7 z8 z9, Γ' = [some (.d (.int w)), some (.d (.list ((fnd w pre.length).map dKs))), some (.d (.list (Y.map dKs))), some (.d (.int (0 + (pre.length : Int)))), some (.m ν.length), z5, z6, z7, z8, z9] ∧ μ' = ν ++ [some (.lst ((grow w Y).map fun S => W.d (dKs S)))]) ?_ ?_
    · refine as_for (fun S : Kys => W.d (dKs S)) Y (fun pr Γ' μ' => ∃ z5 z6 z7 z8 z9, Γ' = [some (.d (.int w)), some (.d (.list ((fnd w pre.length).map dKs))), some (.d (.list (Y.map dKs))), some (.d (.int (0 + (pre.length : Int)))), some (.m ν.length), z5, z6, z7, z8, z9] ∧ μ' = ν ++ [some (.lst ((grow w pr).map fun S => W.d (dKs S)))]) (ai_l (ai_list ?_)) ?_ ?_
      · walk_at "xs"
        exact ⟨_, LW.d _, (kdKs Y).symm, fun _ _ _ _ => LW.d _, _, _, _, _, _, rfl, rfl⟩
      · rintro pr S po Γ' μ' e2 ⟨z5, z6, z7, z8, z9, rfl, rfl⟩
        have hS : S.length ≤ 3 := few S (by rw [e2]; simp)
        have hpr : pr.length < Y.length := by
          have := congrArg List.length e2
          simp at this
          omega
        have gl := grow_len w pr
        have gl2 : 2 * w * pr.length ≤ 6 * 100 := Nat.mul_le_mul (by omega) (by omega)
        walk_at "xs"
        refine ax_lcI (fun k : Int × Int => W.d (dK k)) S (fun k => k.1) (sz_ok (by omega)) (wk_tup (wks_cons (by decide) (wks_cons (by decide) wks_nil))) (ai_l (ai_list ?_)) ?_ ?_
        · walk_at "xs"
          exact ⟨_, lw_dKs S, rfl, lw_dKs S, rfl⟩
        · rintro ⟨c, s⟩ hm
          show AG K _ (W.d (.tuple [.int c, .int s])) _ _ _
          walk_at "wp"
          walk_at "xs"
          walk_at "e"
        · refine NL.di ?_
          walk_at "xs"
          refine as_for (fun c : Nat => W.d (.int c)) (fr w S) (fun p2 Γ' μ' => ∃ z6 z8 z9, Γ' = [some (.d (.int w)), some (.d (.list ((fnd w pre.length).map dKs))), some (.d (.list (Y.map dKs))), some (.d (.int (0 + (pre.length : Int)))), some (.m ν.length), some (.d (dKs S)), z6, some (.d (dInts (S.map fun k => k.1))), z8, z9] ∧ μ' = ν ++ [some (.lst ((grow w pr ++ p2.flatMap (g1 S)).map fun S => W.d (dKs S)))]) (ai_l (ai_list ?_)) ?_ ?_
          · refine ax_lcF (fun (i : Nat) => W.d (.int (0 + i))) (List.range (w : Int).toNat) (fun (c : Nat) => decide ((c : Int) ∉ S.map (·.1))) (fun (i : Nat) => W.d (.int (i : Nat))) (sz_ok (by simp; omega)) (wk_name (by decide)) (ai_rng1 ?_) ?_ ?_
            · walk_at "xs"
              exact ⟨by omega, rfl, trivial, rfl⟩
            · intro i hi
              walk_at "wp"
              walk_at "xs"
              refine o_inL (ns := S.map fun k => k.1) (lw_ints _ _) ?_
              refine ⟨_, rfl, ?_, rfl, fun _ => ?_⟩
              · rw [if_pos rfl, Int.zero_add]
                simp
              · walk_at "xs"
                exact ⟨by rw [Int.zero_add], rfl⟩
            · rw [Int.toNat_natCast]
              refine NL.d (xs := (fr w S).map fun (i : Nat) => PyData.int (i : Nat)) ⟨_, LW.d _, by rw [List.map_map]; rfl, fun _ _ _ _ => LW.d _, _, _, _, rfl, by simp⟩ (by rw [List.map_map]; rfl)
          · rintro p2 c p3 Γ' μ' e3 ⟨z6, z8, z9, rfl, rfl⟩
            have hp2 : p2.length ≤ w := by
              have h1 := fr_len w S
              have h2 := congrArg List.length e3
              simp at h2
              omega
            have hfm := fm_len (S := S) p2
            walk_at "xd"
            refine o_addL (ln_dKs S) (LN.d _) (sz_ok (by simp only [List.length_map, List.length_singleton]; omega)) ?_
            refine NL.d (xs := (S ++ [((c : Int), -1)]).map dK) ?_ (by simp [dK])
            walk_at "xs"
            refine am_append mu_at0 (sz_lt (by simp only [List.length_map, List.length_append]; omega)) ?_
            walk_at "nm"
            walk_at "xd"
            refine o_addL (ln_dKs S) (LN.d _) (sz_ok (by simp only [List.length_map, List.length_singleton]; omega)) ?_
            refine NL.d (xs := (S ++ [((c : Int), 1)]).map dK) ?_ (by simp [dK])
            walk_at "xs"
            refine am_append mu_at0 (sz_lt (by simp only [List.length_map, List.length_append, List.length_singleton]; omega)) ?_
            walk_at "nm"
            exact ⟨_, _, _, rfl, by simp [List.flatMap_append, dKs]⟩
          · rintro Γ' μ' ⟨z6, z8, z9, rfl, rfl⟩
            exact ⟨_, _, _, _, _, rfl, by rw [grow_snoc]⟩
      · rintro Γ' μ' ⟨z5, z6, z7, z8, z9, rfl, rfl⟩
        exact ⟨_, _, _, _, _, rfl, rfl⟩
    · rintro Γ' μ' ⟨z5, z6, z7, z8, z9, rfl, rfl⟩
      have gl := grow_len w Y
      have gl2 : 2 * w * Y.length ≤ 6 * 100 := Nat.mul_le_mul (by omega) (by omega)
      walk_at "xs"
      refine NL.d (xs := (fnd w pre.length ++ grow w Y).map dKs) ?_ (by simp)
      walk_at "xs"
      refine NL.d (xs := (grow w Y).map dKs) ?_ (kdKs _)
      walk_at "xs"
      refine ⟨some (.d (.int (0 + (pre.length : Int)))), some (.m ν.length), z5, z6, z7, z8, z9, cs ++ [some (.lst ((grow w Y).map fun S => W.d (dKs S)))], ?_, by rw [← hν, List.append_assoc]⟩
      have e1 : lay w (pre ++ [pre.length]).length = grow w Y := by
        rw [List.length_append, List.length_singleton, ← hY]
        rfl
      have e2 : fnd w (pre ++ [pre.length]).length = fnd w pre.length ++ grow w Y := by
        rw [List.length_append, List.length_singleton, ← hY]
        rfl
      rw [e1, e2]
  · rintro Γ' μ' ⟨z3, z4, z5, z6, z7, z8, z9, cs, rfl, rfl⟩
    rw [List.length_range, Int.toNat_natCast]
    walk_at "xs"
    exact Fz.same (.d _) q
theorem rd__law_says {K : PySem.W.Frag} : ∀ ws μ R, F__law_says ws μ R → AS K (t__law_says K) { nx := fun _ μ' => R (.d .none) μ', rt := R } (stG n__law_says ws) μ := by
  rintro ws μ R ⟨a, b, rfl, q⟩
  show AS K _ _ [some (.d (.bool a)), some (.d (.bool b))] μ
  unfold t__law_says
  walk_at "xi"
  exact q
theorem rd__law_bound {K : PySem.W.Frag} : ∀ ws μ R, F__law_bound ws μ R → AS K (t__law_bound K) { nx := fun _ μ' => R (.d .none) μ', rt := R } (stG n__law_bound ws) μ := by
  rintro ws μ R ⟨cs, rfl, hl, q⟩
  show AS K _ _ [some (.d (dInts cs)), none, none, none] μ
  unfold t__law_bound
  have eZ : (((wInts cs).length : Nat) : Int).toNat = cs.length := by rw [wI_len, Int.toNat_natCast]
  have bq := M03.bound_eq cs _ rfl
  generalize hO : ((List.range cs.length).filter fun k => !decide (cs.getD k 0 = cs.getD 0 0)) = O at bq
  have hOl : O.length ≤ cs.length := by
    rw [← hO]
    have h := List.length_filter_le (fun k => !decide (cs.getD k 0 = cs.getD 0 0)) (List.range cs.length)
    rwa [List.length_range] at h
  walk_at "xs"
  refine ax_lcF (fun (i : Nat) => W.d (.int (0 + i))) (List.range (((wInts cs).length : Nat) : Int).toNat) (fun k => !decide (cs.getD k 0 = cs.getD 0 0)) (fun (i : Nat) => W.d (.int (i : Nat))) (sz_ok (by rw [eZ, List.length_range]; omega)) (wk_name (by decide)) (ai_rng1 ?_) ?_ ?_
  · walk_at "xs"
    exact ⟨by rw [wI_len]; omega, rfl, trivial, rfl⟩
  · intro i hi
    rw [eZ, List.mem_range] at hi
    have hn : cs ≠ [] := fun z => by rw [z] at hi; cases hi
    rw [Int.zero_add]
    walk_at "wp"
    walk_at "xs"
    refine o_ixL (lw_ints _ _) (wI_at hi) ?_
    walk_at "xs"
    refine o_ixL (lw_ints _ _) (wI_at0 hn) ?_
    walk_at "xs"
    intro _
    walk_at "xs"
    walk_at "e"
  · rw [eZ, hO]
    refine NL.d (xs := O.map fun (i : Nat) => PyData.int (i : Nat)) ?_ (by rw [List.map_map]; rfl)
    have eO : PyData.list (O.map fun (i : Nat) => PyData.int (i : Nat)) = dInts (wNat O) := by
      unfold wNat dInts
      rw [List.map_map]
      rfl
    rw [eO]
    walk_at "xs"
    refine ax_lcF (fun (i : Nat) => W.d (.int (0 + i))) (List.range (((wInts cs).length : Nat) : Int).toNat) (fun k => decide (O ≠ [] ∧ O.headD 0 < k ∧ cs.getD k 0 = cs.getD 0 0)) (fun (i : Nat) => W.d (.int (i : Nat))) (sz_ok (by rw [eZ, List.length_range]; omega)) (wk_name (by decide)) (ai_rng1 ?_) ?_ ?_
    · walk_at "xs"
      exact ⟨by rw [wI_len]; omega, rfl, trivial, rfl⟩
    · intro i hi
      rw [eZ, List.mem_range] at hi
      have hn : cs ≠ [] := fun z => by rw [z] at hi; cases hi
      rw [Int.zero_add]
      walk_at "wp"
      walk_at "xd"
      rw [eqv_nil]
      cases O with
      | nil =>
        refine ite_f rfl ?_
        exact ⟨rfl, rfl, fun z => by cases z⟩
      | cons a O =>
        refine ite_t rfl ?_
        walk_at "xs"
        refine o_ixL (lw_ints _ _) (z := W.d (.int (a : Nat))) (atI_0 _ _) ?_
        walk_at "xs"
        refine ite_b (fun h1 => ?_) fun h1 => ?_
        · have h1 := of_decide_eq_true h1
          walk_at "xs"
          refine o_ixL (lw_ints _ _) (wI_at hi) ?_
          walk_at "xs"
          refine o_ixL (lw_ints _ _) (wI_at0 hn) ?_
          walk_at "xs"
          refine ⟨decide_eq_decide.mpr ⟨fun z => ⟨by simp, by show a < i; omega, z⟩, fun z => z.2.2⟩, rfl, fun _ => ?_⟩
          walk_at "xs"
          walk_at "e"
        · have h1 := of_decide_eq_false h1
          refine ⟨?_, rfl, fun z => by cases z⟩
          symm
          refine decide_eq_false ?_
          rintro ⟨_, z, _⟩
          have z : a < i := z
          omega
    · rw [eZ]
      generalize ((List.range cs.length).filter fun k => decide (O ≠ [] ∧ O.headD 0 < k ∧ cs.getD k 0 = cs.getD 0 0)) = X at bq
      refine NL.d (xs := X.map fun (i : Nat) => PyData.int (i : Nat)) ?_ (by rw [List.map_map]; rfl)
      have eX : PyData.list (X.map fun (i : Nat) => PyData.int (i : Nat)) = dInts (wNat X) := by
        unfold wNat dInts
        rw [List.map_map]
        rfl
      rw [eX]
      rw [← bq] at q
      walk_at "xd"
      rw [eqv_nil]
      by_cases hn : cs = []
      · rw [decide_eq_true hn]
        refine ite_f rfl ?_
        rw [decide_eq_false (show ¬ cs ≠ [] from fun z => z hn)] at q
        exact q
      · rw [decide_eq_false hn]
        refine ite_t rfl ?_
        walk_at "xd"
        rw [eqv_nil]
        rw [decide_eq_true (show cs ≠ [] from hn), Bool.true_and] at q
        have e : decide (wNat X = []) = decide (X = []) := decide_eq_decide.mpr (by simp [wNat])
        rw [e]
        exact q
theorem wI_app (a b : List Int) : wInts a ++ wInts b = wInts (a ++ b) := by simp only [wInts, List.map_append]
theorem rd__law_other {K : PySem.W.Frag} : ∀ ws μ R, F__law_other ws μ R → AS K (t__law_other K) { nx := fun _ μ' => R (.d .none) μ', rt := R } (stG n__law_other ws) μ := by
  rintro ws μ R ⟨k, p, n, w, cs, rfl, hk, hp, hn, hw1, hw, hcl, hc, q⟩
  show AS K _ _ [some (.m k), some (.d (.int w)), some (.d (dInts cs)), none, none, none] μ
  unfold t__law_other
  walk_at "xs"
  rw [wI_len]
  walk_at "dr"
  intro r1 p1 a1 b1 hp1
  obtain ⟨a, rfl⟩ : ∃ a : Nat, r1 = a := ⟨r1.toNat, by omega⟩
  walk_at "xs"
  walk_at "dr"
  intro r2 p2 a2 b2 hp2
  rw [mu_set2]
  walk_at "xs"
  walk_at "dr"
  intro x p3 a3 b3 hp3
  rw [mu_set2]
  have hx : ∀ c ∈ cs.take a ++ [x], 0 ≤ c ∧ c < (w : Int) := fun c h => by
    rcases List.mem_append.mp h with h | h
    · exact hc c (List.mem_of_mem_take h)
    · rw [List.mem_singleton.mp h]
      exact ⟨a3, b3⟩
  have hd : ∀ (j : Nat), ∀ c ∈ cs.drop j, 0 ≤ c ∧ c < (w : Int) := fun j c h => hc c (List.mem_of_mem_drop h)
  have lt := List.length_take_le a cs
  have ld := List.length_drop (i := a) (l := cs)
  walk_at "xs"
  refine ite_b (fun _ => ?_) fun _ => ?_
  · walk_at "xs"
    refine o_slL (lw_ints _ _) ?_
    rw [cut_takeN, wI_take]
    walk_at "xd"
    rw [show List.map W.d [PyData.int x] = wInts [x] from rfl]
    rw [wI_app]
    walk_at "xd"
    refine o_slL (lw_ints _ _) ?_
    rw [cut_dropN, wI_drop]
    walk_at "d"
    refine o_addL (ln_ints _ (cs.take a ++ [x])) (ln_ints _ (cs.drop a)) (sz_ok (by simp only [wI_len, List.length_append, List.length_singleton]; omega)) ?_
    rw [wI_app]
    walk_at "xd"
    refine q _ _ (by simp only [List.length_append, List.length_singleton]; omega) (fun c h => ?_) (hp3.le (by omega))
    rcases List.mem_append.mp h with h | h
    · exact hx c h
    · exact hd a c h
  · refine as_next ?_
    walk_at "xs"
    refine ite_b (fun _ => ?_) fun _ => ?_
    · walk_at "xs"
      refine o_slL (lw_ints _ _) ?_
      rw [cut_takeN, wI_take]
      walk_at "xd"
      rw [show List.map W.d [PyData.int x, PyData.int x] = wInts [x, x] from rfl]
      rw [wI_app]
      walk_at "xd"
      refine o_slL (lw_ints _ _) ?_
      rw [cut_dropN, wI_drop]
      walk_at "d"
      refine o_addL (ln_ints _ (cs.take a ++ [x, x])) (ln_ints _ (cs.drop a)) (sz_ok (by simp only [wI_len, List.length_append, List.length_cons, List.length_nil]; omega)) ?_
      rw [wI_app]
      walk_at "xd"
      refine q _ _ (by simp only [List.length_append, List.length_cons, List.length_nil]; omega) (fun c h => ?_) (hp3.le (by omega))
      rcases List.mem_append.mp h with h | h
      · refine hx c ?_
        rcases List.mem_append.mp h with h | h
        · exact List.mem_append.mpr (.inl h)
        · refine List.mem_append.mpr (.inr ?_)
          simpa using h
      · exact hd a c h
    · refine as_next ?_
      walk_at "xs"
      refine ite_b (fun _ => ?_) fun _ => ?_
      · walk_at "xs"
        refine o_slL (lw_ints _ _) ?_
        rw [cut_takeN, wI_take]
        walk_at "xd"
        refine o_slL (lw_ints _ _) ?_
        rw [show ((a : Int) + 1) = ((a + 1 : Nat) : Int) by omega, cut_dropN, wI_drop]
        walk_at "d"
        have ld2 := List.length_drop (i := a + 1) (l := cs)
        refine o_addL (ln_ints _ (cs.take a)) (ln_ints _ (cs.drop (a + 1))) (sz_ok (by simp only [wI_len]; omega)) ?_
        rw [wI_app]
        walk_at "xd"
        refine q _ _ (by simp only [List.length_append]; omega) (fun c h => ?_) (hp3.le (by omega))
        rcases List.mem_append.mp h with h | h
        · exact hc c (List.mem_of_mem_take h)
        · exact hd (a + 1) c h
      · refine as_next ?_
        walk_at "xs"
        refine ite_b (fun _ => ?_) fun _ => ?_
        · walk_at "xs"
          refine o_slL (lw_ints _ _) ?_
          rw [show (1 : Int) = ((1 : Nat) : Int) from rfl, cut_takeN, wI_take]
          walk_at "d"
          have lt2 := List.length_take_le 1 cs
          walk_at "xs"
          rw [wI_app]
          walk_at "xd"
          refine q _ _ (by simp only [List.length_append]; omega) (fun c h => ?_) (hp3.le (by omega))
          rcases List.mem_append.mp h with h | h
          · exact hc c (List.mem_of_mem_take h)
          · exact hc c h
        · refine as_next ?_
          walk_at "xs"
          refine ⟨k, p3, _, w, 10, rfl, by walk_at "mu", hp3, by omega, hw1, hw, by omega, fun ds p4 l1 l2 hp4 => ?_⟩
          rw [mu_set2]
          exact q _ _ (by omega) l2 (hp4.le (by omega))
def fRows (Q : Kys) (b : Bool) : List (Fm × Bool) := [((Q, b), true), (([], true), false), (([(0, 1)], false), false), (([(0, 0)], true), false), ((Q ++ Q, true), false), (([(-1, 1)], true), false), (([], false), true), (([(3, 1), (0, -1)], !b), true), (([(3, -1)], true), true),
  (([(3, 2), (0, 1)], false), false), (([(1, 1), (0, 5)], true), false), (([(1, 1), (-1, 1)], false), false), (([(0, 1), (0, -1)], true), false), (([(0, 1), (1, 1), (0, -1)], false), false), (([(0, 1), (1, 1), (2, -1)], false), true)]
def fRow (r : Fm × Bool) : PyData := .tuple [dFm r.1, .bool r.2]
theorem fRows_ok {Q : Kys} {b : Bool} (h : hasF (Q, b) = true) (hl : Q.length ≤ 30) : ∀ r ∈ fRows Q b, hasF r.1 = r.2 ∧ r.1.1.length < 64 := by
  have hQ : hasF (Q ++ Q, true) = false := by
    cases Q with
    | nil => rfl
    | cons k r =>
      unfold M03.hasF
      rw [decide_eq_false, Bool.false_and]
      intro z
      have z := z.1
      rw [List.map_append, List.nodup_append] at z
      exact z.2.2 k.1 (by simp) k.1 (by simp) rfl
  have hb : hasF ([(3, 1), (0, -1)], !b) = true := by cases b <;> decide +kernel
  intro r hr
  unfold fRows at hr
  simp only [List.mem_cons, List.not_mem_nil, or_false] at hr
  rcases hr with rfl | rfl | rfl | rfl | rfl | rfl | rfl | rfl | rfl | rfl | rfl | rfl | rfl | rfl | rfl
  · exact ⟨h, by show Q.length < 64; omega⟩
  · exact ⟨by decide +kernel, by decide⟩
  · exact ⟨by decide +kernel, by decide⟩
  · exact ⟨by decide +kernel, by decide⟩
  · exact ⟨hQ, by show (Q ++ Q).length < 64; rw [List.length_append]; omega⟩
  · exact ⟨by decide +kernel, by decide⟩
  · exact ⟨by decide +kernel, by decide⟩
  · exact ⟨hb, by show (2 : Nat) < 64; decide⟩
  · exact ⟨by decide +kernel, by decide⟩
  · exact ⟨by decide +kernel, by decide⟩
  · exact ⟨by decide +kernel, by decide⟩
  · exact ⟨by decide +kernel, by decide⟩
  · exact ⟨by decide +kernel, by decide⟩
  · exact ⟨by decide +kernel, by decide⟩
  · exact ⟨by decide +kernel, by decide⟩
theorem NL.app {μ : Mu} {R : W → Mu → Prop} {a b : List PyData} (h : R (.d (.list (a ++ b))) μ) : NL (a.map W.d ++ b.map W.d) μ R := NL.d (xs := a ++ b) h (by rw [List.map_append])
theorem rd__law_is_form_right {K : PySem.W.Frag} : ∀ ws μ R, F__law_is_form_right ws μ R → AS K (t__law_is_form_right K) { nx := fun _ μ' => R (.d .none) μ', rt := R } (stG n__law_is_form_right ws) μ := by
  rintro ws μ R ⟨⟨Q, b⟩, rfl, hl, hf, q⟩
  have hl : Q.length ≤ 30 := hl
  have ok := fRows_ok hf hl
  show AS K _ _ [some (.d (.tuple [dKs Q, .bool b])), none, none, none, none, none] μ
  unfold t__law_is_form_right
  walk_at "xd"
  refine o_addL (ln_dKs Q) (ln_dKs Q) (sz_ok (by simp only [List.length_map]; omega)) ?_
  refine NL.d (xs := (Q ++ Q).map dK) ?_ (by rw [kdK, List.map_append, List.map_append])
  walk_at "xd"
  refine NL.app ?_
  walk_at "xd"
  refine NL.app ?_
  walk_at "xd"
  refine NL.app ?_
  walk_at "xd"
  refine NL.app ?_
  walk_at "xd"
  refine NL.app ?_
  walk_at "xs"
  refine as_for (fun r : Fm × Bool => W.d (fRow r)) (fRows Q b) (fun pre Γ' μ' => ∃ z4 z5, Γ' = [some (.d (.tuple [dKs Q, .bool b])), some (.d (dKs Q)), some (.d (.bool b)), some (.d (.list ((fRows Q b).map fRow))), z4, z5] ∧ μ' = μ) (ai_l (ai_list ?_)) ?_ ?_
  · walk_at "xs"
    exact ⟨_, LW.d _, rfl, fun _ _ _ _ => LW.d _, _, _, rfl, rfl⟩
  · rintro pre ⟨f, d⟩ post Γ' μ' e ⟨z4, z5, rfl, rfl⟩
    obtain ⟨h1, h2⟩ := ok (f, d) (by rw [e]; simp)
    have h1 : hasF f = d := h1
    show AG K _ (W.d (.tuple [dFm f, .bool d])) _ _ _
    walk_at "xs"
    refine ⟨f, rfl, h2, ?_⟩
    walk_at "xs"
    refine ⟨_, _, rfl, ?_⟩
    rw [h1, beq_self_eq_true]
    walk_at "xi"
    refine ⟨f, rfl, h2, ?_⟩
    walk_at "xs"
    refine ⟨_, _, rfl, ?_⟩
    rw [h1, beq_self_eq_true]
    walk_at "xi"
    exact ⟨_, _, rfl, rfl⟩
  · rintro Γ' μ' ⟨z4, z5, rfl, rfl⟩
    walk_at "xs"
    exact q
theorem eqb_dFa (a : Option Kys) : Eqb (dFa a) 2 := by
  cases a with
  | none => exact eqb_none.le (by omega)
  | some S => exact eqb_dKs S
theorem ps_of {w : Nat} {cs : List Int} (h : ∀ c ∈ cs, 0 ≤ c ∧ c < (w : Int)) : Ps cs := fun c hc => (h c hc).1
theorem ps_sh {n : Int} {cs : List Int} (h : Ps cs) (hn : 0 ≤ n) : Ps (cs.map (· + n)) := fun c hc => by
  obtain ⟨x, hx, rfl⟩ := List.mem_map.mp hc
  have := h x hx
  show 0 ≤ x + n
  omega
section
variable {K : PySem.W.Frag} {μ : Mu} {R : W → Mu → Prop} {Γ : G}
/-- [column + far for column in clicks] -/
theorem ax_shI {cs : List Int} {n : Int} {i j l : Nat} (h1 : Γ[i]? = some (some (.d (dInts cs)))) (hl : cs.length ≤ 1000) (h2 : ((wipeG Γ [l]).set l (some (.d (.int 0))))[j]? = some (some (.d (.int n)))) (h3 : ∀ x : Int, ((wipeG Γ [l]).set l (some (.d (.int x))))[l]? = some (some (.d (.int x)))) (h4 : ∀ x : Int, ((wipeG Γ [l]).set l (some (.d (.int x))))[j]? = some (some (.d (.int n))))
    (q : R (.d (dInts (cs.map (· + n)))) μ) : AX K (tLc (iSeq K (tVar i)) (gName l) tYes (tOp (rAddU K) (tVar l) (tVar j)) [l]) Γ μ R := by
  refine ax_lcI (fun c : Int => W.d (.int c)) cs (· + n) (sz_ok (by omega)) (wk_name (by simp)) (ai_l (ai_list ?_)) ?_ ?_
  · refine ax_var h1 ?_
    exact ⟨_, lw_ints _ _, rfl, lw_ints _ _, rfl⟩
  · intro x hx
    refine ag_name ?_
    refine ax_op ?_
    refine ax_var (h3 x) ?_
    refine ax_var (h4 x) ?_
    refine o_addI ?_
    exact ⟨rfl, rfl⟩
  · exact NL.di q
end
theorem rd__law_far_right {K : PySem.W.Frag} : ∀ ws μ R, F__law_far_right ws μ R → AS K (t__law_far_right K) { nx := fun _ μ' => R (.d .none) μ', rt := R } (stG n__law_far_right ws) μ := by
  rintro ws μ R ⟨k, p, n, rfl, hk, hp, hn, q⟩
  refine as_fz ?_
  show AS K _ _ [some (.m k), none, none, none, none, none, none, none, none, none, none, none, none] μ
  have shX : ∀ (Γ : G) (μ' : Mu) (R' : W → Mu → Prop) (te : TE) (S : Kys) (far : Int), S.length ≤ 1000 → (Γ.length = 13) → Γ[1]? = some (some (.d (.int far))) → (AX K te Γ μ' fun w μ1 => ∃ ws, LW μ1 w ws ∧ (ws = (S.map fun k => W.d (dK k)) ∧ LW μ' w ws ∧ μ1 = μ')) → R' (.d (dKs (shK far S))) μ' →
      AX K (tLc (iSeq K te) (gTup K 2 (gCons (gName 11) (gCons (gName 12) gNil))) tYes (tTup (tCons (tOp (rAddU K) (tVar 11) (tVar 1)) (tCons (tVar 12) tNil))) [11, 12]) Γ μ' R' := by
    intro Γ μ' R' te S far hS hΓ h1 hte hq
    refine ax_lcP (fun k : Int × Int => W.d (dK k)) S (fun k => W.d (dK (k.1 + far, k.2))) (sz_ok (by omega)) (wk_tup (wks_cons (by decide) (wks_cons (by decide) wks_nil))) (ai_l (ai_list hte)) ?_ ?_
    · rintro ⟨c, s⟩ hm
      show AG K _ (W.d (.tuple [.int c, .int s])) _ _ _
      have h11 : 11 < Γ.length := by omega
      have h12 : 12 < Γ.length := by omega
      have e1 : ((wipeG Γ [11, 12]).set 11 (some (W.d (.int c)))).set 12 (some (W.d (.int s))) = (Γ.set 11 (some (W.d (.int c)))).set 12 (some (W.d (.int s))) := by
        simp only [wipeG, List.foldr_cons, List.foldr_nil]
        rw [List.set_set, List.set_comm _ _ (by decide : 12 ≠ 11), List.set_set]
      refine ag_tup TW.d2 rfl ?_
      refine ags_cons ?_
      refine ag_name ?_
      refine ags_cons ?_
      refine ag_name ?_
      refine ags_nil ?_
      rw [e1]
      refine ax_tup ?_
      refine aa_cons ?_
      refine ax_op ?_
      refine ax_var (w := W.d (.int c)) (by rw [List.getElem?_set_ne (by decide), List.getElem?_set_self h11]) ?_
      refine ax_var (w := W.d (.int far)) (by rw [List.getElem?_set_ne (by decide), List.getElem?_set_ne (by decide), h1]) ?_
      refine o_addI ?_
      refine aa_cons ?_
      refine ax_var (w := W.d (.int s)) (by rw [List.getElem?_set_self (by rw [List.length_set]; exact h12)]) ?_
      refine aa_nil ?_
      refine ⟨sz_ok (by simp), ?_⟩
      exact NT.d2 ⟨rfl, rfl⟩
    · refine NL.d (xs := (shK far S).map dK) hq (by rw [List.map_map, List.map_map]; rfl)
  unfold t__law_far_right
  walk_at "xs"
  walk_at "dr"
  intro r1 p1 a1 b1 hp1
  obtain ⟨far, hf⟩ : ∃ far : Int, far = 1 + r1 := ⟨_, rfl⟩
  walk_at "xs"
  rw [← hf]
  refine ⟨k, p1, _, 3, 10, rfl, by walk_at "mu", hp1, by omega, by omega, by omega, by omega, fun cs p2 l1 c1 hp2 => ?_⟩
  rw [mu_set2]
  walk_at "xs"
  have pc := ps_of c1
  refine ⟨cs, rfl, pc, by omega, ?_⟩
  have fl := M03.frm_len cs
  have gf := M03.frm_good pc
  show AG K _ (W.d (.tuple [dKs (frm cs).1, .bool (frm cs).2])) _ _ _
  walk_at "xs"
  refine ax_shI rfl (by omega) rfl (fun _ => rfl) (fun _ => rfl) ?_
  walk_at "xs"
  refine ⟨cs.map (· + far), rfl, ps_sh pc (by omega), by simp; omega, ?_⟩
  rw [M03.frm_sh]
  walk_at "xs"
  refine shX _ _ _ _ (frm cs).1 far (by omega) rfl rfl (by walk_at "xs"; exact ⟨_, lw_dKs _, rfl, lw_dKs _, rfl⟩) ?_
  walk_at "xd"
  refine o_neFm (f := (shK far (frm cs).1, (frm cs).2)) (g := (shK far (frm cs).1, (frm cs).2)) ?_
  walk_at "xi"
  refine ⟨k, p2, _, 3, cs, rfl, by walk_at "mu", hp2, by omega, by omega, by omega, by omega, c1, fun ds p3 l2 c2 hp3 => ?_⟩
  rw [mu_set2]
  have pd := ps_of c2
  walk_at "xs"
  refine ⟨cs, ds, rfl, pc, pd, by omega, by omega, ?_⟩
  walk_at "xs"
  refine ax_shI rfl (by omega) rfl (fun _ => rfl) (fun _ => rfl) ?_
  walk_at "xs"
  refine ax_shI rfl (by omega) rfl (fun _ => rfl) (fun _ => rfl) ?_
  walk_at "xs"
  refine ⟨cs.map (· + far), ds.map (· + far), rfl, ps_sh pc (by omega), ps_sh pd (by omega), by simp; omega, by simp; omega, ?_⟩
  have gg := M03.frm_good pd
  have hasS : hasF (shK far (frm cs).1, (frm cs).2) = true := by
    rw [← M03.frm_sh]
    exact (M03.frm_good (ps_sh pc (by omega))).hasF
  rw [M03.frm_sh, M03.frm_sh, M03.fa_sh far gf gg]
  have fn := M03.fa_none (f := frm cs) (g := frm ds)
  have fl1 : ∀ S, fa (frm cs) (frm ds) = some S → S.length ≤ 1 := fun S h => by
    unfold M03.fa at h
    split at h
    · cases h
    · split at h
      · cases h
        simp
      · cases h
        simp
  have eqs : (frm (cs.map (· + far)) = frm (ds.map (· + far))) ↔ frm cs = frm ds := by
    rw [M03.frm_sh, M03.frm_sh]
    exact ⟨fun z => Prod.ext (M03.shK_inj.mp (Prod.mk.inj z).1) (Prod.mk.inj z).2, fun z => by rw [z]⟩
  have rest : ∀ A : Option Kys, AS K (tSeq (tAsg (tCallS (spD K F__law_keys) Ez (tCons (tVar 0) (tCons (tC (.int 3)) tNil))) (gName 9))
    (tSeq (tAsg (tCallS (spX K F_formed) Ez (tCons (tVar 5) (tCons (tLc (iSeq K (tVar 9)) (gTup K 2 (gCons (gName 11) (gCons (gName 12) gNil))) tYes (tTup (tCons (tOp (rAddU K) (tVar 11) (tVar 1)) (tCons (tVar 12) tNil))) [11, 12]) tNil))) (gName 10))
    (tRet (tOp (rEqU K) (tVar 10) (tLc (iSeq K (tCallS (spD K F__law_after) Ez (tCons (tVar 9) (tCons (tVar 2) tNil)))) (gTup K 2 (gCons (gName 11) (gCons (gName 12) gNil))) tYes (tTup (tCons (tOp (rAddU K) (tVar 11) (tVar 1)) (tCons (tVar 12) tNil))) [11, 12]))))) { nx := fun _ μ' => Fz μ (.d .none) μ' R, rt := fun w μ' => Fz μ w μ' R }
      [some (.m k), some (.d (.int far)), some (.d (dInts cs)), some (.d (dKs (frm cs).1)), some (.d (.bool (frm cs).2)), some (.d (dFm (shK far (frm cs).1, (frm cs).2))), some (.d (dInts ds)), some (.d (dFa A)), some (.d (dFa (A.map (shK far)))), none, none, none, none] (μ.set k p3) := by
    intro A
    walk_at "xs"
    refine ⟨k, p3, _, 3, rfl, by walk_at "mu", hp3, by omega, by omega, fun S p4 sk sl sn hp4 => ?_⟩
    rw [mu_set2]
    have hfar : 0 ≤ far := by omega
    walk_at "xs"
    refine shX _ _ _ _ S far (by omega) rfl rfl (by walk_at "xs"; exact ⟨_, lw_dKs _, rfl, lw_dKs _, rfl⟩) ?_
    walk_at "xs"
    refine ⟨_, shK far S, rfl, hasS, by show (shK far (frm cs).1).length < 64; rw [List.length_map]; omega, M03.ok_sh sk hfar, by rw [List.length_map]; omega, ?_⟩
    rw [← M03.frm_sh, M03.made_frm (ps_sh pc hfar) (M03.ok_sh sk hfar), M03.aft_sh]
    walk_at "xs"
    have al := M03.aft_len S cs
    refine shX _ _ _ _ (aft S cs) far (by omega) rfl rfl (by
      walk_at "xs"
      refine ⟨S, cs, rfl, by omega, ?_⟩
      exact ⟨_, lw_dKs _, rfl, lw_dKs _, rfl⟩) ?_
    refine o_eqKs (S := shK far (aft S cs)) (T := shK far (aft S cs)) (rs_mKs (by walk_at "mu")) (.d _) ?_
    rw [decide_eq_true rfl]
    walk_at "xs"
    exact ⟨_, _, _, rfl, by simp, Keeps.pot hp4, .d _, q _ (hp4.le (by omega))⟩
  cases hA : fa (frm cs) (frm ds) with
  | none =>
    have e := fn.mp hA
    have rest := rest none
    walk_at "xs"
    refine ite_f rfl ?_
    refine as_next ?_
    walk_at "xs"
    refine ax_shI rfl (by omega) rfl (fun _ => rfl) (fun _ => rfl) ?_
    walk_at "xs"
    refine ax_shI rfl (by omega) rfl (fun _ => rfl) (fun _ => rfl) ?_
    walk_at "xs"
    refine ⟨cs.map (· + far), ds.map (· + far), rfl, ps_sh pc (by omega), ps_sh pd (by omega), by simp; omega, by simp; omega, ?_⟩
    rw [decide_eq_true (eqs.mpr e)]
    walk_at "xs"
    refine ite_f rfl ?_
    refine as_next ?_
    walk_at "xs"
    refine ite_f rfl ?_
    refine ite_f rfl ?_
    refine as_next ?_
    exact rest
  | some S =>
    have e : frm cs ≠ frm ds := fun z => by rw [fn.mpr z] at hA; cases hA
    have rest := rest (some S)
    have hS := fl1 S hA
    walk_at "xs"
    refine ite_f rfl ?_
    refine as_next ?_
    walk_at "xs"
    refine ax_shI rfl (by omega) rfl (fun _ => rfl) (fun _ => rfl) ?_
    walk_at "xs"
    refine ax_shI rfl (by omega) rfl (fun _ => rfl) (fun _ => rfl) ?_
    walk_at "xs"
    refine ⟨cs.map (· + far), ds.map (· + far), rfl, ps_sh pc (by omega), ps_sh pd (by omega), by simp; omega, by simp; omega, ?_⟩
    rw [decide_eq_false fun z => e (eqs.mp z)]
    walk_at "xs"
    refine ite_f rfl ?_
    refine as_next ?_
    walk_at "xs"
    refine ite_t rfl ?_
    walk_at "xs"
    refine shX _ _ _ _ S far (by omega) rfl rfl (by walk_at "xs"; exact ⟨_, lw_dKs _, rfl, lw_dKs _, rfl⟩) ?_
    refine o_neKs (S := shK far S) (T := shK far S) (.d _) (.d _) ?_
    refine ⟨_, rfl, ite_f ne_self ?_⟩
    refine as_next ?_
    exact rest
theorem getD_mem {ps : List Int} {x : Int} (h0 : 0 ≤ x) (h1 : x < ps.length) : ps.getD x.toNat 0 ∈ ps := by
  have h : x.toNat < ps.length := by omega
  rw [List.getD_eq_getElem?_getD, List.getElem?_eq_getElem h]
  exact List.getElem_mem h
theorem rd__law_many_right {K : PySem.W.Frag} : ∀ ws μ R, F__law_many_right ws μ R → AS K (t__law_many_right K) { nx := fun _ μ' => R (.d .none) μ', rt := R } (stG n__law_many_right ws) μ := by
  rintro ws μ R ⟨k, p, n, rfl, hk, hp, hn, q⟩
  refine as_fz ?_
  show AS K _ _ [some (.m k), none, none, none, none, none, none] μ
  unfold t__law_many_right
  walk_at "xs"
  refine ax_lcD (fun (i : Nat) => W.d (.int (0 + i))) (wk_name (by decide)) (ai_rng1 ?_)
  walk_at "xs"
  walk_at "dr"
  intro r1 p1 a1 b1 hp1
  walk_at "xs"
  refine ⟨by omega, List.range (1 + r1).toNat, fun pre acc μ' => ∃ ps p', acc = wInts ps ∧ μ' = μ.set k p' ∧ ps.length = pre.length ∧ (∀ c ∈ ps, 0 ≤ c) ∧ PotOk (n + 1 + pre.length) p', rfl, sz_ok (by simp; omega), fun _ _ _ _ => trivial, ⟨[], p1, rfl, rfl, rfl, (fun _ z => by cases z), hp1⟩, ?_, ?_⟩
  · rintro pre i post acc μ' e hl ⟨ps, p', rfl, rfl, f1, f2, f3⟩
    obtain ⟨e1, e2⟩ := rng_split e
    walk_at "wp"
    walk_at "xs"
    refine ite_t rfl ?_
    walk_at "xs"
    walk_at "dr"
    intro r2 p2 a2 b2 hp2
    rw [mu_set2]
    refine ⟨ps ++ [r2], p2, by simp [wInts], rfl, by simp; omega, fun c hc => ?_, hp2.le (by simp; omega)⟩
    rcases List.mem_append.mp hc with hc | hc
    · exact f2 c hc
    · rw [List.mem_singleton.mp hc]
      exact a2
  · rintro acc μ' ⟨ps, p2, rfl, rfl, f1, f2, f3⟩
    rw [List.length_range] at f1 f3
    have hpl : 1 ≤ ps.length ∧ ps.length ≤ 12 := by omega
    refine NL.di ?_
    walk_at "xs"
    obtain ⟨g, hg⟩ : ∃ g : Int → Int, g = fun x => ps.getD x.toNat 0 := ⟨_, rfl⟩
    have gat : ∀ x : Int, 0 ≤ x → x < (ps.length : Int) → atI (wInts ps) x = some (.d (.int (g x))) := fun x h0 h1 => by
      have h : x.toNat < ps.length := by omega
      have := wI_at h
      rw [show ((x.toNat : Nat) : Int) = x by omega] at this
      rw [hg]
      exact this
    have gps : ∀ cs : List Int, (∀ c ∈ cs, 0 ≤ c ∧ c < (ps.length : Int)) → Ps (cs.map g) := fun cs h c hc => by
      obtain ⟨x, hx, rfl⟩ := List.mem_map.mp hc
      obtain ⟨h0, h1⟩ := h x hx
      rw [hg]
      exact f2 _ (getD_mem h0 h1)
    refine ax_lcD (fun x : Int => W.d (.int x)) (wk_name (by decide)) (ai_l (ai_list ?_))
    walk_at "xd"
    rw [wI_len]
    walk_at "xd"
    walk_at "dr"
    intro r3 p3 a3 b3 hp3
    rw [mu_set2]
    walk_at "xs"
    obtain ⟨m, hm, hm1⟩ : ∃ m : Nat, atI (List.map W.d [PyData.int 15, .int 60]) (if decide (r3 = 0) = true then 1 else 0) = some (.d (.int m)) ∧ m ≤ 60 := by
      by_cases z : r3 = 0
      · rw [if_pos (decide_eq_true z)]
        exact ⟨60, rfl, by decide⟩
      · rw [if_neg (by simpa using z)]
        exact ⟨15, rfl, by decide⟩
    refine o_ixL (.d _) hm ?_
    walk_at "xs"
    refine ⟨k, p3, _, ps.length, m, rfl, by walk_at "mu", hp3, by omega, by omega, by omega, hm1, fun c0 p4 l1 c1 hp4 => ?_⟩
    rw [mu_set2]
    refine ⟨_, lw_ints _ c0, c0, fun pre acc μ' => acc = wInts (pre.map g) ∧ μ' = μ.set k p4, rfl, sz_ok (by omega), fun _ _ _ _ => lw_ints _ _, ⟨rfl, rfl⟩, ?_, ?_⟩
    · rintro pre x post acc μ' e hl ⟨rfl, rfl⟩
      obtain ⟨h0, h1⟩ := c1 x (by rw [e]; simp)
      walk_at "wp"
      walk_at "xs"
      refine ite_t rfl ?_
      walk_at "xs"
      refine o_ixL (lw_ints _ _) (gat x h0 h1) ?_
      exact ⟨by simp [wInts], rfl⟩
    · rintro acc μ' ⟨rfl, rfl⟩
      refine NL.di ?_
      have pc := gps c0 c1
      have cl : (c0.map g).length ≤ 60 := by rw [List.length_map]; omega
      generalize c0.map g = cs at pc cl
      have fl := M03.frm_len cs
      have good := M03.frm_good pc
      walk_at "xs"
      refine ⟨cs, rfl, pc, by omega, ?_⟩
      walk_at "xd"
      refine ⟨[], cs, rfl, by simp; omega, ?_⟩
      walk_at "xs"
      refine ⟨cs, rfl, by omega, ?_⟩
      walk_at "xd"
      refine o_neFm (f := frm cs) (g := frm cs) ?_
      refine ⟨_, rfl, ite_f ne_self ?_⟩
      walk_at "xs"
      refine ⟨frm cs, rfl, by omega, ?_⟩
      rw [good.hasF]
      walk_at "xi"
      walk_at "xd"
      refine ax_lcD (fun x : Int => W.d (.int x)) (wk_name (by decide)) (ai_l (ai_list ?_))
      walk_at "xs"
      rw [wI_len]
      refine ⟨k, p4, _, ps.length, 9, rfl, by walk_at "mu", hp4, by omega, by omega, by omega, by omega, fun d0 p5 l2 c2 hp5 => ?_⟩
      rw [mu_set2]
      refine ⟨_, lw_ints _ d0, d0, fun pre acc μ' => acc = wInts (pre.map g) ∧ μ' = μ.set k p5, rfl, sz_ok (by omega), fun _ _ _ _ => lw_ints _ _, ⟨rfl, rfl⟩, ?_, ?_⟩
      · rintro pre x post acc μ' e hl ⟨rfl, rfl⟩
        obtain ⟨h0, h1⟩ := c2 x (by rw [e]; simp)
        walk_at "wp"
        walk_at "xs"
        refine ite_t rfl ?_
        walk_at "xs"
        refine o_ixL (lw_ints _ _) (gat x h0 h1) ?_
        exact ⟨by simp [wInts], rfl⟩
      · rintro acc μ' ⟨rfl, rfl⟩
        refine NL.di ?_
        have pd := gps d0 c2
        have dl : (d0.map g).length ≤ 9 := by rw [List.length_map]; omega
        generalize d0.map g = ds at pd dl
        walk_at "xs"
        refine ⟨[], ds, rfl, by simp; omega, ?_⟩
        have sk := M03.aft_ok pd M03.ok_nil
        have sl := M03.aft_len [] ds
        rw [List.length_nil] at sl
        generalize aft [] ds = S at sk sl
        walk_at "xs"
        refine ⟨frm cs, S, rfl, good.hasF, by omega, sk, by omega, ?_⟩
        rw [M03.made_frm pc sk]
        walk_at "xs"
        refine ⟨S, cs, rfl, by omega, ?_⟩
        refine o_eqKs (S := aft S cs) (T := aft S cs) (rs_mKs (by walk_at "mu")) (.d _) ?_
        rw [decide_eq_true rfl]
        exact ⟨_, _, _, rfl, by simp, Keeps.pot hp5, .d _, q _ (hp5.le (by omega))⟩
theorem eqb_list {ds : List PyData} {n : Nat} (h : ∀ d ∈ ds, Eqb d n) : Eqb (.list ds) (n + 1) := (Eqbs.of h).lst
theorem small_int {i : Int} (h : i.natAbs < 10000) : i.natAbs < 10 ^ 50 := by
  have : (10000 : Nat) < 10 ^ 50 := by decide
  omega
theorem gd_cs {cs : List Int} {n : Nat} (h : ∀ c ∈ cs, 0 ≤ c ∧ c < 1000) (hl : cs.length ≤ n) : Gd (dInts cs) (1 * n + 1) 1 := (gds_le (fun x hx => by
  obtain ⟨c, hc, rfl⟩ := List.mem_map.mp hx
  have := h c hc
  exact gd_intW (small_int (by omega))) (by simpa using hl)).lst
theorem rd__law_alike_right {K : PySem.W.Frag} : ∀ ws μ R, F__law_alike_right ws μ R → AS K (t__law_alike_right K) { nx := fun _ μ' => R (.d .none) μ', rt := R } (stG n__law_alike_right ws) μ := by
  rintro ws μ R ⟨w, cs, ds, rfl, hw1, hw3, hcl, hdl, hc, hd, q⟩
  have hw := M03.w3 hw1 hw3
  have ok := M03.fnd_ok w hw
  have fl := (M03.lay_len w hw w (by have : w = 1 ∨ w = 2 ∨ w = 3 := by omega
                                     rcases this with rfl | rfl | rfl <;> simp)).2
  have first := M03.first_part hw1 hw3 hc hd
  have pc := ps_of hc
  have pd := ps_of hd
  show AS K _ _ [some (.d (.int w)), some (.d (dInts cs)), some (.d (dInts ds)), none, none, none, none] μ
  unfold t__law_alike_right
  walk_at "xs"
  refine ax_lcF (fun S : Kys => W.d (dKs S)) (fnd w w) (fun S => !decide (aft S cs = aft S ds)) (fun S => W.d (dKs S)) (sz_ok (by omega)) (wk_name (by decide)) (ai_l (ai_list ?_)) ?_ ?_
  · walk_at "xs"
    refine ⟨w, rfl, hw1, hw3, ?_⟩
    exact ⟨_, LW.d _, (kdKs _).symm, LW.d _, rfl⟩
  · intro S hS
    have sl := (ok S hS).2
    walk_at "wp"
    walk_at "xs"
    refine ⟨S, cs, rfl, by omega, ?_⟩
    walk_at "xs"
    refine ⟨S, ds, rfl, by omega, ?_⟩
    refine o_neKs (.d _) (.d _) ?_
    refine ⟨_, rfl, rfl, rfl, fun _ => ?_⟩
    walk_at "xs"
    walk_at "e"
  · have xl : ((fnd w w).filter fun S => !decide (aft S cs = aft S ds)).length ≤ 200 := Nat.le_trans (List.length_filter_le _ _) fl
    generalize (fnd w w).filter (fun S => !decide (aft S cs = aft S ds)) = X at first xl
    have fn := M03.fa_none (f := frm cs) (g := frm ds)
    have nil : frm cs = frm ds ↔ X = [] := by
      rw [← fn, ← first]
      cases X <;> simp
    rw [kdKs]
    refine NL.d (xs := X.map dKs) ?_ rfl
    walk_at "xd"
    refine NL.app ?_
    walk_at "xs"
    refine o_ixL (z := W.d (dFa (fa (frm cs) (frm ds)))) (LW.d _) (by
      rw [← first]
      cases X with
      | nil => exact atI_0 _ _
      | cons S X => exact atI_0 _ _) ?_
    have t1 : Shw (.list [dInts cs, dInts ds]) := ((gd_cs (n := 12) (fun c h => by have := hc c h; omega) hcl).cons_ ((gd_cs (n := 12) (fun c h => by have := hd c h; omega) hdl).cons_ Gds.nil)).lst.shw (by decide) (by decide)
    have eX : ∀ (μ : Mu) (R' : W → Mu → Prop), R' (.d (.bool (decide (frm cs = frm ds)))) μ → AO K (rEqU K) (.d (.list (X.map dKs))) (.d (.list [])) μ R' := fun μ R' h => by
      refine o_eqP (.d _) (.d _) (eqb_list (n := 2) fun d hd => by
        obtain ⟨S, _, rfl⟩ := List.mem_map.mp hd
        exact eqb_dKs S) Eqbs.nil.lst (by decide) (by decide) fun b hb => ?_
      have e : b = decide (frm cs = frm ds) := by
        rw [Bool.eq_iff_iff, hb, decide_eq_true_iff, nil]
        simp
      rw [e]
      exact h
    walk_at "xd"
    refine c_rep (.d _) t1 ?_
    walk_at "xs"
    refine ⟨cs, ds, rfl, pc, pd, by omega, by omega, ?_⟩
    walk_at "xd"
    refine eX _ _ ?_
    walk_at "xs"
    refine ⟨_, _, rfl, ?_⟩
    rw [beq_self_eq_true]
    walk_at "xi"
    refine ⟨ds, cs, rfl, pd, pc, by omega, by omega, ?_⟩
    walk_at "xd"
    refine eX _ _ ?_
    walk_at "xs"
    refine ⟨_, _, rfl, ?_⟩
    rw [show decide (frm ds = frm cs) = decide (frm cs = frm ds) from decide_eq_decide.mpr ⟨Eq.symm, Eq.symm⟩, beq_self_eq_true]
    walk_at "xi"
    refine ⟨cs, ds, rfl, pc, pd, by omega, by omega, ?_⟩
    walk_at "xs"
    refine o_neP (.d _) (.d _) (eqb_dFa _) (eqb_dFa _) (by decide) (by decide) fun b hb => ?_
    have hb : b = true := hb.mpr rfl
    subst hb
    refine ⟨_, rfl, ite_f rfl ?_⟩
    walk_at "xs"
    refine ⟨ds, cs, rfl, pd, pc, by omega, by omega, ?_⟩
    rw [M03.fa_comm]
    walk_at "xs"
    refine o_neP (.d _) (.d _) (eqb_dFa _) (eqb_dFa _) (by decide) (by decide) fun b hb => ?_
    have hb : b = true := hb.mpr rfl
    subst hb
    refine ⟨_, rfl, ite_f rfl ?_⟩
    refine as_next ?_
    walk_at "xd"
    refine c_rep (.d _) t1 ?_
    walk_at "xs"
    rw [eq_self']
    exact q
theorem rd__law_right {K : PySem.W.Frag} : ∀ ws μ R, F__law_right ws μ R → AS K (t__law_right K) { nx := fun _ μ' => R (.d .none) μ', rt := R } (stG n__law_right ws) μ := by
  rintro ws μ R ⟨k, p, rfl, hk, hp, q⟩
  refine as_fz ?_
  show AS K _ _ [some (.m k), none, none, none, none, none, none, none, none, none, none] μ
  unfold t__law_right
  walk_at "xd"
  walk_at "dr"
  intro r0 p0 a0 b0 hp0
  obtain ⟨s, hs, s1, s2⟩ : ∃ s : Int, atI (List.map W.d [PyData.int 3, .int 3, .int 3, .int 5]) r0 = some (.d (.int s)) ∧ 3 ≤ s ∧ s ≤ 5 := by
    have : r0 = 0 ∨ r0 = 1 ∨ r0 = 2 ∨ r0 = 3 := by omega
    rcases this with rfl | rfl | rfl | rfl
    · exact ⟨3, rfl, by decide, by decide⟩
    · exact ⟨3, rfl, by decide, by decide⟩
    · exact ⟨3, rfl, by decide, by decide⟩
    · exact ⟨5, rfl, by decide, by decide⟩
  refine o_ixL (.d _) hs ?_
  walk_at "xs"
  walk_at "dr"
  intro r1 p1 a1 b1 hp1
  rw [mu_set2]
  obtain ⟨w, hw⟩ : ∃ w : Nat, (w : Int) = 1 + r1 := ⟨(1 + r1).toNat, by omega⟩
  walk_at "xs"
  rw [← hw]
  refine ⟨k, p1, _, w, 10, rfl, by walk_at "mu", hp1, by omega, by omega, by omega, by omega, fun cs p2 l1 c1 hp2 => ?_⟩
  rw [mu_set2]
  walk_at "xs"
  refine ⟨k, p2, _, w, cs, rfl, by walk_at "mu", hp2, by omega, by omega, by omega, l1, c1, fun ds p3 l2 c2 hp3 => ?_⟩
  rw [mu_set2]
  walk_at "xs"
  refine as_mid (fun Γ' μ' => ∃ z4 z5 z6 z7 z8 z9 z10 p' L, Γ' = [some (.m k), some (.d (.int w)), some (.d (dInts cs)), some (.d (dInts ds)), z4, z5, z6, z7, z8, z9, z10] ∧ μ' = μ.set k p' ++ L ∧ PotOk 3000 p') ?_ ?_
  · refine as_for (fun es : List Int => W.d (dInts es)) [cs, ds] (fun pre Γ' μ' => ∃ z4 z5 z6 z7 z8 z9 z10 p' L, Γ' = [some (.m k), some (.d (.int w)), some (.d (dInts cs)), some (.d (dInts ds)), z4, z5, z6, z7, z8, z9, z10] ∧ μ' = μ.set k p' ++ L ∧ PotOk (1000 + 1000 * pre.length) p') (ai_l (ai_list ?_)) ?_ ?_
    · walk_at "xd"
      exact ⟨_, LW.d _, rfl, fun _ _ _ _ => LW.d _, _, _, _, _, _, _, _, p3, [], rfl, by simp, hp3.le (by omega)⟩
    · rintro pre es post Γ' μ' e ⟨z4, z5, z6, z7, z8, z9, z10, p', L, rfl, rfl, hp'⟩
      have hprl : pre.length ≤ 1 := by
        have := congrArg List.length e
        simp at this
        omega
      obtain ⟨el, ec⟩ : es.length ≤ 12 ∧ ∀ c ∈ es, 0 ≤ c ∧ c < (w : Int) := by
        have : es ∈ [cs, ds] := by rw [e]; simp
        rcases List.mem_cons.mp this with z | z
        · rw [z]
          exact ⟨by omega, c1⟩
        · rw [List.mem_singleton.mp z]
          exact ⟨l2, c2⟩
      have pe := ps_of ec
      have good := M03.frm_good pe
      have fl := M03.frm_len es
      have t1 : Shw (dInts es) := (gd_cs (n := 12) (fun c h => by have := ec c h; omega) el).shw (by decide) (by decide)
      walk_at "xs"
      refine c_rep (.d _) t1 ?_
      walk_at "xs"
      refine ⟨es, rfl, pe, by omega, ?_⟩
      walk_at "xd"
      refine ⟨[], es, rfl, by simp; omega, ?_⟩
      walk_at "xs"
      refine ⟨es, rfl, by omega, ?_⟩
      walk_at "xd"
      refine o_neFm (f := frm es) (g := frm es) ?_
      refine ⟨_, rfl, ite_f ne_self ?_⟩
      walk_at "xs"
      refine o_ixT (tw_dFm (frm es)) (z := W.d (.bool (frm es).2)) rfl ?_
      walk_at "xi"
      refine ⟨es, rfl, pe, by omega, ?_⟩
      walk_at "xs"
      refine o_neFm ?_
      refine ⟨_, rfl, ite_f ne_self ?_⟩
      walk_at "xs"
      refine ⟨frm es, rfl, by omega, good.hasF, ?_⟩
      walk_at "xi"
      refine c_rep (.d _) t1 ?_
      walk_at "xi"
      refine ax_lcD (fun (i : Nat) => W.d (.int (0 + i))) (wk_name (by decide)) (ai_rng1 ?_)
      walk_at "xs"
      refine ⟨by omega, List.range (12 : Int).toNat, fun pr acc μ' => ∃ (Ys : List Kys) (p'' : Option C), acc = (Ys.map dKs).map W.d ∧ μ' = μ.set k p'' ++ L ∧ (∀ S ∈ Ys, OkK S ∧ S.length ≤ 6) ∧ Ys.length = pr.length ∧ PotOk (1000 + 1000 * pre.length + 20 * pr.length) p'', rfl, sz_ok (by simp), fun _ _ _ _ => trivial, ⟨[], p', rfl, rfl, (fun _ z => by cases z), rfl, hp'⟩, ?_, ?_⟩
      · rintro pr i po acc μ' e2 hl2 ⟨Ys, p'', rfl, rfl, f1, f2, f3⟩
        obtain ⟨e3, e4⟩ := rng_split e2
        have e4 : i < 12 := e4
        have hk2 : (μ.set k p'' ++ L)[k]? = some p'' := mu_app (mu_set hk)
        walk_at "wp"
        walk_at "xs"
        refine ite_t rfl ?_
        walk_at "xs"
        refine ⟨k, p'', _, w, rfl, hk2, f3, by omega, by omega, fun S p4 sk sl sn hp4 => ?_⟩
        have es2 : (μ.set k p'' ++ L).set k p4 = μ.set k p4 ++ L := by
          rw [List.set_append_left _ _ (by rw [List.length_set]; exact (List.getElem?_eq_some_iff.mp hk).1), List.set_set]
        rw [es2]
        refine ⟨Ys ++ [S], p4, by simp, rfl, fun S' hS' => ?_, by simp; omega, hp4.le (by simp; omega)⟩
        rcases List.mem_append.mp hS' with h | h
        · exact f1 S' h
        · rw [List.mem_singleton.mp h]
          exact ⟨sk, by omega⟩
      · rintro acc μ' ⟨Ys0, p4, rfl, rfl, y0, y2, hp4⟩
        have hp4 : PotOk (1000 + 1000 * pre.length + 20 * 12) p4 := hp4
        refine NL.d (xs := Ys0.map dKs) ?_ rfl
        refine ag_name ?_
        simp only [List.set_cons_zero, List.set_cons_succ]
        generalize hν : μ.set k p4 ++ L = ν
        refine as_cut (fun Γ' m => ∃ Ys : List Kys, Γ' = [some (.m k), some (.d (.int w)), some (.d (dInts cs)), some (.d (dInts ds)), some (.d (dInts es)), some (.d (.str (dInts es).shown)), some (.d (dFm (frm es))), some (.d (.list (Ys.map dKs))), z8, z9, z10] ∧ m = ν ∧ (∀ S ∈ Ys, OkK S ∧ S.length ≤ 6)) ?_ ?_
        · walk_at "xs"
          refine ite_b (fun h => ?_) fun h => ?_
          · have h := of_decide_eq_true h
            walk_at "xs"
            refine ⟨w, rfl, by omega, by omega, ?_⟩
            walk_at "xs"
            intro S hS
            obtain ⟨h1, h2⟩ := M03.fnd_ok w (M03.w3 (by omega) (by omega)) S hS
            exact ⟨h1, by omega⟩
          · refine as_next ?_
            exact ⟨Ys0, rfl, rfl, y0⟩
        · rintro Γ' m ⟨Ys, rfl, rfl, y1⟩
          refine as_for (fun S : Kys => W.d (dKs S)) Ys (fun pr Γ' μ' => ∃ z8 z9 L', Γ' = [some (.m k), some (.d (.int w)), some (.d (dInts cs)), some (.d (dInts ds)), some (.d (dInts es)), some (.d (.str (dInts es).shown)), some (.d (dFm (frm es))), some (.d (.list (Ys.map dKs))), z8, z9, z10] ∧ μ' = m ++ L') (ai_l (ai_list ?_)) ?_ ?_
          · walk_at "xs"
            exact ⟨_, LW.d _, (kdKs Ys).symm, fun _ _ _ _ => LW.d _, _, _, [], rfl, by simp⟩
          · rintro pr S po Γ' μ' e5 ⟨z8, z9, L', rfl, rfl⟩
            obtain ⟨sk, sl⟩ := y1 S (by rw [e5]; simp)
            have al := M03.aft_len S es
            generalize hξ : m ++ L' = ξ
            walk_at "xs"
            refine ⟨frm es, S, rfl, good.hasF, by omega, sk, by omega, ?_⟩
            rw [M03.made_frm pe sk]
            walk_at "xs"
            refine ⟨S, es, rfl, by omega, ?_⟩
            refine o_neKs (rs_mKs (by walk_at "mu")) (.d _) ?_
            refine ⟨_, rfl, ite_f ne_self ?_⟩
            walk_at "xs"
            refine ⟨frm es, S, rfl, good.hasF, by omega, sk, by omega, ?_⟩
            rw [M03.made_frm pe sk]
            walk_at "nm"
            walk_at "xs"
            refine o_neKs (S := aft S es) (T := aft S es) (rs_mKs mu_at1) (rs_mKs mu_at0) ?_
            refine ⟨_, rfl, ite_f ne_self ?_⟩
            walk_at "xi"
            refine am_append (ws := (aft S es).map fun k => W.d (dK k)) mu_at0 (sz_lt (by simp only [List.length_map]; omega)) ?_
            walk_at "nm"
            walk_at "xs"
            refine ⟨frm es, S, rfl, good.hasF, by omega, sk, by omega, ?_⟩
            rw [M03.made_frm pe sk]
            walk_at "nm"
            walk_at "xs"
            refine o_eqP (d := dKs (aft S es)) (e := .list ((aft S es).map dK ++ [.none])) (rs_mKs mu_at2) (.m mu_at0 ?_) (eqb_dKs _) (eqb_list (n := 1) fun d hd => ?_) (by decide) (by decide) fun b hb => ?_
            · rw [kdK]
              have := Rss.ds (μ := ξ ++ [some (C.lst (List.map (fun k => W.d (dK k)) (aft S es) ++ [W.d PyData.none])), mKs (aft S es), mKs (aft S es)]) ((aft S es).map dK ++ [.none])
              rw [List.map_append] at this
              rw [kdK] at this
              exact this
            · rcases List.mem_append.mp hd with h | h
              · obtain ⟨x, _, rfl⟩ := List.mem_map.mp h
                exact eqb_dK x
              · rw [List.mem_singleton.mp h]
                exact eqb_none.le (by omega)
            · have hb2 : b = false := by
                cases b with
                | false => rfl
                | true =>
                  have z := hb.mp rfl
                  have z := congrArg List.length (PyData.list.inj z)
                  simp at z
              subst hb2
              refine ⟨_, rfl, ite_f rfl ?_⟩
              walk_at "xs"
              refine ⟨es, rfl, pe, by omega, ?_⟩
              refine o_neFm ?_
              refine ⟨_, rfl, ite_f ne_self ?_⟩
              refine as_next ?_
              refine ⟨_, _, L' ++ [some (C.lst (List.map (fun k => W.d (dK k)) (aft S es) ++ [W.d PyData.none])), mKs (aft S es), mKs (aft S es)], rfl, ?_⟩
              rw [← hξ, List.append_assoc]
          · rintro Γ' μ' ⟨z8, z9, L', rfl, rfl⟩
            refine ⟨_, _, _, _, _, _, _, p4, L ++ L', rfl, ?_, hp4.le (by simp; omega)⟩
            rw [← hν, List.append_assoc]
    · rintro Γ' μ' ⟨z4, z5, z6, z7, z8, z9, z10, p', L, rfl, rfl, hp'⟩
      exact ⟨_, _, _, _, _, _, _, p', L, rfl, rfl, hp'.le (by simp)⟩
  · rintro Γ' μ' ⟨z4, z5, z6, z7, z8, z9, z10, p', L, rfl, rfl, hp'⟩
    have hk2 : (μ.set k p' ++ L)[k]? = some p' := mu_app (mu_set hk)
    have kl := (List.getElem?_eq_some_iff.mp hk).1
    have es2 : ∀ p4, (μ.set k p' ++ L).set k p4 = μ.set k p4 ++ L := fun p4 => by
      rw [List.set_append_left _ _ (by rw [List.length_set]; exact kl), List.set_set]
    have rest : AS K (tRet (tAndT K (tCallS (spD K F__law_far_right) Ez (tCons (tVar 0) tNil)) (tCallS (spD K F__law_many_right) Ez (tCons (tVar 0) tNil)))) { nx := fun _ μ' => Fz μ (.d .none) μ' R, rt := fun w μ' => Fz μ w μ' R } [some (.m k), some (.d (.int w)), some (.d (dInts cs)), some (.d (dInts ds)), z4, z5, z6, z7, z8, z9, z10] (μ.set k p' ++ L) := by
      walk_at "xs"
      refine ⟨k, p', _, rfl, hk2, hp', by omega, fun p4 hp4 => ?_⟩
      rw [es2]
      walk_at "xi"
      have hk3 : (μ.set k p4 ++ L)[k]? = some p4 := mu_app (mu_set hk)
      refine ⟨k, p4, _, rfl, hk3, hp4, by omega, fun p5 hp5 => ?_⟩
      have es3 : (μ.set k p4 ++ L).set k p5 = μ.set k p5 ++ L := by
        rw [List.set_append_left _ _ (by rw [List.length_set]; exact kl), List.set_set]
      rw [es3]
      exact ⟨_, _, _, rfl, by simp, Keeps.pot hp5, .d _, q _ ⟨_, hp5⟩⟩
    walk_at "xs"
    refine ite_b (fun h => ?_) fun h => ?_
    · have h := of_decide_eq_true h
      walk_at "xs"
      refine ⟨w, cs, ds, rfl, by omega, by omega, by omega, by omega, c1, c2, ?_⟩
      refine ⟨_, rfl, ?_⟩
      refine ite_f rfl ?_
      refine as_next ?_
      exact rest
    · refine ite_f rfl ?_
      refine as_next ?_
      exact rest
theorem rd_law {K : PySem.W.Frag} : ∀ ws μ R, F_law ws μ R → AS K (t_law K) { nx := fun _ μ' => R (.d .none) μ', rt := R } (stG n_law ws) μ := by
  rintro ws μ R ⟨ns, rfl, hns, q⟩
  refine as_fz ?_
  show AS K (t_law K) _ [some (.f (wInts ns)), none] μ
  unfold t_law
  walk_at "xs"
  refine as_for (fun (i : Nat) => W.d (.int (0 + i))) (List.range (max 1 (min 5 ((wInts ns).length : Int))).toNat) (fun pre Γ' μ' => ∃ cs z1, Γ' = [some (.f (wInts ns)), z1] ∧ μ' = μ ++ cs) (ai_rng1 ?_) ?_ ?_
  · walk_at "xs"
    exact ⟨by omega, rfl, fun _ _ _ _ => trivial, [], none, rfl, by simp⟩
  · rintro pre x post Γ' μ' e ⟨cs, z1, rfl, rfl⟩
    obtain ⟨ex, xl⟩ := rng_split e
    walk_at "xs"
    refine ⟨ns, _, rfl, by omega, by omega, fun p hp => ?_⟩
    walk_at "xs"
    refine ⟨_, p, rfl, mu_end, hp, fun p' hp' => ?_⟩
    refine ⟨_, rfl, ?_⟩
    refine ite_f rfl ?_
    refine as_next ?_
    refine ⟨cs ++ [p'], _, rfl, ?_⟩
    rw [mu_setEnd, List.append_assoc]
  · rintro Γ' μ' ⟨cs, z1, rfl, rfl⟩
    walk_at "xs"
    exact Fz.same (.d _) q
end Lw

namespace Lw
open PySem PySem.Spec PyProof.Rows L2 Pd
theorem len_are_keys {ws : List W} {μ : Mu} {R : W → Mu → Prop} (h : F_are_keys ws μ R) : ws.length = p_are_keys.length := by
  unfold F_are_keys at h
  first
    | (repeat' (rcases h with ⟨x, h⟩)) ; subst_vars ; rfl ; done
    | (rcases h with h | h <;> (repeat' (rcases h with ⟨x, h⟩)) <;> subst_vars <;> rfl ; done)
    | (rcases h with h | h | h <;> (repeat' (rcases h with ⟨x, h⟩)) <;> subst_vars <;> rfl ; done)
    | ((repeat (replace h := h.choose_spec)) ; rw [h.1] ; rfl ; done)
    | exact lenx_are_keys h
theorem len_after_click {ws : List W} {μ : Mu} {R : W → Mu → Prop} (h : F_after_click ws μ R) : ws.length = p_after_click.length := by
  unfold F_after_click at h
  first
    | (repeat' (rcases h with ⟨x, h⟩)) ; subst_vars ; rfl ; done
    | (rcases h with h | h <;> (repeat' (rcases h with ⟨x, h⟩)) <;> subst_vars <;> rfl ; done)
    | (rcases h with h | h | h <;> (repeat' (rcases h with ⟨x, h⟩)) <;> subst_vars <;> rfl ; done)
    | ((repeat (replace h := h.choose_spec)) ; rw [h.1] ; rfl ; done)
    | exact lenx_after_click h
theorem len_need_keys {ws : List W} {μ : Mu} {R : W → Mu → Prop} {S : Str → W → Mu → Prop} (h : F_need_keys ws μ R S) : ws.length = p_need_keys.length := by
  unfold F_need_keys at h
  first
    | (repeat' (rcases h with ⟨x, h⟩)) ; subst_vars ; rfl ; done
    | (rcases h with h | h <;> (repeat' (rcases h with ⟨x, h⟩)) <;> subst_vars <;> rfl ; done)
    | (rcases h with h | h | h <;> (repeat' (rcases h with ⟨x, h⟩)) <;> subst_vars <;> rfl ; done)
    | ((repeat (replace h := h.choose_spec)) ; rw [h.1] ; rfl ; done)
    | exact lenx_need_keys h
theorem len_after_clicks {ws : List W} {μ : Mu} {R : W → Mu → Prop} (h : F_after_clicks ws μ R) : ws.length = p_after_clicks.length := by
  unfold F_after_clicks at h
  first
    | (repeat' (rcases h with ⟨x, h⟩)) ; subst_vars ; rfl ; done
    | (rcases h with h | h <;> (repeat' (rcases h with ⟨x, h⟩)) <;> subst_vars <;> rfl ; done)
    | (rcases h with h | h | h <;> (repeat' (rcases h with ⟨x, h⟩)) <;> subst_vars <;> rfl ; done)
    | ((repeat (replace h := h.choose_spec)) ; rw [h.1] ; rfl ; done)
    | exact lenx_after_clicks h
theorem len_has_form {ws : List W} {μ : Mu} {R : W → Mu → Prop} (h : F_has_form ws μ R) : ws.length = p_has_form.length := by
  unfold F_has_form at h
  first
    | (repeat' (rcases h with ⟨x, h⟩)) ; subst_vars ; rfl ; done
    | (rcases h with h | h <;> (repeat' (rcases h with ⟨x, h⟩)) <;> subst_vars <;> rfl ; done)
    | (rcases h with h | h | h <;> (repeat' (rcases h with ⟨x, h⟩)) <;> subst_vars <;> rfl ; done)
    | ((repeat (replace h := h.choose_spec)) ; rw [h.1] ; rfl ; done)
    | exact lenx_has_form h
theorem len_need_form {ws : List W} {μ : Mu} {R : W → Mu → Prop} {S : Str → W → Mu → Prop} (h : F_need_form ws μ R S) : ws.length = p_need_form.length := by
  unfold F_need_form at h
  first
    | (repeat' (rcases h with ⟨x, h⟩)) ; subst_vars ; rfl ; done
    | (rcases h with h | h <;> (repeat' (rcases h with ⟨x, h⟩)) <;> subst_vars <;> rfl ; done)
    | (rcases h with h | h | h <;> (repeat' (rcases h with ⟨x, h⟩)) <;> subst_vars <;> rfl ; done)
    | ((repeat (replace h := h.choose_spec)) ; rw [h.1] ; rfl ; done)
    | exact lenx_need_form h
theorem len_columns_of {ws : List W} {μ : Mu} {R : W → Mu → Prop} (h : F_columns_of ws μ R) : ws.length = p_columns_of.length := by
  unfold F_columns_of at h
  first
    | (repeat' (rcases h with ⟨x, h⟩)) ; subst_vars ; rfl ; done
    | (rcases h with h | h <;> (repeat' (rcases h with ⟨x, h⟩)) <;> subst_vars <;> rfl ; done)
    | (rcases h with h | h | h <;> (repeat' (rcases h with ⟨x, h⟩)) <;> subst_vars <;> rfl ; done)
    | ((repeat (replace h := h.choose_spec)) ; rw [h.1] ; rfl ; done)
    | exact lenx_columns_of h
theorem len_is_left_alone {ws : List W} {μ : Mu} {R : W → Mu → Prop} (h : F_is_left_alone ws μ R) : ws.length = p_is_left_alone.length := by
  unfold F_is_left_alone at h
  first
    | (repeat' (rcases h with ⟨x, h⟩)) ; subst_vars ; rfl ; done
    | (rcases h with h | h <;> (repeat' (rcases h with ⟨x, h⟩)) <;> subst_vars <;> rfl ; done)
    | (rcases h with h | h | h <;> (repeat' (rcases h with ⟨x, h⟩)) <;> subst_vars <;> rfl ; done)
    | ((repeat (replace h := h.choose_spec)) ; rw [h.1] ; rfl ; done)
    | exact lenx_is_left_alone h
theorem len_made_form {ws : List W} {μ : Mu} {R : W → Mu → Prop} (h : F_made_form ws μ R) : ws.length = p_made_form.length := by
  unfold F_made_form at h
  first
    | (repeat' (rcases h with ⟨x, h⟩)) ; subst_vars ; rfl ; done
    | (rcases h with h | h <;> (repeat' (rcases h with ⟨x, h⟩)) <;> subst_vars <;> rfl ; done)
    | (rcases h with h | h | h <;> (repeat' (rcases h with ⟨x, h⟩)) <;> subst_vars <;> rfl ; done)
    | ((repeat (replace h := h.choose_spec)) ; rw [h.1] ; rfl ; done)
    | exact lenx_made_form h
theorem len_form_of {ws : List W} {μ : Mu} {R : W → Mu → Prop} {S : Str → W → Mu → Prop} (h : F_form_of ws μ R S) : ws.length = p_form_of.length := by
  unfold F_form_of at h
  first
    | (repeat' (rcases h with ⟨x, h⟩)) ; subst_vars ; rfl ; done
    | (rcases h with h | h <;> (repeat' (rcases h with ⟨x, h⟩)) <;> subst_vars <;> rfl ; done)
    | (rcases h with h | h | h <;> (repeat' (rcases h with ⟨x, h⟩)) <;> subst_vars <;> rfl ; done)
    | ((repeat (replace h := h.choose_spec)) ; rw [h.1] ; rfl ; done)
    | exact lenx_form_of h
theorem len_is_form {ws : List W} {μ : Mu} {R : W → Mu → Prop} (h : F_is_form ws μ R) : ws.length = p_is_form.length := by
  unfold F_is_form at h
  first
    | (repeat' (rcases h with ⟨x, h⟩)) ; subst_vars ; rfl ; done
    | (rcases h with h | h <;> (repeat' (rcases h with ⟨x, h⟩)) <;> subst_vars <;> rfl ; done)
    | (rcases h with h | h | h <;> (repeat' (rcases h with ⟨x, h⟩)) <;> subst_vars <;> rfl ; done)
    | ((repeat (replace h := h.choose_spec)) ; rw [h.1] ; rfl ; done)
    | exact lenx_is_form h
theorem len_made_of {ws : List W} {μ : Mu} {R : W → Mu → Prop} (h : F_made_of ws μ R) : ws.length = p_made_of.length := by
  unfold F_made_of at h
  first
    | (repeat' (rcases h with ⟨x, h⟩)) ; subst_vars ; rfl ; done
    | (rcases h with h | h <;> (repeat' (rcases h with ⟨x, h⟩)) <;> subst_vars <;> rfl ; done)
    | (rcases h with h | h | h <;> (repeat' (rcases h with ⟨x, h⟩)) <;> subst_vars <;> rfl ; done)
    | ((repeat (replace h := h.choose_spec)) ; rw [h.1] ; rfl ; done)
    | exact lenx_made_of h
theorem len_formed {ws : List W} {μ : Mu} {R : W → Mu → Prop} {S : Str → W → Mu → Prop} (h : F_formed ws μ R S) : ws.length = p_formed.length := by
  unfold F_formed at h
  first
    | (repeat' (rcases h with ⟨x, h⟩)) ; subst_vars ; rfl ; done
    | (rcases h with h | h <;> (repeat' (rcases h with ⟨x, h⟩)) <;> subst_vars <;> rfl ; done)
    | (rcases h with h | h | h <;> (repeat' (rcases h with ⟨x, h⟩)) <;> subst_vars <;> rfl ; done)
    | ((repeat (replace h := h.choose_spec)) ; rw [h.1] ; rfl ; done)
    | exact lenx_formed h
theorem len_alike {ws : List W} {μ : Mu} {R : W → Mu → Prop} {S : Str → W → Mu → Prop} (h : F_alike ws μ R S) : ws.length = p_alike.length := by
  unfold F_alike at h
  first
    | (repeat' (rcases h with ⟨x, h⟩)) ; subst_vars ; rfl ; done
    | (rcases h with h | h <;> (repeat' (rcases h with ⟨x, h⟩)) <;> subst_vars <;> rfl ; done)
    | (rcases h with h | h | h <;> (repeat' (rcases h with ⟨x, h⟩)) <;> subst_vars <;> rfl ; done)
    | ((repeat (replace h := h.choose_spec)) ; rw [h.1] ; rfl ; done)
    | exact lenx_alike h
theorem len_first_apart {ws : List W} {μ : Mu} {R : W → Mu → Prop} {S : Str → W → Mu → Prop} (h : F_first_apart ws μ R S) : ws.length = p_first_apart.length := by
  unfold F_first_apart at h
  first
    | (repeat' (rcases h with ⟨x, h⟩)) ; subst_vars ; rfl ; done
    | (rcases h with h | h <;> (repeat' (rcases h with ⟨x, h⟩)) <;> subst_vars <;> rfl ; done)
    | (rcases h with h | h | h <;> (repeat' (rcases h with ⟨x, h⟩)) <;> subst_vars <;> rfl ; done)
    | ((repeat (replace h := h.choose_spec)) ; rw [h.1] ; rfl ; done)
    | exact lenx_first_apart h
theorem len__law_open {ws : List W} {μ : Mu} {R : W → Mu → Prop} (h : F__law_open ws μ R) : ws.length = p__law_open.length := by
  unfold F__law_open at h
  first
    | (repeat' (rcases h with ⟨x, h⟩)) ; subst_vars ; rfl ; done
    | (rcases h with h | h <;> (repeat' (rcases h with ⟨x, h⟩)) <;> subst_vars <;> rfl ; done)
    | (rcases h with h | h | h <;> (repeat' (rcases h with ⟨x, h⟩)) <;> subst_vars <;> rfl ; done)
    | ((repeat (replace h := h.choose_spec)) ; rw [h.1] ; rfl ; done)
    | exact lenx__law_open h
theorem len__law_draw {ws : List W} {μ : Mu} {R : W → Mu → Prop} (h : F__law_draw ws μ R) : ws.length = p__law_draw.length := by
  unfold F__law_draw at h
  first
    | (repeat' (rcases h with ⟨x, h⟩)) ; subst_vars ; rfl ; done
    | (rcases h with h | h <;> (repeat' (rcases h with ⟨x, h⟩)) <;> subst_vars <;> rfl ; done)
    | (rcases h with h | h | h <;> (repeat' (rcases h with ⟨x, h⟩)) <;> subst_vars <;> rfl ; done)
    | ((repeat (replace h := h.choose_spec)) ; rw [h.1] ; rfl ; done)
    | exact lenx__law_draw h
theorem len__law_clicks {ws : List W} {μ : Mu} {R : W → Mu → Prop} (h : F__law_clicks ws μ R) : ws.length = p__law_clicks.length := by
  unfold F__law_clicks at h
  first
    | (repeat' (rcases h with ⟨x, h⟩)) ; subst_vars ; rfl ; done
    | (rcases h with h | h <;> (repeat' (rcases h with ⟨x, h⟩)) <;> subst_vars <;> rfl ; done)
    | (rcases h with h | h | h <;> (repeat' (rcases h with ⟨x, h⟩)) <;> subst_vars <;> rfl ; done)
    | ((repeat (replace h := h.choose_spec)) ; rw [h.1] ; rfl ; done)
    | exact lenx__law_clicks h
theorem len__law_click {ws : List W} {μ : Mu} {R : W → Mu → Prop} (h : F__law_click ws μ R) : ws.length = p__law_click.length := by
  unfold F__law_click at h
  first
    | (repeat' (rcases h with ⟨x, h⟩)) ; subst_vars ; rfl ; done
    | (rcases h with h | h <;> (repeat' (rcases h with ⟨x, h⟩)) <;> subst_vars <;> rfl ; done)
    | (rcases h with h | h | h <;> (repeat' (rcases h with ⟨x, h⟩)) <;> subst_vars <;> rfl ; done)
    | ((repeat (replace h := h.choose_spec)) ; rw [h.1] ; rfl ; done)
    | exact lenx__law_click h
theorem len__law_after {ws : List W} {μ : Mu} {R : W → Mu → Prop} (h : F__law_after ws μ R) : ws.length = p__law_after.length := by
  unfold F__law_after at h
  first
    | (repeat' (rcases h with ⟨x, h⟩)) ; subst_vars ; rfl ; done
    | (rcases h with h | h <;> (repeat' (rcases h with ⟨x, h⟩)) <;> subst_vars <;> rfl ; done)
    | (rcases h with h | h | h <;> (repeat' (rcases h with ⟨x, h⟩)) <;> subst_vars <;> rfl ; done)
    | ((repeat (replace h := h.choose_spec)) ; rw [h.1] ; rfl ; done)
    | exact lenx__law_after h
theorem len__law_keys {ws : List W} {μ : Mu} {R : W → Mu → Prop} (h : F__law_keys ws μ R) : ws.length = p__law_keys.length := by
  unfold F__law_keys at h
  first
    | (repeat' (rcases h with ⟨x, h⟩)) ; subst_vars ; rfl ; done
    | (rcases h with h | h <;> (repeat' (rcases h with ⟨x, h⟩)) <;> subst_vars <;> rfl ; done)
    | (rcases h with h | h | h <;> (repeat' (rcases h with ⟨x, h⟩)) <;> subst_vars <;> rfl ; done)
    | ((repeat (replace h := h.choose_spec)) ; rw [h.1] ; rfl ; done)
    | exact lenx__law_keys h
theorem len__law_every {ws : List W} {μ : Mu} {R : W → Mu → Prop} (h : F__law_every ws μ R) : ws.length = p__law_every.length := by
  unfold F__law_every at h
  first
    | (repeat' (rcases h with ⟨x, h⟩)) ; subst_vars ; rfl ; done
    | (rcases h with h | h <;> (repeat' (rcases h with ⟨x, h⟩)) <;> subst_vars <;> rfl ; done)
    | (rcases h with h | h | h <;> (repeat' (rcases h with ⟨x, h⟩)) <;> subst_vars <;> rfl ; done)
    | ((repeat (replace h := h.choose_spec)) ; rw [h.1] ; rfl ; done)
    | exact lenx__law_every h
theorem len__law_says {ws : List W} {μ : Mu} {R : W → Mu → Prop} (h : F__law_says ws μ R) : ws.length = p__law_says.length := by
  unfold F__law_says at h
  first
    | (repeat' (rcases h with ⟨x, h⟩)) ; subst_vars ; rfl ; done
    | (rcases h with h | h <;> (repeat' (rcases h with ⟨x, h⟩)) <;> subst_vars <;> rfl ; done)
    | (rcases h with h | h | h <;> (repeat' (rcases h with ⟨x, h⟩)) <;> subst_vars <;> rfl ; done)
    | ((repeat (replace h := h.choose_spec)) ; rw [h.1] ; rfl ; done)
    | exact lenx__law_says h
theorem len__law_bound {ws : List W} {μ : Mu} {R : W → Mu → Prop} (h : F__law_bound ws μ R) : ws.length = p__law_bound.length := by
  unfold F__law_bound at h
  first
    | (repeat' (rcases h with ⟨x, h⟩)) ; subst_vars ; rfl ; done
    | (rcases h with h | h <;> (repeat' (rcases h with ⟨x, h⟩)) <;> subst_vars <;> rfl ; done)
    | (rcases h with h | h | h <;> (repeat' (rcases h with ⟨x, h⟩)) <;> subst_vars <;> rfl ; done)
    | ((repeat (replace h := h.choose_spec)) ; rw [h.1] ; rfl ; done)
    | exact lenx__law_bound h
theorem len__law_other {ws : List W} {μ : Mu} {R : W → Mu → Prop} (h : F__law_other ws μ R) : ws.length = p__law_other.length := by
  unfold F__law_other at h
  first
    | (repeat' (rcases h with ⟨x, h⟩)) ; subst_vars ; rfl ; done
    | (rcases h with h | h <;> (repeat' (rcases h with ⟨x, h⟩)) <;> subst_vars <;> rfl ; done)
    | (rcases h with h | h | h <;> (repeat' (rcases h with ⟨x, h⟩)) <;> subst_vars <;> rfl ; done)
    | ((repeat (replace h := h.choose_spec)) ; rw [h.1] ; rfl ; done)
    | exact lenx__law_other h
theorem len__law_is_form_right {ws : List W} {μ : Mu} {R : W → Mu → Prop} (h : F__law_is_form_right ws μ R) : ws.length = p__law_is_form_right.length := by
  unfold F__law_is_form_right at h
  first
    | (repeat' (rcases h with ⟨x, h⟩)) ; subst_vars ; rfl ; done
    | (rcases h with h | h <;> (repeat' (rcases h with ⟨x, h⟩)) <;> subst_vars <;> rfl ; done)
    | (rcases h with h | h | h <;> (repeat' (rcases h with ⟨x, h⟩)) <;> subst_vars <;> rfl ; done)
    | ((repeat (replace h := h.choose_spec)) ; rw [h.1] ; rfl ; done)
    | exact lenx__law_is_form_right h
theorem len__law_far_right {ws : List W} {μ : Mu} {R : W → Mu → Prop} (h : F__law_far_right ws μ R) : ws.length = p__law_far_right.length := by
  unfold F__law_far_right at h
  first
    | (repeat' (rcases h with ⟨x, h⟩)) ; subst_vars ; rfl ; done
    | (rcases h with h | h <;> (repeat' (rcases h with ⟨x, h⟩)) <;> subst_vars <;> rfl ; done)
    | (rcases h with h | h | h <;> (repeat' (rcases h with ⟨x, h⟩)) <;> subst_vars <;> rfl ; done)
    | ((repeat (replace h := h.choose_spec)) ; rw [h.1] ; rfl ; done)
    | exact lenx__law_far_right h
theorem len__law_many_right {ws : List W} {μ : Mu} {R : W → Mu → Prop} (h : F__law_many_right ws μ R) : ws.length = p__law_many_right.length := by
  unfold F__law_many_right at h
  first
    | (repeat' (rcases h with ⟨x, h⟩)) ; subst_vars ; rfl ; done
    | (rcases h with h | h <;> (repeat' (rcases h with ⟨x, h⟩)) <;> subst_vars <;> rfl ; done)
    | (rcases h with h | h | h <;> (repeat' (rcases h with ⟨x, h⟩)) <;> subst_vars <;> rfl ; done)
    | ((repeat (replace h := h.choose_spec)) ; rw [h.1] ; rfl ; done)
    | exact lenx__law_many_right h
theorem len__law_alike_right {ws : List W} {μ : Mu} {R : W → Mu → Prop} (h : F__law_alike_right ws μ R) : ws.length = p__law_alike_right.length := by
  unfold F__law_alike_right at h
  first
    | (repeat' (rcases h with ⟨x, h⟩)) ; subst_vars ; rfl ; done
    | (rcases h with h | h <;> (repeat' (rcases h with ⟨x, h⟩)) <;> subst_vars <;> rfl ; done)
    | (rcases h with h | h | h <;> (repeat' (rcases h with ⟨x, h⟩)) <;> subst_vars <;> rfl ; done)
    | ((repeat (replace h := h.choose_spec)) ; rw [h.1] ; rfl ; done)
    | exact lenx__law_alike_right h
theorem len__law_right {ws : List W} {μ : Mu} {R : W → Mu → Prop} (h : F__law_right ws μ R) : ws.length = p__law_right.length := by
  unfold F__law_right at h
  first
    | (repeat' (rcases h with ⟨x, h⟩)) ; subst_vars ; rfl ; done
    | (rcases h with h | h <;> (repeat' (rcases h with ⟨x, h⟩)) <;> subst_vars <;> rfl ; done)
    | (rcases h with h | h | h <;> (repeat' (rcases h with ⟨x, h⟩)) <;> subst_vars <;> rfl ; done)
    | ((repeat (replace h := h.choose_spec)) ; rw [h.1] ; rfl ; done)
    | exact lenx__law_right h
theorem len_law {ws : List W} {μ : Mu} {R : W → Mu → Prop} (h : F_law ws μ R) : ws.length = p_law.length := by
  unfold F_law at h
  first
    | (repeat' (rcases h with ⟨x, h⟩)) ; subst_vars ; rfl ; done
    | (rcases h with h | h <;> (repeat' (rcases h with ⟨x, h⟩)) <;> subst_vars <;> rfl ; done)
    | (rcases h with h | h | h <;> (repeat' (rcases h with ⟨x, h⟩)) <;> subst_vars <;> rfl ; done)
    | ((repeat (replace h := h.choose_spec)) ; rw [h.1] ; rfl ; done)
    | exact lenx_law h
structure Txt (P : Program) (K : PySem.W.Frag) (mg : Str → Option Value) (base : Heap) where
  a_are_keys : Addr
  d_are_keys : FuncData
  u_are_keys : Fun K "are_keys" "are_keys" s_are_keys a_are_keys d_are_keys
  m_are_keys : mg "are_keys" = some (.ref a_are_keys)
  a_after_click : Addr
  d_after_click : FuncData
  u_after_click : Fun K "after_click" "after_click" s_after_click a_after_click d_after_click
  m_after_click : mg "after_click" = some (.ref a_after_click)
  a_need_keys : Addr
  d_need_keys : FuncData
  u_need_keys : Fun K "need_keys" "need_keys" s_need_keys a_need_keys d_need_keys
  m_need_keys : mg "need_keys" = some (.ref a_need_keys)
  a_after_clicks : Addr
  d_after_clicks : FuncData
  u_after_clicks : Fun K "after_clicks" "after_clicks" s_after_clicks a_after_clicks d_after_clicks
  m_after_clicks : mg "after_clicks" = some (.ref a_after_clicks)
  a_has_form : Addr
  d_has_form : FuncData
  u_has_form : Fun K "has_form" "has_form" s_has_form a_has_form d_has_form
  m_has_form : mg "has_form" = some (.ref a_has_form)
  a_need_form : Addr
  d_need_form : FuncData
  u_need_form : Fun K "need_form" "need_form" s_need_form a_need_form d_need_form
  m_need_form : mg "need_form" = some (.ref a_need_form)
  a_columns_of : Addr
  d_columns_of : FuncData
  u_columns_of : Fun K "columns_of" "columns_of" s_columns_of a_columns_of d_columns_of
  m_columns_of : mg "columns_of" = some (.ref a_columns_of)
  a_is_left_alone : Addr
  d_is_left_alone : FuncData
  u_is_left_alone : Fun K "is_left_alone" "is_left_alone" s_is_left_alone a_is_left_alone d_is_left_alone
  m_is_left_alone : mg "is_left_alone" = some (.ref a_is_left_alone)
  a_made_form : Addr
  d_made_form : FuncData
  u_made_form : Fun K "made_form" "made_form" s_made_form a_made_form d_made_form
  m_made_form : mg "made_form" = some (.ref a_made_form)
  a_form_of : Addr
  d_form_of : FuncData
  u_form_of : Fun K "form_of" "form_of" s_form_of a_form_of d_form_of
  m_form_of : mg "form_of" = some (.ref a_form_of)
  a_is_form : Addr
  d_is_form : FuncData
  u_is_form : Fun K "is_form" "is_form" s_is_form a_is_form d_is_form
  m_is_form : mg "is_form" = some (.ref a_is_form)
  a_made_of : Addr
  d_made_of : FuncData
  u_made_of : Fun K "made_of" "made_of" s_made_of a_made_of d_made_of
  m_made_of : mg "made_of" = some (.ref a_made_of)
  a_formed : Addr
  d_formed : FuncData
  u_formed : Fun K "formed" "formed" s_formed a_formed d_formed
  m_formed : mg "formed" = some (.ref a_formed)
  a_alike : Addr
  d_alike : FuncData
  u_alike : Fun K "alike" "alike" s_alike a_alike d_alike
  m_alike : mg "alike" = some (.ref a_alike)
  a_first_apart : Addr
  d_first_apart : FuncData
  u_first_apart : Fun K "first_apart" "first_apart" s_first_apart a_first_apart d_first_apart
  m_first_apart : mg "first_apart" = some (.ref a_first_apart)
  a__law_open : Addr
  d__law_open : FuncData
  u__law_open : Fun K "_law_open" "_law_open" s__law_open a__law_open d__law_open
  m__law_open : mg "_law_open" = some (.ref a__law_open)
  a__law_draw : Addr
  d__law_draw : FuncData
  u__law_draw : Fun K "_law_draw" "_law_draw" s__law_draw a__law_draw d__law_draw
  m__law_draw : mg "_law_draw" = some (.ref a__law_draw)
  a__law_clicks : Addr
  d__law_clicks : FuncData
  u__law_clicks : Fun K "_law_clicks" "_law_clicks" s__law_clicks a__law_clicks d__law_clicks
  m__law_clicks : mg "_law_clicks" = some (.ref a__law_clicks)
  a__law_click : Addr
  d__law_click : FuncData
  u__law_click : Fun K "_law_click" "_law_click" s__law_click a__law_click d__law_click
  m__law_click : mg "_law_click" = some (.ref a__law_click)
  a__law_after : Addr
  d__law_after : FuncData
  u__law_after : Fun K "_law_after" "_law_after" s__law_after a__law_after d__law_after
  m__law_after : mg "_law_after" = some (.ref a__law_after)
  a__law_keys : Addr
  d__law_keys : FuncData
  u__law_keys : Fun K "_law_keys" "_law_keys" s__law_keys a__law_keys d__law_keys
  m__law_keys : mg "_law_keys" = some (.ref a__law_keys)
  a__law_every : Addr
  d__law_every : FuncData
  u__law_every : Fun K "_law_every" "_law_every" s__law_every a__law_every d__law_every
  m__law_every : mg "_law_every" = some (.ref a__law_every)
  a__law_says : Addr
  d__law_says : FuncData
  u__law_says : Fun K "_law_says" "_law_says" s__law_says a__law_says d__law_says
  m__law_says : mg "_law_says" = some (.ref a__law_says)
  a__law_bound : Addr
  d__law_bound : FuncData
  u__law_bound : Fun K "_law_bound" "_law_bound" s__law_bound a__law_bound d__law_bound
  m__law_bound : mg "_law_bound" = some (.ref a__law_bound)
  a__law_other : Addr
  d__law_other : FuncData
  u__law_other : Fun K "_law_other" "_law_other" s__law_other a__law_other d__law_other
  m__law_other : mg "_law_other" = some (.ref a__law_other)
  a__law_is_form_right : Addr
  d__law_is_form_right : FuncData
  u__law_is_form_right : Fun K "_law_is_form_right" "_law_is_form_right" s__law_is_form_right a__law_is_form_right d__law_is_form_right
  m__law_is_form_right : mg "_law_is_form_right" = some (.ref a__law_is_form_right)
  a__law_far_right : Addr
  d__law_far_right : FuncData
  u__law_far_right : Fun K "_law_far_right" "_law_far_right" s__law_far_right a__law_far_right d__law_far_right
  m__law_far_right : mg "_law_far_right" = some (.ref a__law_far_right)
  a__law_many_right : Addr
  d__law_many_right : FuncData
  u__law_many_right : Fun K "_law_many_right" "_law_many_right" s__law_many_right a__law_many_right d__law_many_right
  m__law_many_right : mg "_law_many_right" = some (.ref a__law_many_right)
  a__law_alike_right : Addr
  d__law_alike_right : FuncData
  u__law_alike_right : Fun K "_law_alike_right" "_law_alike_right" s__law_alike_right a__law_alike_right d__law_alike_right
  m__law_alike_right : mg "_law_alike_right" = some (.ref a__law_alike_right)
  a__law_right : Addr
  d__law_right : FuncData
  u__law_right : Fun K "_law_right" "_law_right" s__law_right a__law_right d__law_right
  m__law_right : mg "_law_right" = some (.ref a__law_right)
  a_law : Addr
  d_law : FuncData
  u_law : Fun K "law" "law" s_law a_law d_law
  m_law : mg "law" = some (.ref a_law)
  n_abs : mg "abs" = none
  n_all : mg "all" = none
  n_bool : mg "bool" = none
  n_int : mg "int" = none
  n_isinstance : mg "isinstance" = none
  n_len : mg "len" = none
  n_list : mg "list" = none
  n_max : mg "max" = none
  n_min : mg "min" = none
  n_range : mg "range" = none
  n_repr : mg "repr" = none
  n_set : mg "set" = none
  e_InvalidColumn : IsErr P K mg "InvalidColumn"
  e_InvalidSorting : IsErr P K mg "InvalidSorting"
  EF : ErrF K
section
variable {P : Program} {w : World} {K : PySem.W.Frag} {mg : Str → Option Value} {base : Heap}
theorem g_are_keys (T : Txt P K mg base) : FnG P w K mg base CX0 1 T.a_are_keys T.d_are_keys p_are_keys (spD K F_are_keys) :=
  fnG_ok T.u_are_keys sc_are_keys (fun ws μ R h => len_are_keys h) (fun cdv A outer s H E hr hgd => ⟨t_are_keys K, dv_are_keys (hr := hr) (hgd := hgd) (n_all := T.n_all) (n_len := T.n_len) (n_set := T.n_set), rd_are_keys⟩)
theorem h_are_keys (T : Txt P K mg base) : HasG P w K mg base CX0 "are_keys" p_are_keys 1 (spD K F_are_keys) := hasg_of T.u_are_keys T.m_are_keys (g_are_keys T) fun _ _ _ _ _ _ us hl => match us, hl with | [_], _ => rfl
theorem g_after_click (T : Txt P K mg base) : FnG P w K mg base CX0 1 T.a_after_click T.d_after_click p_after_click (spD K F_after_click) :=
  fnG_ok T.u_after_click sc_after_click (fun ws μ R h => len_after_click h) (fun cdv A outer s H E hr hgd => ⟨t_after_click K, dv_after_click (hr := hr) (hgd := hgd), rd_after_click⟩)
theorem h_after_click (T : Txt P K mg base) : HasG P w K mg base CX0 "after_click" p_after_click 1 (spD K F_after_click) := hasg_of T.u_after_click T.m_after_click (g_after_click T) fun _ _ _ _ _ _ us hl => match us, hl with | [_, _], _ => rfl
theorem g_need_keys (T : Txt P K mg base) : FnG P w K mg base (L2.CX P w) 2 T.a_need_keys T.d_need_keys p_need_keys (spX K F_need_keys) :=
  fnG_okX T.u_need_keys sc_need_keys (fun ws μ R S h => len_need_keys h) (fun cdv A outer s H E hr hgd => ⟨t_need_keys K fun c d _ H => E c d H, dv_need_keys (hr := hr) (hgd := hgd) (h_are_keys := h_are_keys T) (n_list := T.n_list) (e_InvalidSorting := T.e_InvalidSorting), (rd_need_keys E)⟩)
theorem h_need_keys (T : Txt P K mg base) : HasG P w K mg base (L2.CX P w) "need_keys" p_need_keys 2 (spX K F_need_keys) := hasg_of T.u_need_keys T.m_need_keys (g_need_keys T) fun _ _ _ _ _ _ us hl => match us, hl with | [_], _ => rfl
theorem g_after_clicks (T : Txt P K mg base) : FnG P w K mg base CX0 2 T.a_after_clicks T.d_after_clicks p_after_clicks (spD K F_after_clicks) :=
  fnG_ok T.u_after_clicks sc_after_clicks (fun ws μ R h => len_after_clicks h) (fun cdv A outer s H E hr hgd => ⟨t_after_clicks K, dv_after_clicks (hr := hr) (hgd := hgd) (h_after_click := h_after_click T) (n_list := T.n_list), rd_after_clicks⟩)
theorem h_after_clicks (T : Txt P K mg base) : HasG P w K mg base CX0 "after_clicks" p_after_clicks 2 (spD K F_after_clicks) := hasg_of T.u_after_clicks T.m_after_clicks (g_after_clicks T) fun _ _ _ _ _ _ us hl => match us, hl with | [_, _], _ => rfl
theorem g_has_form (T : Txt P K mg base) : FnG P w K mg base CX0 2 T.a_has_form T.d_has_form p_has_form (spD K F_has_form) :=
  fnG_ok T.u_has_form sc_has_form (fun ws μ R h => len_has_form h) (fun cdv A outer s H E hr hgd => ⟨t_has_form K, dv_has_form (hr := hr) (hgd := hgd) (h_are_keys := h_are_keys T) (n_len := T.n_len), rd_has_form⟩)
theorem h_has_form (T : Txt P K mg base) : HasG P w K mg base CX0 "has_form" p_has_form 2 (spD K F_has_form) := hasg_of T.u_has_form T.m_has_form (g_has_form T) fun _ _ _ _ _ _ us hl => match us, hl with | [_], _ => rfl
theorem g_need_form (T : Txt P K mg base) : FnG P w K mg base (L2.CX P w) 3 T.a_need_form T.d_need_form p_need_form (spX K F_need_form) :=
  fnG_okX T.u_need_form sc_need_form (fun ws μ R S h => len_need_form h) (fun cdv A outer s H E hr hgd => ⟨t_need_form K fun c d _ H => E c d H, dv_need_form (hr := hr) (hgd := hgd) (h_has_form := h_has_form T) (n_list := T.n_list) (e_InvalidSorting := T.e_InvalidSorting), (rd_need_form E)⟩)
theorem h_need_form (T : Txt P K mg base) : HasG P w K mg base (L2.CX P w) "need_form" p_need_form 3 (spX K F_need_form) := hasg_of T.u_need_form T.m_need_form (g_need_form T) fun _ _ _ _ _ _ us hl => match us, hl with | [_], _ => rfl
theorem g_columns_of (T : Txt P K mg base) : FnG P w K mg base CX0 1 T.a_columns_of T.d_columns_of p_columns_of (spD K F_columns_of) :=
  fnG_ok T.u_columns_of sc_columns_of (fun ws μ R h => len_columns_of h) (fun cdv A outer s H E hr hgd => ⟨t_columns_of K, dv_columns_of (hr := hr) (hgd := hgd), rd_columns_of⟩)
theorem h_columns_of (T : Txt P K mg base) : HasG P w K mg base CX0 "columns_of" p_columns_of 1 (spD K F_columns_of) := hasg_of T.u_columns_of T.m_columns_of (g_columns_of T) fun _ _ _ _ _ _ us hl => match us, hl with | [_], _ => rfl
theorem g_is_left_alone (T : Txt P K mg base) : FnG P w K mg base CX0 1 T.a_is_left_alone T.d_is_left_alone p_is_left_alone (spD K F_is_left_alone) :=
  fnG_ok T.u_is_left_alone sc_is_left_alone (fun ws μ R h => len_is_left_alone h) (fun cdv A outer s H E hr hgd => ⟨t_is_left_alone K, dv_is_left_alone (hr := hr) (hgd := hgd) (n_len := T.n_len), rd_is_left_alone⟩)
theorem h_is_left_alone (T : Txt P K mg base) : HasG P w K mg base CX0 "is_left_alone" p_is_left_alone 1 (spD K F_is_left_alone) := hasg_of T.u_is_left_alone T.m_is_left_alone (g_is_left_alone T) fun _ _ _ _ _ _ us hl => match us, hl with | [_], _ => rfl
theorem g_made_form (T : Txt P K mg base) : FnG P w K mg base CX0 3 T.a_made_form T.d_made_form p_made_form (spD K F_made_form) :=
  fnG_ok T.u_made_form sc_made_form (fun ws μ R h => len_made_form h) (fun cdv A outer s H E hr hgd => ⟨t_made_form K, dv_made_form (hr := hr) (hgd := hgd) (h_after_clicks := h_after_clicks T) (h_is_left_alone := h_is_left_alone T), rd_made_form⟩)
theorem h_made_form (T : Txt P K mg base) : HasG P w K mg base CX0 "made_form" p_made_form 3 (spD K F_made_form) := hasg_of T.u_made_form T.m_made_form (g_made_form T) fun _ _ _ _ _ _ us hl => match us, hl with | [_], _ => rfl
theorem g_form_of (T : Txt P K mg base) : FnG P w K mg base (L2.CX P w) 4 T.a_form_of T.d_form_of p_form_of (spX K F_form_of) :=
  fnG_okX T.u_form_of sc_form_of (fun ws μ R S h => len_form_of h) (fun cdv A outer s H E hr hgd => ⟨t_form_of K fun c d _ H => E c d H, dv_form_of (hr := hr) (hgd := hgd) (h_made_form := h_made_form T) (e_InvalidColumn := T.e_InvalidColumn), (rd_form_of E)⟩)
theorem h_form_of (T : Txt P K mg base) : HasG P w K mg base (L2.CX P w) "form_of" p_form_of 4 (spX K F_form_of) := hasg_of T.u_form_of T.m_form_of (g_form_of T) fun _ _ _ _ _ _ us hl => match us, hl with | [_], _ => rfl
theorem hk_form_of_0 (T : Txt P K mg base) : HasGK P w K mg base (L2.CX P w) "form_of" p_form_of 4 (spX K F_form_of) 0 ["clicks"] [0] := hasgk_of T.u_form_of T.m_form_of (g_form_of T) 0 ["clicks"] [0] fun _ _ _ _ _ _ us ws h1 h2 => match us, ws, h1, h2 with | [], [_], _, _ => rfl
theorem g_is_form (T : Txt P K mg base) : FnG P w K mg base CX0 3 T.a_is_form T.d_is_form p_is_form (spD K F_is_form) :=
  fnG_ok T.u_is_form sc_is_form (fun ws μ R h => len_is_form h) (fun cdv A outer s H E hr hgd => ⟨t_is_form K, dv_is_form (hr := hr) (hgd := hgd) (h_has_form := h_has_form T), rd_is_form⟩)
theorem h_is_form (T : Txt P K mg base) : HasG P w K mg base CX0 "is_form" p_is_form 3 (spD K F_is_form) := hasg_of T.u_is_form T.m_is_form (g_is_form T) fun _ _ _ _ _ _ us hl => match us, hl with | [_], _ => rfl
theorem hk_is_form_0 (T : Txt P K mg base) : HasGK P w K mg base CX0 "is_form" p_is_form 3 (spD K F_is_form) 0 ["form"] [0] := hasgk_of T.u_is_form T.m_is_form (g_is_form T) 0 ["form"] [0] fun _ _ _ _ _ _ us ws h1 h2 => match us, ws, h1, h2 with | [], [_], _, _ => rfl
theorem g_made_of (T : Txt P K mg base) : FnG P w K mg base CX0 2 T.a_made_of T.d_made_of p_made_of (spD K F_made_of) :=
  fnG_ok T.u_made_of sc_made_of (fun ws μ R h => len_made_of h) (fun cdv A outer s H E hr hgd => ⟨t_made_of K, dv_made_of (hr := hr) (hgd := hgd) (h_columns_of := h_columns_of T), rd_made_of⟩)
theorem h_made_of (T : Txt P K mg base) : HasG P w K mg base CX0 "made_of" p_made_of 2 (spD K F_made_of) := hasg_of T.u_made_of T.m_made_of (g_made_of T) fun _ _ _ _ _ _ us hl => match us, hl with | [_, _], _ => rfl
theorem g_formed (T : Txt P K mg base) : FnG P w K mg base (L2.CX P w) 4 T.a_formed T.d_formed p_formed (spX K F_formed) :=
  fnG_okX T.u_formed sc_formed (fun ws μ R S h => len_formed h) (fun cdv A outer s H E hr hgd => ⟨t_formed K fun c d _ H => E c d H, dv_formed (hr := hr) (hgd := hgd) (h_made_of := h_made_of T) (h_need_form := h_need_form T) (h_need_keys := h_need_keys T), (rd_formed E)⟩)
theorem h_formed (T : Txt P K mg base) : HasG P w K mg base (L2.CX P w) "formed" p_formed 4 (spX K F_formed) := hasg_of T.u_formed T.m_formed (g_formed T) fun _ _ _ _ _ _ us hl => match us, hl with | [_, _], _ => rfl
theorem hk_formed_0 (T : Txt P K mg base) : HasGK P w K mg base (L2.CX P w) "formed" p_formed 4 (spX K F_formed) 0 ["sorting", "form"] [1, 0] := hasgk_of T.u_formed T.m_formed (g_formed T) 0 ["sorting", "form"] [1, 0] fun _ _ _ _ _ _ us ws h1 h2 => match us, ws, h1, h2 with | [], [_, _], _, _ => rfl
theorem g_alike (T : Txt P K mg base) : FnG P w K mg base (L2.CX P w) 5 T.a_alike T.d_alike p_alike (spX K F_alike) :=
  fnG_okX T.u_alike sc_alike (fun ws μ R S h => len_alike h) (fun cdv A outer s H E hr hgd => ⟨t_alike K fun c d _ H => E c d H, dv_alike (hr := hr) (hgd := hgd) (h_form_of := h_form_of T), (rd_alike E)⟩)
theorem h_alike (T : Txt P K mg base) : HasG P w K mg base (L2.CX P w) "alike" p_alike 5 (spX K F_alike) := hasg_of T.u_alike T.m_alike (g_alike T) fun _ _ _ _ _ _ us hl => match us, hl with | [_, _], _ => rfl
theorem hk_alike_0 (T : Txt P K mg base) : HasGK P w K mg base (L2.CX P w) "alike" p_alike 5 (spX K F_alike) 0 ["other", "one"] [1, 0] := hasgk_of T.u_alike T.m_alike (g_alike T) 0 ["other", "one"] [1, 0] fun _ _ _ _ _ _ us ws h1 h2 => match us, ws, h1, h2 with | [], [_, _], _, _ => rfl
theorem g_first_apart (T : Txt P K mg base) : FnG P w K mg base (L2.CX P w) 5 T.a_first_apart T.d_first_apart p_first_apart (spX K F_first_apart) :=
  fnG_okX T.u_first_apart sc_first_apart (fun ws μ R S h => len_first_apart h) (fun cdv A outer s H E hr hgd => ⟨t_first_apart K fun c d _ H => E c d H, dv_first_apart (hr := hr) (hgd := hgd) (h_form_of := h_form_of T), (rd_first_apart E)⟩)
theorem h_first_apart (T : Txt P K mg base) : HasG P w K mg base (L2.CX P w) "first_apart" p_first_apart 5 (spX K F_first_apart) := hasg_of T.u_first_apart T.m_first_apart (g_first_apart T) fun _ _ _ _ _ _ us hl => match us, hl with | [_, _], _ => rfl
theorem hk_first_apart_0 (T : Txt P K mg base) : HasGK P w K mg base (L2.CX P w) "first_apart" p_first_apart 5 (spX K F_first_apart) 0 ["other", "one"] [1, 0] := hasgk_of T.u_first_apart T.m_first_apart (g_first_apart T) 0 ["other", "one"] [1, 0] fun _ _ _ _ _ _ us ws h1 h2 => match us, ws, h1, h2 with | [], [_, _], _, _ => rfl
theorem g__law_open (T : Txt P K mg base) : FnG P w K mg base CX0 1 T.a__law_open T.d__law_open p__law_open (spD K F__law_open) :=
  fnG_ok T.u__law_open sc__law_open (fun ws μ R h => len__law_open h) (fun cdv A outer s H E hr hgd => ⟨t__law_open K, dv__law_open (hr := hr) (hgd := hgd) (n_abs := T.n_abs) (n_int := T.n_int) (n_len := T.n_len) (n_max := T.n_max), rd__law_open⟩)
theorem h__law_open (T : Txt P K mg base) : HasG P w K mg base CX0 "_law_open" p__law_open 1 (spD K F__law_open) := hasg_of T.u__law_open T.m__law_open (g__law_open T) fun _ _ _ _ _ _ us hl => match us, hl with | [_, _], _ => rfl
theorem g__law_draw (T : Txt P K mg base) : FnG P w K mg base CX0 1 T.a__law_draw T.d__law_draw p__law_draw (spD K F__law_draw) :=
  fnG_ok T.u__law_draw sc__law_draw (fun ws μ R h => len__law_draw h) (fun cdv A outer s H E hr hgd => ⟨t__law_draw K, dv__law_draw (hr := hr) (hgd := hgd) (n_int := T.n_int), rd__law_draw⟩)
theorem h__law_draw (T : Txt P K mg base) : HasG P w K mg base CX0 "_law_draw" p__law_draw 1 (spD K F__law_draw) := hasg_of T.u__law_draw T.m__law_draw (g__law_draw T) fun _ _ _ _ _ _ us hl => match us, hl with | [_, _], _ => rfl
theorem g__law_clicks (T : Txt P K mg base) : FnG P w K mg base CX0 2 T.a__law_clicks T.d__law_clicks p__law_clicks (spD K F__law_clicks) :=
  fnG_ok T.u__law_clicks sc__law_clicks (fun ws μ R h => len__law_clicks h) (fun cdv A outer s H E hr hgd => ⟨t__law_clicks K, dv__law_clicks (hr := hr) (hgd := hgd) (h__law_draw := h__law_draw T) (n_range := T.n_range), rd__law_clicks⟩)
theorem h__law_clicks (T : Txt P K mg base) : HasG P w K mg base CX0 "_law_clicks" p__law_clicks 2 (spD K F__law_clicks) := hasg_of T.u__law_clicks T.m__law_clicks (g__law_clicks T) fun _ _ _ _ _ _ us hl => match us, hl with | [_, _, _], _ => rfl
theorem g__law_click (T : Txt P K mg base) : FnG P w K mg base CX0 1 T.a__law_click T.d__law_click p__law_click (spD K F__law_click) :=
  fnG_ok T.u__law_click sc__law_click (fun ws μ R h => len__law_click h) (fun cdv A outer s H E hr hgd => ⟨t__law_click K, dv__law_click (hr := hr) (hgd := hgd), rd__law_click⟩)
theorem h__law_click (T : Txt P K mg base) : HasG P w K mg base CX0 "_law_click" p__law_click 1 (spD K F__law_click) := hasg_of T.u__law_click T.m__law_click (g__law_click T) fun _ _ _ _ _ _ us hl => match us, hl with | [_, _], _ => rfl
theorem g__law_after (T : Txt P K mg base) : FnG P w K mg base CX0 2 T.a__law_after T.d__law_after p__law_after (spD K F__law_after) :=
  fnG_ok T.u__law_after sc__law_after (fun ws μ R h => len__law_after h) (fun cdv A outer s H E hr hgd => ⟨t__law_after K, dv__law_after (hr := hr) (hgd := hgd) (h__law_click := h__law_click T), rd__law_after⟩)
theorem h__law_after (T : Txt P K mg base) : HasG P w K mg base CX0 "_law_after" p__law_after 2 (spD K F__law_after) := hasg_of T.u__law_after T.m__law_after (g__law_after T) fun _ _ _ _ _ _ us hl => match us, hl with | [_, _], _ => rfl
theorem g__law_keys (T : Txt P K mg base) : FnG P w K mg base CX0 2 T.a__law_keys T.d__law_keys p__law_keys (spD K F__law_keys) :=
  fnG_ok T.u__law_keys sc__law_keys (fun ws μ R h => len__law_keys h) (fun cdv A outer s H E hr hgd => ⟨t__law_keys K, dv__law_keys (hr := hr) (hgd := hgd) (h__law_draw := h__law_draw T) (n_len := T.n_len) (n_list := T.n_list) (n_range := T.n_range), rd__law_keys⟩)
theorem h__law_keys (T : Txt P K mg base) : HasG P w K mg base CX0 "_law_keys" p__law_keys 2 (spD K F__law_keys) := hasg_of T.u__law_keys T.m__law_keys (g__law_keys T) fun _ _ _ _ _ _ us hl => match us, hl with | [_, _], _ => rfl
theorem g__law_every (T : Txt P K mg base) : FnG P w K mg base CX0 1 T.a__law_every T.d__law_every p__law_every (spD K F__law_every) :=
  fnG_ok T.u__law_every sc__law_every (fun ws μ R h => len__law_every h) (fun cdv A outer s H E hr hgd => ⟨t__law_every K, dv__law_every (hr := hr) (hgd := hgd) (n_list := T.n_list) (n_range := T.n_range), rd__law_every⟩)
theorem h__law_every (T : Txt P K mg base) : HasG P w K mg base CX0 "_law_every" p__law_every 1 (spD K F__law_every) := hasg_of T.u__law_every T.m__law_every (g__law_every T) fun _ _ _ _ _ _ us hl => match us, hl with | [_], _ => rfl
theorem g__law_says (T : Txt P K mg base) : FnG P w K mg base CX0 1 T.a__law_says T.d__law_says p__law_says (spD K F__law_says) :=
  fnG_ok T.u__law_says sc__law_says (fun ws μ R h => len__law_says h) (fun cdv A outer s H E hr hgd => ⟨t__law_says K, dv__law_says (hr := hr) (hgd := hgd) (n_bool := T.n_bool) (n_isinstance := T.n_isinstance), rd__law_says⟩)
theorem h__law_says (T : Txt P K mg base) : HasG P w K mg base CX0 "_law_says" p__law_says 1 (spD K F__law_says) := hasg_of T.u__law_says T.m__law_says (g__law_says T) fun _ _ _ _ _ _ us hl => match us, hl with | [_, _], _ => rfl
theorem g__law_bound (T : Txt P K mg base) : FnG P w K mg base CX0 1 T.a__law_bound T.d__law_bound p__law_bound (spD K F__law_bound) :=
  fnG_ok T.u__law_bound sc__law_bound (fun ws μ R h => len__law_bound h) (fun cdv A outer s H E hr hgd => ⟨t__law_bound K, dv__law_bound (hr := hr) (hgd := hgd) (n_len := T.n_len) (n_range := T.n_range), rd__law_bound⟩)
theorem h__law_bound (T : Txt P K mg base) : HasG P w K mg base CX0 "_law_bound" p__law_bound 1 (spD K F__law_bound) := hasg_of T.u__law_bound T.m__law_bound (g__law_bound T) fun _ _ _ _ _ _ us hl => match us, hl with | [_], _ => rfl
theorem g__law_other (T : Txt P K mg base) : FnG P w K mg base CX0 3 T.a__law_other T.d__law_other p__law_other (spD K F__law_other) :=
  fnG_ok T.u__law_other sc__law_other (fun ws μ R h => len__law_other h) (fun cdv A outer s H E hr hgd => ⟨t__law_other K, dv__law_other (hr := hr) (hgd := hgd) (h__law_clicks := h__law_clicks T) (h__law_draw := h__law_draw T) (n_len := T.n_len), rd__law_other⟩)
theorem h__law_other (T : Txt P K mg base) : HasG P w K mg base CX0 "_law_other" p__law_other 3 (spD K F__law_other) := hasg_of T.u__law_other T.m__law_other (g__law_other T) fun _ _ _ _ _ _ us hl => match us, hl with | [_, _, _], _ => rfl
theorem g__law_is_form_right (T : Txt P K mg base) : FnG P w K mg base CX0 4 T.a__law_is_form_right T.d__law_is_form_right p__law_is_form_right (spD K F__law_is_form_right) :=
  fnG_ok T.u__law_is_form_right sc__law_is_form_right (fun ws μ R h => len__law_is_form_right h) (fun cdv A outer s H E hr hgd => ⟨t__law_is_form_right K, dv__law_is_form_right (hr := hr) (hgd := hgd) (h__law_says := h__law_says T) (h_is_form := h_is_form T) (hk_is_form_0 := hk_is_form_0 T), rd__law_is_form_right⟩)
theorem h__law_is_form_right (T : Txt P K mg base) : HasG P w K mg base CX0 "_law_is_form_right" p__law_is_form_right 4 (spD K F__law_is_form_right) := hasg_of T.u__law_is_form_right T.m__law_is_form_right (g__law_is_form_right T) fun _ _ _ _ _ _ us hl => match us, hl with | [_], _ => rfl
theorem g__law_far_right (T : Txt P K mg base) : FnG P w K mg base CX0 6 T.a__law_far_right T.d__law_far_right p__law_far_right (spD K F__law_far_right) :=
  fnG_ok T.u__law_far_right sc__law_far_right (fun ws μ R h => len__law_far_right h) (fun cdv A outer s H E hr hgd => ⟨t__law_far_right K, dv__law_far_right (hr := hr) (hgd := hgd) (h__law_after := h__law_after T) (h__law_clicks := h__law_clicks T) (h__law_draw := h__law_draw T) (h__law_keys := h__law_keys T) (h__law_other := h__law_other T) (h_alike := h_alike T) (h_first_apart := h_first_apart T) (h_form_of := h_form_of T) (h_formed := h_formed T), rd__law_far_right⟩)
theorem h__law_far_right (T : Txt P K mg base) : HasG P w K mg base CX0 "_law_far_right" p__law_far_right 6 (spD K F__law_far_right) := hasg_of T.u__law_far_right T.m__law_far_right (g__law_far_right T) fun _ _ _ _ _ _ us hl => match us, hl with | [_], _ => rfl
theorem g__law_many_right (T : Txt P K mg base) : FnG P w K mg base CX0 5 T.a__law_many_right T.d__law_many_right p__law_many_right (spD K F__law_many_right) :=
  fnG_ok T.u__law_many_right sc__law_many_right (fun ws μ R h => len__law_many_right h) (fun cdv A outer s H E hr hgd => ⟨t__law_many_right K, dv__law_many_right (hr := hr) (hgd := hgd) (h__law_after := h__law_after T) (h__law_bound := h__law_bound T) (h__law_clicks := h__law_clicks T) (h__law_draw := h__law_draw T) (h_form_of := h_form_of T) (h_formed := h_formed T) (h_is_form := h_is_form T) (n_int := T.n_int) (n_len := T.n_len) (n_range := T.n_range), rd__law_many_right⟩)
theorem h__law_many_right (T : Txt P K mg base) : HasG P w K mg base CX0 "_law_many_right" p__law_many_right 5 (spD K F__law_many_right) := hasg_of T.u__law_many_right T.m__law_many_right (g__law_many_right T) fun _ _ _ _ _ _ us hl => match us, hl with | [_], _ => rfl
theorem g__law_alike_right (T : Txt P K mg base) : FnG P w K mg base CX0 6 T.a__law_alike_right T.d__law_alike_right p__law_alike_right (spD K F__law_alike_right) :=
  fnG_ok T.u__law_alike_right sc__law_alike_right (fun ws μ R h => len__law_alike_right h) (fun cdv A outer s H E hr hgd => ⟨t__law_alike_right K, dv__law_alike_right (hr := hr) (hgd := hgd) (h__law_after := h__law_after T) (h__law_every := h__law_every T) (h__law_says := h__law_says T) (h_alike := h_alike T) (hk_alike_0 := hk_alike_0 T) (h_first_apart := h_first_apart T) (hk_first_apart_0 := hk_first_apart_0 T) (n_repr := T.n_repr), rd__law_alike_right⟩)
theorem h__law_alike_right (T : Txt P K mg base) : HasG P w K mg base CX0 "_law_alike_right" p__law_alike_right 6 (spD K F__law_alike_right) := hasg_of T.u__law_alike_right T.m__law_alike_right (g__law_alike_right T) fun _ _ _ _ _ _ us hl => match us, hl with | [_, _, _], _ => rfl
theorem g__law_right (T : Txt P K mg base) : FnG P w K mg base CX0 7 T.a__law_right T.d__law_right p__law_right (spD K F__law_right) :=
  fnG_ok T.u__law_right sc__law_right (fun ws μ R h => len__law_right h) (fun cdv A outer s H E hr hgd => ⟨t__law_right K, dv__law_right (hr := hr) (hgd := hgd) (h__law_after := h__law_after T) (h__law_alike_right := h__law_alike_right T) (h__law_bound := h__law_bound T) (h__law_clicks := h__law_clicks T) (h__law_draw := h__law_draw T) (h__law_every := h__law_every T) (h__law_far_right := h__law_far_right T) (h__law_is_form_right := h__law_is_form_right T) (h__law_keys := h__law_keys T) (h__law_many_right := h__law_many_right T) (h__law_other := h__law_other T) (h_form_of := h_form_of T) (hk_form_of_0 := hk_form_of_0 T) (h_formed := h_formed T) (hk_formed_0 := hk_formed_0 T) (n_bool := T.n_bool) (n_isinstance := T.n_isinstance) (n_range := T.n_range) (n_repr := T.n_repr), rd__law_right⟩)
theorem h__law_right (T : Txt P K mg base) : HasG P w K mg base CX0 "_law_right" p__law_right 7 (spD K F__law_right) := hasg_of T.u__law_right T.m__law_right (g__law_right T) fun _ _ _ _ _ _ us hl => match us, hl with | [_], _ => rfl
theorem g_law (T : Txt P K mg base) : FnG P w K mg base CX0 8 T.a_law T.d_law p_law (spD K F_law) :=
  fnG_ok T.u_law sc_law (fun ws μ R h => len_law h) (fun cdv A outer s H E hr hgd => ⟨t_law K, dv_law (hr := hr) (hgd := hgd) (h__law_open := h__law_open T) (h__law_right := h__law_right T) (n_len := T.n_len) (n_max := T.n_max) (n_min := T.n_min) (n_range := T.n_range), rd_law⟩)
theorem h_law (T : Txt P K mg base) : HasG P w K mg base CX0 "law" p_law 8 (spD K F_law) := hasg_of T.u_law T.m_law (g_law T) fun _ _ _ _ _ _ us hl => match us, hl with | [_], _ => rfl
end
theorem vrs_ints {K : PySem.W.Frag} {H : Hp} {M : List Addr} : ∀ ns : List Int, VRs K H M (ns.map V.int) (wInts ns)
  | [] => .nil
  | n :: ns => .cons (.d (.int n)) (vrs_ints ns)
theorem law_start {K : PySem.W.Frag} {H : Hp} {a : Addr} {ns : List Int} {E : XK} (hl : ns.length ≤ 63) (hT : TabK K H) (hS : SqL K H a (ns.map V.int)) : spD K F_law [.ref a] H (fun v _ => v = .bl true) E := by
  refine ⟨fun _ => False, [], [], [.f (wInts ns)], fun w _ => w = .d (.bool true), ⟨rfl, List.nodup_nil, (fun a m => absurd m (List.not_mem_nil)), (fun a m => absurd m (List.not_mem_nil)), (fun a m => False.elim m), hT, (fun a o m => absurd m (by simp)), (fun k a c h _ => absurd h (by simp))⟩, ?_, ⟨ns, rfl, hl, rfl⟩, fun M' H' v w μ' _ _ r hR => ?_⟩
  · have hS' : SqL K (vw (fun _ => False) [] [] H) a (ns.map V.int) := by
      have v : ∀ o, H a = some o → (∀ ps, o ≠ .tbl ps) → vw (fun _ => False) [] [] H a = some o := fun o h n => vw_of (by rintro (z | ⟨k, c, z, _⟩); exact z; simp at z) h n
      rcases hS with (h | ⟨o, h⟩) | h
      · exact .inl (.inl (v _ h fun _ z => by cases z))
      · exact .inl (.inr ⟨o, v _ h fun _ z => by cases z⟩)
      · exact .inr h
    exact .cons (.f hS' (vrs_ints ns)) .nil
  · subst hR
    exact vr_bool r
def qW (n : Nat) : Pos := match n with
  | 0 => ⟨5, 8, 5, 13⟩
  | 1 => ⟨5, 8, 5, 15⟩
  | 2 => ⟨5, 8, 5, 24⟩
  | 3 => ⟨5, 25, 5, 36⟩
  | 4 => ⟨5, 8, 5, 37⟩
  | 5 => ⟨5, 8, 5, 37⟩
  | 6 => ⟨6, 8, 6, 12⟩
  | 7 => ⟨6, 8, 6, 18⟩
  | 8 => ⟨6, 21, 6, 26⟩
  | _ => ⟨6, 8, 6, 26⟩
theorem hev_W (wd : Str) (i : Nat) (env : Env) : ∃ pl : Sem Bool, eval (.Call (.Attribute (.Call (.Name "super" (qW 0)) [] [] (qW 1)) "__init__" (qW 2)) [.Constant (.str wd) i (qW 3)] [] (qW 4)) env = (do
      let ov ← attributeBase (.Call (.Name "super" (qW 0)) [] [] (qW 1)) "__init__" env (eval (.Call (.Name "super" (qW 0)) [] [] (qW 1)) env)
      standAt (qW 2).atName
      let (f, first) ← holding [ov] (getMethod ov "__init__" pl)
      callWith (qW 4) f first (backTo (qW 4) (starEach [.Constant (.str wd) i (qW 3)] env)) []) := ⟨_, rfl⟩
theorem cla_eq {K : PySem.W.Frag} {x : Str} {C a : Addr} (e : PySem.W.nsIn K mainGlobals x = some (some (.ref C))) (h : clA K x a) : a = C := by
  have z := h.symm.trans e
  simpa using z
theorem clv_eq {K : PySem.W.Frag} {x : Str} {C : Addr} {c : Value} (e : PySem.W.nsIn K mainGlobals x = some (some (.ref C))) (h : ClV K x c) : c = .ref C := by
  rcases h with h | h
  · have z := h.symm.trans e
    simpa using z
  · have z := h.1.symm.trans e
    simp at z
theorem sub_is {K : PySem.W.Frag} {x y : Str} {C D : Addr} {b : Bool} (ex : PySem.W.nsIn K mainGlobals x = some (some (.ref C))) (ey : PySem.W.nsIn K mainGlobals y = some (some (.ref D))) (h1 : PySem.W.subIn K (.ref D) (.type "BaseException") = some true) (h2 : PySem.W.hasDictIn K D = true) (h3 : PySem.W.typeIn K (.ref D) = some (.type "type")) (h4 : PySem.W.subIn K (.ref C) (.ref D) = some b) : SubIs K x y b := fun a c ha hc => by
  rw [cla_eq ex ha, clv_eq ey hc]
  exact PySem.W.exm_ref h1 h2 h3 h4
theorem is_of {K : PySem.W.Frag} {x y : Str} {C D : Addr} {b : Bool} (ex : PySem.W.nsIn K mainGlobals x = some (some (.ref C))) (ey : PySem.W.nsIn K mainGlobals y = some (some (.ref D))) (h2 : PySem.W.hasDictIn K D = true) (h3 : PySem.W.typeIn K (.ref D) = some (.type "type")) (h4 : PySem.W.subIn K (.ref C) (.ref D) = some b) (hb : C = D → b = true) : IsOf K x y b := fun a c ha hc => by
  rw [cla_eq ex ha, cla_eq ey hc]
  exact kit_ref h2 h3 h4 hb
theorem all_mk {P : Program} {w : World} {K : PySem.W.Frag} {h : Heap} {mg : Str → Option Value} {fa : Addr} (X : K.In h) (G : h.Ns mainGlobals mg) (hfa : mg "law" = some (.ref fa))
    {fI Db cda cc : Addr} {ocI kVI dcI pmI ctI cclI clI : Value} {odI anI cddI cldI : Option Addr} {oslI ccsI cslI : Array (Option Value)} {vsI : Array Value} {fileI : Str} {tfI : Tok} {wdI : Str} {ixI : Nat} {cdD : ClassData}
    {C0 : Addr} {nm0 q0 : Str} {N0 : Addr} {bs0 : List Value} {sn0 : List Str} {sb0 : List Value} {ab0 : Bool} {cl0 : Option Bool} {dd0 : Option Addr} {m00 m10 m20 m30 m50 : Option Value}
    {C1 : Addr} {nm1 q1 : Str} {N1 : Addr} {bs1 : List Value} {sn1 : List Str} {sb1 : List Value} {ab1 : Bool} {cl1 : Option Bool} {dd1 : Option Addr} {m01 m11 m21 m31 m51 : Option Value}
    {od0 an0 : Option Addr} {sl0 : Array (Option Value)} {f0 : Addr} {oc0 kV0 dc0 pm0 cd0 ct0 : Value}
    {od1 an1 : Option Addr} {sl1 : Array (Option Value)} {f1 : Addr} {oc1 kV1 dc1 pm1 cd1 ct1 : Value}
    {od2 an2 : Option Addr} {sl2 : Array (Option Value)} {f2 : Addr} {oc2 kV2 dc2 pm2 cd2 ct2 : Value}
    {od3 an3 : Option Addr} {sl3 : Array (Option Value)} {f3 : Addr} {oc3 kV3 dc3 pm3 cd3 ct3 : Value}
    {od4 an4 : Option Addr} {sl4 : Array (Option Value)} {f4 : Addr} {oc4 kV4 dc4 pm4 cd4 ct4 : Value}
    {od5 an5 : Option Addr} {sl5 : Array (Option Value)} {f5 : Addr} {oc5 kV5 dc5 pm5 cd5 ct5 : Value}
    {od6 an6 : Option Addr} {sl6 : Array (Option Value)} {f6 : Addr} {oc6 kV6 dc6 pm6 cd6 ct6 : Value}
    {od7 an7 : Option Addr} {sl7 : Array (Option Value)} {f7 : Addr} {oc7 kV7 dc7 pm7 cd7 ct7 : Value}
    {od8 an8 : Option Addr} {sl8 : Array (Option Value)} {f8 : Addr} {oc8 kV8 dc8 pm8 cd8 ct8 : Value}
    {od9 an9 : Option Addr} {sl9 : Array (Option Value)} {f9 : Addr} {oc9 kV9 dc9 pm9 cd9 ct9 : Value}
    {od10 an10 : Option Addr} {sl10 : Array (Option Value)} {f10 : Addr} {oc10 kV10 dc10 pm10 cd10 ct10 : Value}
    {od11 an11 : Option Addr} {sl11 : Array (Option Value)} {f11 : Addr} {oc11 kV11 dc11 pm11 cd11 ct11 : Value}
    {od12 an12 : Option Addr} {sl12 : Array (Option Value)} {f12 : Addr} {oc12 kV12 dc12 pm12 cd12 ct12 : Value}
    {od13 an13 : Option Addr} {sl13 : Array (Option Value)} {f13 : Addr} {oc13 kV13 dc13 pm13 cd13 ct13 : Value}
    {od14 an14 : Option Addr} {sl14 : Array (Option Value)} {f14 : Addr} {oc14 kV14 dc14 pm14 cd14 ct14 : Value}
    {od15 an15 : Option Addr} {sl15 : Array (Option Value)} {f15 : Addr} {oc15 kV15 dc15 pm15 cd15 ct15 : Value}
    {od16 an16 : Option Addr} {sl16 : Array (Option Value)} {f16 : Addr} {oc16 kV16 dc16 pm16 cd16 ct16 : Value}
    {od17 an17 : Option Addr} {sl17 : Array (Option Value)} {f17 : Addr} {oc17 kV17 dc17 pm17 cd17 ct17 : Value}
    {od18 an18 : Option Addr} {sl18 : Array (Option Value)} {f18 : Addr} {oc18 kV18 dc18 pm18 cd18 ct18 : Value}
    {od19 an19 : Option Addr} {sl19 : Array (Option Value)} {f19 : Addr} {oc19 kV19 dc19 pm19 cd19 ct19 : Value}
    {od20 an20 : Option Addr} {sl20 : Array (Option Value)} {f20 : Addr} {oc20 kV20 dc20 pm20 cd20 ct20 : Value}
    {od21 an21 : Option Addr} {sl21 : Array (Option Value)} {f21 : Addr} {oc21 kV21 dc21 pm21 cd21 ct21 : Value}
    {od22 an22 : Option Addr} {sl22 : Array (Option Value)} {f22 : Addr} {oc22 kV22 dc22 pm22 cd22 ct22 : Value}
    {od23 an23 : Option Addr} {sl23 : Array (Option Value)} {f23 : Addr} {oc23 kV23 dc23 pm23 cd23 ct23 : Value}
    {od24 an24 : Option Addr} {sl24 : Array (Option Value)} {f24 : Addr} {oc24 kV24 dc24 pm24 cd24 ct24 : Value}
    {od25 an25 : Option Addr} {sl25 : Array (Option Value)} {f25 : Addr} {oc25 kV25 dc25 pm25 cd25 ct25 : Value}
    {od26 an26 : Option Addr} {sl26 : Array (Option Value)} {f26 : Addr} {oc26 kV26 dc26 pm26 cd26 ct26 : Value}
    {od27 an27 : Option Addr} {sl27 : Array (Option Value)} {f27 : Addr} {oc27 kV27 dc27 pm27 cd27 ct27 : Value}
    {od28 an28 : Option Addr} {sl28 : Array (Option Value)} {f28 : Addr} {oc28 kV28 dc28 pm28 cd28 ct28 : Value}
    {od29 an29 : Option Addr} {sl29 : Array (Option Value)} {f29 : Addr} {oc29 kV29 dc29 pm29 cd29 ct29 : Value}
    {od30 an30 : Option Addr} {sl30 : Array (Option Value)} {f30 : Addr} {oc30 kV30 dc30 pm30 cd30 ct30 : Value}
    (aB : PySem.W.nsIn K mainGlobals "WindowError" = some (some (.ref Db)))
    (iB : PySem.W.findIn K (.ref Db) "__init__" = some (some (.ref fI)))
    (lB : K.lookup fI = some ⟨ocI, odI, .func (PySem.W.ksFn "__init__" "WindowError.__init__" (PySem.OwnErr.eA ⟨4, 17, 4, 21⟩ ⟨4, 23, 4, 28⟩) (PySem.OwnErr.eB wdI ixI qW) PySem.OwnErr.eS .none kVI dcI pmI anI (.ref cda) ctI cc), oslI⟩)
    (cB : PySem.W.codeIn K (.ref cda) "WindowError.__init__" = true)
    (dB : K.lookup cda = some ⟨cclI, cddI, .fields vsI, ccsI⟩)
    (vB : vsI[2]? = some (.str fileI tfI))
    (fB : ((P.main.file : Str) == fileI) = true)
    (eB : K.lookup cc = some ⟨clI, cldI, .cell (some (.ref Db)), cslI⟩)
    (gB : PySem.W.clsIn K Db = some cdD)
    (tB : (P.main.scope.names.lookup ("super" : Str)).isSome = false)
    (yB : PySem.W.nsIn K cStatics "thirdparty.any" = some none)
    (zB : PySem.W.typeIn K (.ref fI) = some (.type "function"))
    (jB : PySem.W.specialIn K (.builtin "object.__class__") "__get__" = some (some (.builtin "getset_descriptor.__get__")))
    (kB : PySem.W.takesIn K (.builtin "object.__class__") = some true)
    (uB : PySem.W.nsIn K mainGlobals "super" = some none)
    (x0a : PySem.W.nsIn K mainGlobals "InvalidColumn" = some (some (.ref C0)))
    (x0l : K.lookup C0 = some (PySem.excClassObj nm0 q0 C0 N0 bs0 [.ref Db, .type "ValueError", .type "Exception", .type "BaseException", .type "object"] true sn0 sb0 ab0 cl0 dd0 m00 m10 m20 m30 m50 "ValueError.__new__"))
    (x0s : PySem.W.findIn K (.ref C0) "__setattr__" = some (some (.builtin "object.__setattr__")))
    (x0g : PySem.W.findIn K (.ref C0) "__getattribute__" = some (some (.builtin "BaseException.__getattribute__")))
    (x0h : PySem.W.findIn K (.ref C0) "__getattr__" = some none)
    (x0v : PySem.W.findIn K (.ref C0) "value" = some none)
    (x0i : PySem.W.findIn K (.ref C0) "__init__" = some (some (.ref fI)))
    (x0e : PySem.W.subIn K (.ref C0) (.type "BaseException") = some true)
    (x0t : PySem.W.typeIn K (.ref C0) = some (.type "type"))
    (x0k : PySem.W.keepIn K (.ref C0) = true)
    (x0d : PySem.W.hasDictIn K C0 = true)
    (x0b : PySem.W.mroIn K C0 (.ref Db) = some true)
    (x0u : PySem.W.ks_superIn K C0 Db "__init__" = some (some (.builtin "ValueError.__init__")))
    (x0w : PySem.W.subIn K (.ref C0) (.type "ValueError") = some true)
    (x0m : PySem.W.findIn K (.ref C0) "__class__" = some (some (.builtin "object.__class__")))
    (x0o : PySem.W.mroIn K C0 (.type "object") = some true)
    (x1a : PySem.W.nsIn K mainGlobals "InvalidSorting" = some (some (.ref C1)))
    (x1l : K.lookup C1 = some (PySem.excClassObj nm1 q1 C1 N1 bs1 [.ref Db, .type "ValueError", .type "Exception", .type "BaseException", .type "object"] true sn1 sb1 ab1 cl1 dd1 m01 m11 m21 m31 m51 "ValueError.__new__"))
    (x1s : PySem.W.findIn K (.ref C1) "__setattr__" = some (some (.builtin "object.__setattr__")))
    (x1g : PySem.W.findIn K (.ref C1) "__getattribute__" = some (some (.builtin "BaseException.__getattribute__")))
    (x1h : PySem.W.findIn K (.ref C1) "__getattr__" = some none)
    (x1v : PySem.W.findIn K (.ref C1) "value" = some none)
    (x1i : PySem.W.findIn K (.ref C1) "__init__" = some (some (.ref fI)))
    (x1e : PySem.W.subIn K (.ref C1) (.type "BaseException") = some true)
    (x1t : PySem.W.typeIn K (.ref C1) = some (.type "type"))
    (x1k : PySem.W.keepIn K (.ref C1) = true)
    (x1d : PySem.W.hasDictIn K C1 = true)
    (x1b : PySem.W.mroIn K C1 (.ref Db) = some true)
    (x1u : PySem.W.ks_superIn K C1 Db "__init__" = some (some (.builtin "ValueError.__init__")))
    (x1w : PySem.W.subIn K (.ref C1) (.type "ValueError") = some true)
    (x1m : PySem.W.findIn K (.ref C1) "__class__" = some (some (.builtin "object.__class__")))
    (x1o : PySem.W.mroIn K C1 (.type "object") = some true)
    (y0_0 : PySem.W.subIn K (.ref C0) (.ref C0) = some true)
    (y0_1 : PySem.W.subIn K (.ref C0) (.ref C1) = some false)
    (y1_0 : PySem.W.subIn K (.ref C1) (.ref C0) = some false)
    (y1_1 : PySem.W.subIn K (.ref C1) (.ref C1) = some true)
    (a0 : PySem.W.nsIn K mainGlobals "are_keys" = some (some (.ref f0))) (l0 : K.lookup f0 = some ⟨oc0, od0, .func (PySem.W.fnOf "are_keys" "are_keys" (defArgs s_are_keys) (defBody s_are_keys) (defScope s_are_keys) .none kV0 dc0 pm0 an0 cd0 ct0), sl0⟩) (c0 : PySem.W.codeIn K cd0 "are_keys" = true) (k0 : PySem.W.keepIn K (.ref f0) = true)
    (a1 : PySem.W.nsIn K mainGlobals "after_click" = some (some (.ref f1))) (l1 : K.lookup f1 = some ⟨oc1, od1, .func (PySem.W.fnOf "after_click" "after_click" (defArgs s_after_click) (defBody s_after_click) (defScope s_after_click) .none kV1 dc1 pm1 an1 cd1 ct1), sl1⟩) (c1 : PySem.W.codeIn K cd1 "after_click" = true) (k1 : PySem.W.keepIn K (.ref f1) = true)
    (a2 : PySem.W.nsIn K mainGlobals "need_keys" = some (some (.ref f2))) (l2 : K.lookup f2 = some ⟨oc2, od2, .func (PySem.W.fnOf "need_keys" "need_keys" (defArgs s_need_keys) (defBody s_need_keys) (defScope s_need_keys) .none kV2 dc2 pm2 an2 cd2 ct2), sl2⟩) (c2 : PySem.W.codeIn K cd2 "need_keys" = true) (k2 : PySem.W.keepIn K (.ref f2) = true)
    (a3 : PySem.W.nsIn K mainGlobals "after_clicks" = some (some (.ref f3))) (l3 : K.lookup f3 = some ⟨oc3, od3, .func (PySem.W.fnOf "after_clicks" "after_clicks" (defArgs s_after_clicks) (defBody s_after_clicks) (defScope s_after_clicks) .none kV3 dc3 pm3 an3 cd3 ct3), sl3⟩) (c3 : PySem.W.codeIn K cd3 "after_clicks" = true) (k3 : PySem.W.keepIn K (.ref f3) = true)
    (a4 : PySem.W.nsIn K mainGlobals "has_form" = some (some (.ref f4))) (l4 : K.lookup f4 = some ⟨oc4, od4, .func (PySem.W.fnOf "has_form" "has_form" (defArgs s_has_form) (defBody s_has_form) (defScope s_has_form) .none kV4 dc4 pm4 an4 cd4 ct4), sl4⟩) (c4 : PySem.W.codeIn K cd4 "has_form" = true) (k4 : PySem.W.keepIn K (.ref f4) = true)
    (a5 : PySem.W.nsIn K mainGlobals "need_form" = some (some (.ref f5))) (l5 : K.lookup f5 = some ⟨oc5, od5, .func (PySem.W.fnOf "need_form" "need_form" (defArgs s_need_form) (defBody s_need_form) (defScope s_need_form) .none kV5 dc5 pm5 an5 cd5 ct5), sl5⟩) (c5 : PySem.W.codeIn K cd5 "need_form" = true) (k5 : PySem.W.keepIn K (.ref f5) = true)
    (a6 : PySem.W.nsIn K mainGlobals "columns_of" = some (some (.ref f6))) (l6 : K.lookup f6 = some ⟨oc6, od6, .func (PySem.W.fnOf "columns_of" "columns_of" (defArgs s_columns_of) (defBody s_columns_of) (defScope s_columns_of) .none kV6 dc6 pm6 an6 cd6 ct6), sl6⟩) (c6 : PySem.W.codeIn K cd6 "columns_of" = true) (k6 : PySem.W.keepIn K (.ref f6) = true)
    (a7 : PySem.W.nsIn K mainGlobals "is_left_alone" = some (some (.ref f7))) (l7 : K.lookup f7 = some ⟨oc7, od7, .func (PySem.W.fnOf "is_left_alone" "is_left_alone" (defArgs s_is_left_alone) (defBody s_is_left_alone) (defScope s_is_left_alone) .none kV7 dc7 pm7 an7 cd7 ct7), sl7⟩) (c7 : PySem.W.codeIn K cd7 "is_left_alone" = true) (k7 : PySem.W.keepIn K (.ref f7) = true)
    (a8 : PySem.W.nsIn K mainGlobals "made_form" = some (some (.ref f8))) (l8 : K.lookup f8 = some ⟨oc8, od8, .func (PySem.W.fnOf "made_form" "made_form" (defArgs s_made_form) (defBody s_made_form) (defScope s_made_form) .none kV8 dc8 pm8 an8 cd8 ct8), sl8⟩) (c8 : PySem.W.codeIn K cd8 "made_form" = true) (k8 : PySem.W.keepIn K (.ref f8) = true)
    (a9 : PySem.W.nsIn K mainGlobals "form_of" = some (some (.ref f9))) (l9 : K.lookup f9 = some ⟨oc9, od9, .func (PySem.W.fnOf "form_of" "form_of" (defArgs s_form_of) (defBody s_form_of) (defScope s_form_of) .none kV9 dc9 pm9 an9 cd9 ct9), sl9⟩) (c9 : PySem.W.codeIn K cd9 "form_of" = true) (k9 : PySem.W.keepIn K (.ref f9) = true)
    (a10 : PySem.W.nsIn K mainGlobals "is_form" = some (some (.ref f10))) (l10 : K.lookup f10 = some ⟨oc10, od10, .func (PySem.W.fnOf "is_form" "is_form" (defArgs s_is_form) (defBody s_is_form) (defScope s_is_form) .none kV10 dc10 pm10 an10 cd10 ct10), sl10⟩) (c10 : PySem.W.codeIn K cd10 "is_form" = true) (k10 : PySem.W.keepIn K (.ref f10) = true)
    (a11 : PySem.W.nsIn K mainGlobals "made_of" = some (some (.ref f11))) (l11 : K.lookup f11 = some ⟨oc11, od11, .func (PySem.W.fnOf "made_of" "made_of" (defArgs s_made_of) (defBody s_made_of) (defScope s_made_of) .none kV11 dc11 pm11 an11 cd11 ct11), sl11⟩) (c11 : PySem.W.codeIn K cd11 "made_of" = true) (k11 : PySem.W.keepIn K (.ref f11) = true)
    (a12 : PySem.W.nsIn K mainGlobals "formed" = some (some (.ref f12))) (l12 : K.lookup f12 = some ⟨oc12, od12, .func (PySem.W.fnOf "formed" "formed" (defArgs s_formed) (defBody s_formed) (defScope s_formed) .none kV12 dc12 pm12 an12 cd12 ct12), sl12⟩) (c12 : PySem.W.codeIn K cd12 "formed" = true) (k12 : PySem.W.keepIn K (.ref f12) = true)
    (a13 : PySem.W.nsIn K mainGlobals "alike" = some (some (.ref f13))) (l13 : K.lookup f13 = some ⟨oc13, od13, .func (PySem.W.fnOf "alike" "alike" (defArgs s_alike) (defBody s_alike) (defScope s_alike) .none kV13 dc13 pm13 an13 cd13 ct13), sl13⟩) (c13 : PySem.W.codeIn K cd13 "alike" = true) (k13 : PySem.W.keepIn K (.ref f13) = true)
    (a14 : PySem.W.nsIn K mainGlobals "first_apart" = some (some (.ref f14))) (l14 : K.lookup f14 = some ⟨oc14, od14, .func (PySem.W.fnOf "first_apart" "first_apart" (defArgs s_first_apart) (defBody s_first_apart) (defScope s_first_apart) .none kV14 dc14 pm14 an14 cd14 ct14), sl14⟩) (c14 : PySem.W.codeIn K cd14 "first_apart" = true) (k14 : PySem.W.keepIn K (.ref f14) = true)
    (a15 : PySem.W.nsIn K mainGlobals "_law_open" = some (some (.ref f15))) (l15 : K.lookup f15 = some ⟨oc15, od15, .func (PySem.W.fnOf "_law_open" "_law_open" (defArgs s__law_open) (defBody s__law_open) (defScope s__law_open) .none kV15 dc15 pm15 an15 cd15 ct15), sl15⟩) (c15 : PySem.W.codeIn K cd15 "_law_open" = true) (k15 : PySem.W.keepIn K (.ref f15) = true)
    (a16 : PySem.W.nsIn K mainGlobals "_law_draw" = some (some (.ref f16))) (l16 : K.lookup f16 = some ⟨oc16, od16, .func (PySem.W.fnOf "_law_draw" "_law_draw" (defArgs s__law_draw) (defBody s__law_draw) (defScope s__law_draw) .none kV16 dc16 pm16 an16 cd16 ct16), sl16⟩) (c16 : PySem.W.codeIn K cd16 "_law_draw" = true) (k16 : PySem.W.keepIn K (.ref f16) = true)
    (a17 : PySem.W.nsIn K mainGlobals "_law_clicks" = some (some (.ref f17))) (l17 : K.lookup f17 = some ⟨oc17, od17, .func (PySem.W.fnOf "_law_clicks" "_law_clicks" (defArgs s__law_clicks) (defBody s__law_clicks) (defScope s__law_clicks) .none kV17 dc17 pm17 an17 cd17 ct17), sl17⟩) (c17 : PySem.W.codeIn K cd17 "_law_clicks" = true) (k17 : PySem.W.keepIn K (.ref f17) = true)
    (a18 : PySem.W.nsIn K mainGlobals "_law_click" = some (some (.ref f18))) (l18 : K.lookup f18 = some ⟨oc18, od18, .func (PySem.W.fnOf "_law_click" "_law_click" (defArgs s__law_click) (defBody s__law_click) (defScope s__law_click) .none kV18 dc18 pm18 an18 cd18 ct18), sl18⟩) (c18 : PySem.W.codeIn K cd18 "_law_click" = true) (k18 : PySem.W.keepIn K (.ref f18) = true)
    (a19 : PySem.W.nsIn K mainGlobals "_law_after" = some (some (.ref f19))) (l19 : K.lookup f19 = some ⟨oc19, od19, .func (PySem.W.fnOf "_law_after" "_law_after" (defArgs s__law_after) (defBody s__law_after) (defScope s__law_after) .none kV19 dc19 pm19 an19 cd19 ct19), sl19⟩) (c19 : PySem.W.codeIn K cd19 "_law_after" = true) (k19 : PySem.W.keepIn K (.ref f19) = true)
    (a20 : PySem.W.nsIn K mainGlobals "_law_keys" = some (some (.ref f20))) (l20 : K.lookup f20 = some ⟨oc20, od20, .func (PySem.W.fnOf "_law_keys" "_law_keys" (defArgs s__law_keys) (defBody s__law_keys) (defScope s__law_keys) .none kV20 dc20 pm20 an20 cd20 ct20), sl20⟩) (c20 : PySem.W.codeIn K cd20 "_law_keys" = true) (k20 : PySem.W.keepIn K (.ref f20) = true)
    (a21 : PySem.W.nsIn K mainGlobals "_law_every" = some (some (.ref f21))) (l21 : K.lookup f21 = some ⟨oc21, od21, .func (PySem.W.fnOf "_law_every" "_law_every" (defArgs s__law_every) (defBody s__law_every) (defScope s__law_every) .none kV21 dc21 pm21 an21 cd21 ct21), sl21⟩) (c21 : PySem.W.codeIn K cd21 "_law_every" = true) (k21 : PySem.W.keepIn K (.ref f21) = true)
    (a22 : PySem.W.nsIn K mainGlobals "_law_says" = some (some (.ref f22))) (l22 : K.lookup f22 = some ⟨oc22, od22, .func (PySem.W.fnOf "_law_says" "_law_says" (defArgs s__law_says) (defBody s__law_says) (defScope s__law_says) .none kV22 dc22 pm22 an22 cd22 ct22), sl22⟩) (c22 : PySem.W.codeIn K cd22 "_law_says" = true) (k22 : PySem.W.keepIn K (.ref f22) = true)
    (a23 : PySem.W.nsIn K mainGlobals "_law_bound" = some (some (.ref f23))) (l23 : K.lookup f23 = some ⟨oc23, od23, .func (PySem.W.fnOf "_law_bound" "_law_bound" (defArgs s__law_bound) (defBody s__law_bound) (defScope s__law_bound) .none kV23 dc23 pm23 an23 cd23 ct23), sl23⟩) (c23 : PySem.W.codeIn K cd23 "_law_bound" = true) (k23 : PySem.W.keepIn K (.ref f23) = true)
    (a24 : PySem.W.nsIn K mainGlobals "_law_other" = some (some (.ref f24))) (l24 : K.lookup f24 = some ⟨oc24, od24, .func (PySem.W.fnOf "_law_other" "_law_other" (defArgs s__law_other) (defBody s__law_other) (defScope s__law_other) .none kV24 dc24 pm24 an24 cd24 ct24), sl24⟩) (c24 : PySem.W.codeIn K cd24 "_law_other" = true) (k24 : PySem.W.keepIn K (.ref f24) = true)
    (a25 : PySem.W.nsIn K mainGlobals "_law_is_form_right" = some (some (.ref f25))) (l25 : K.lookup f25 = some ⟨oc25, od25, .func (PySem.W.fnOf "_law_is_form_right" "_law_is_form_right" (defArgs s__law_is_form_right) (defBody s__law_is_form_right) (defScope s__law_is_form_right) .none kV25 dc25 pm25 an25 cd25 ct25), sl25⟩) (c25 : PySem.W.codeIn K cd25 "_law_is_form_right" = true) (k25 : PySem.W.keepIn K (.ref f25) = true)
    (a26 : PySem.W.nsIn K mainGlobals "_law_far_right" = some (some (.ref f26))) (l26 : K.lookup f26 = some ⟨oc26, od26, .func (PySem.W.fnOf "_law_far_right" "_law_far_right" (defArgs s__law_far_right) (defBody s__law_far_right) (defScope s__law_far_right) .none kV26 dc26 pm26 an26 cd26 ct26), sl26⟩) (c26 : PySem.W.codeIn K cd26 "_law_far_right" = true) (k26 : PySem.W.keepIn K (.ref f26) = true)
    (a27 : PySem.W.nsIn K mainGlobals "_law_many_right" = some (some (.ref f27))) (l27 : K.lookup f27 = some ⟨oc27, od27, .func (PySem.W.fnOf "_law_many_right" "_law_many_right" (defArgs s__law_many_right) (defBody s__law_many_right) (defScope s__law_many_right) .none kV27 dc27 pm27 an27 cd27 ct27), sl27⟩) (c27 : PySem.W.codeIn K cd27 "_law_many_right" = true) (k27 : PySem.W.keepIn K (.ref f27) = true)
    (a28 : PySem.W.nsIn K mainGlobals "_law_alike_right" = some (some (.ref f28))) (l28 : K.lookup f28 = some ⟨oc28, od28, .func (PySem.W.fnOf "_law_alike_right" "_law_alike_right" (defArgs s__law_alike_right) (defBody s__law_alike_right) (defScope s__law_alike_right) .none kV28 dc28 pm28 an28 cd28 ct28), sl28⟩) (c28 : PySem.W.codeIn K cd28 "_law_alike_right" = true) (k28 : PySem.W.keepIn K (.ref f28) = true)
    (a29 : PySem.W.nsIn K mainGlobals "_law_right" = some (some (.ref f29))) (l29 : K.lookup f29 = some ⟨oc29, od29, .func (PySem.W.fnOf "_law_right" "_law_right" (defArgs s__law_right) (defBody s__law_right) (defScope s__law_right) .none kV29 dc29 pm29 an29 cd29 ct29), sl29⟩) (c29 : PySem.W.codeIn K cd29 "_law_right" = true) (k29 : PySem.W.keepIn K (.ref f29) = true)
    (a30 : PySem.W.nsIn K mainGlobals "law" = some (some (.ref f30))) (l30 : K.lookup f30 = some ⟨oc30, od30, .func (PySem.W.fnOf "law" "law" (defArgs s_law) (defBody s_law) (defScope s_law) .none kV30 dc30 pm30 an30 cd30 ct30), sl30⟩) (c30 : PySem.W.codeIn K cd30 "law" = true) (k30 : PySem.W.keepIn K (.ref f30) = true)
    (z0 : PySem.W.nsIn K mainGlobals "abs" = some none)
    (z1 : PySem.W.nsIn K mainGlobals "all" = some none)
    (z2 : PySem.W.nsIn K mainGlobals "bool" = some none)
    (z3 : PySem.W.nsIn K mainGlobals "int" = some none)
    (z4 : PySem.W.nsIn K mainGlobals "isinstance" = some none)
    (z5 : PySem.W.nsIn K mainGlobals "len" = some none)
    (z6 : PySem.W.nsIn K mainGlobals "list" = some none)
    (z7 : PySem.W.nsIn K mainGlobals "max" = some none)
    (z8 : PySem.W.nsIn K mainGlobals "min" = some none)
    (z9 : PySem.W.nsIn K mainGlobals "range" = some none)
    (z10 : PySem.W.nsIn K mainGlobals "repr" = some none)
    (z11 : PySem.W.nsIn K mainGlobals "set" = some none) :
    ∃ (fd : FuncData) (cs : List (Addr × Addr)), (∀ p ∈ cs, h.get? p.2 = some tab0 ∧ K.lookup p.2 = none ∧ PySem.W.codeHdIn K p.1 p.2 = true) ∧ (∀ P q, TbN K P q → P ∈ cs.map (·.2)) ∧ (∀ (s : Shared) (v : Value), BindsTo s fd ⟨[v], []⟩ [("script", v)]) ∧
      ∀ base : Heap, K.In base → base.Ns mainGlobals mg → (∀ p ∈ cs, LamX.TabB base mg p.1 p.2) → FnG P w K mg base CX0 8 fa fd ["script"] (spD K F_law) := by
  have e := hfa.symm.trans (PySem.W.mg_of X G a30)
  cases e
  have bse : PySem.OwnErr.Bse P K Db fI := ⟨⟨_, _, _, _, _, _, _, _, _, _, _, _, _, _, _, _, _, _, _, _, _, _, _, qW, lB, cB, dB, vB, fB, eB, hev_W _ _⟩, ⟨_, gB⟩, tB, yB, zB⟩
  have e0 : Err P K mg "InvalidColumn" C0 := ⟨⟨Db, fI, bse, ⟨⟨⟨_, _, _, _, _, _, _, _, _, _, _, _, _, _, _, x0l, rfl⟩, x0s, x0e, x0t, x0k⟩, ⟨x0g, x0h, x0e, x0d⟩, x0v, x0i, x0b, x0u, x0w⟩⟩, PySem.W.mg_of X G x0a, PySem.W.mg_none_of X G uB⟩
  have e1 : Err P K mg "InvalidSorting" C1 := ⟨⟨Db, fI, bse, ⟨⟨⟨_, _, _, _, _, _, _, _, _, _, _, _, _, _, _, x1l, rfl⟩, x1s, x1e, x1t, x1k⟩, ⟨x1g, x1h, x1e, x1d⟩, x1v, x1i, x1b, x1u, x1w⟩⟩, PySem.W.mg_of X G x1a, PySem.W.mg_none_of X G uB⟩
  have EF : ErrF K := { i_InvalidColumn_InvalidColumn := is_of x0a x0a x0d x0t y0_0 (fun _ => rfl), s_InvalidColumn_InvalidColumn := sub_is x0a x0a x0e x0d x0t y0_0, i_InvalidColumn_InvalidSorting := is_of x0a x1a x1d x1t y0_1 (fun z => by have q := y0_1; rw [← z, y0_0] at q; cases q), s_InvalidColumn_InvalidSorting := sub_is x0a x1a x1e x1d x1t y0_1, x_InvalidColumn := fun C' hC => by rw [cla_eq x0a hC]; exact ⟨x0g, x0h, x0e, x0d, x0m, jB, kB, x0o⟩, v_InvalidColumn := fun C' hC => by rw [cla_eq x0a hC]; exact ⟨⟨x0g, x0h, x0e, x0d⟩, x0v⟩, i_InvalidSorting_InvalidColumn := is_of x1a x0a x0d x0t y1_0 (fun z => by have q := y1_0; rw [← z, y1_1] at q; cases q), s_InvalidSorting_InvalidColumn := sub_is x1a x0a x0e x0d x0t y1_0, i_InvalidSorting_InvalidSorting := is_of x1a x1a x1d x1t y1_1 (fun _ => rfl), s_InvalidSorting_InvalidSorting := sub_is x1a x1a x1e x1d x1t y1_1, x_InvalidSorting := fun C' hC => by rw [cla_eq x1a hC]; exact ⟨x1g, x1h, x1e, x1d, x1m, jB, kB, x1o⟩, v_InvalidSorting := fun C' hC => by rw [cla_eq x1a hC]; exact ⟨⟨x1g, x1h, x1e, x1d⟩, x1v⟩ }
  have hcs : ∀ P q, TbN K P q → P ∈ ([] : List (Addr × Addr)).map (·.2) := fun P q ⟨x, hx, _⟩ => absurd hx (by simp [lamNames])
  have hct : ∀ p ∈ ([] : List (Addr × Addr)), h.get? p.2 = some tab0 ∧ K.lookup p.2 = none ∧ PySem.W.codeHdIn K p.1 p.2 = true := fun p hp => absurd hp (by simp)
  refine ⟨PySem.W.fnOf "law" "law" (defArgs s_law) (defBody s_law) (defScope s_law) .none kV30 dc30 pm30 an30 cd30 ct30, [], hct, hcs, fun s v => .of_eq rfl, fun base _ _ TB => ?_⟩
  let T : Txt P K mg base := ⟨_, _, fun_mk (st := s_are_keys) l0 c0 k0, PySem.W.mg_of X G a0, _, _, fun_mk (st := s_after_click) l1 c1 k1, PySem.W.mg_of X G a1, _, _, fun_mk (st := s_need_keys) l2 c2 k2, PySem.W.mg_of X G a2, _, _, fun_mk (st := s_after_clicks) l3 c3 k3, PySem.W.mg_of X G a3, _, _, fun_mk (st := s_has_form) l4 c4 k4, PySem.W.mg_of X G a4, _, _, fun_mk (st := s_need_form) l5 c5 k5, PySem.W.mg_of X G a5, _, _, fun_mk (st := s_columns_of) l6 c6 k6, PySem.W.mg_of X G a6, _, _, fun_mk (st := s_is_left_alone) l7 c7 k7, PySem.W.mg_of X G a7, _, _, fun_mk (st := s_made_form) l8 c8 k8, PySem.W.mg_of X G a8, _, _, fun_mk (st := s_form_of) l9 c9 k9, PySem.W.mg_of X G a9, _, _, fun_mk (st := s_is_form) l10 c10 k10, PySem.W.mg_of X G a10, _, _, fun_mk (st := s_made_of) l11 c11 k11, PySem.W.mg_of X G a11, _, _, fun_mk (st := s_formed) l12 c12 k12, PySem.W.mg_of X G a12, _, _, fun_mk (st := s_alike) l13 c13 k13, PySem.W.mg_of X G a13, _, _, fun_mk (st := s_first_apart) l14 c14 k14, PySem.W.mg_of X G a14, _, _, fun_mk (st := s__law_open) l15 c15 k15, PySem.W.mg_of X G a15, _, _, fun_mk (st := s__law_draw) l16 c16 k16, PySem.W.mg_of X G a16, _, _, fun_mk (st := s__law_clicks) l17 c17 k17, PySem.W.mg_of X G a17, _, _, fun_mk (st := s__law_click) l18 c18 k18, PySem.W.mg_of X G a18, _, _, fun_mk (st := s__law_after) l19 c19 k19, PySem.W.mg_of X G a19, _, _, fun_mk (st := s__law_keys) l20 c20 k20, PySem.W.mg_of X G a20, _, _, fun_mk (st := s__law_every) l21 c21 k21, PySem.W.mg_of X G a21, _, _, fun_mk (st := s__law_says) l22 c22 k22, PySem.W.mg_of X G a22, _, _, fun_mk (st := s__law_bound) l23 c23 k23, PySem.W.mg_of X G a23, _, _, fun_mk (st := s__law_other) l24 c24 k24, PySem.W.mg_of X G a24, _, _, fun_mk (st := s__law_is_form_right) l25 c25 k25, PySem.W.mg_of X G a25, _, _, fun_mk (st := s__law_far_right) l26 c26 k26, PySem.W.mg_of X G a26, _, _, fun_mk (st := s__law_many_right) l27 c27 k27, PySem.W.mg_of X G a27, _, _, fun_mk (st := s__law_alike_right) l28 c28 k28, PySem.W.mg_of X G a28, _, _, fun_mk (st := s__law_right) l29 c29 k29, PySem.W.mg_of X G a29, _, _, fun_mk (st := s_law) l30 c30 k30, PySem.W.mg_of X G a30, PySem.W.mg_none_of X G z0, PySem.W.mg_none_of X G z1, PySem.W.mg_none_of X G z2, PySem.W.mg_none_of X G z3, PySem.W.mg_none_of X G z4, PySem.W.mg_none_of X G z5, PySem.W.mg_none_of X G z6, PySem.W.mg_none_of X G z7, PySem.W.mg_none_of X G z8, PySem.W.mg_none_of X G z9, PySem.W.mg_none_of X G z10, PySem.W.mg_none_of X G z11, ⟨_, x0a, e0⟩, ⟨_, x1a, e1⟩, EF⟩
  exact g_law T
end Lw

open PySem PySem.W PyProof.Rows
set_option maxHeartbeats 0 in
set_option maxRecDepth 100000 in
theorem PySem.Challenge.cw_listworks_k03_forms_of_clicks_done_holds : PySem.Challenge.rw_listworks_k03_forms_of_clicks_done.Holds := by
  w_on; o_law; k_head; (case hw => w_witness2)
  k_fill
  refine Pd.walk_ofT (l := PySem.Challenge.rw_listworks_k03_forms_of_clicks_done) (n := 63) (k := 8) (x := "script") (CX := fun _ => L2.CX0) (sp := fun w => Pd.spD _ Lw.F_law) rfl (by decide) rfl ⟨rfl, by decide, by decide⟩ (fun w h Y => PySem.W.kIn_of Y) ?F (fun _ _ a ns hl hT hS => Lw.law_start hl hT hS) (fun _ _ _ _ _ h => h)
  case F =>
    intro w mg fa h Y KX G hmg
    refine' Lw.all_mk KX G hmg ?aB ?iB ?lB ?cB ?dB ?vB ?fB ?eB ?gB ?tB ?yB ?zB ?jB ?kB ?uB ?x0a ?x0l ?x0s ?x0g ?x0h ?x0v ?x0i ?x0e ?x0t ?x0k ?x0d ?x0b ?x0u ?x0w ?x0m ?x0o ?x1a ?x1l ?x1s ?x1g ?x1h ?x1v ?x1i ?x1e ?x1t ?x1k ?x1d ?x1b ?x1u ?x1w ?x1m ?x1o ?y0_0 ?y0_1 ?y1_0 ?y1_1 ?a0 ?l0 ?c0 ?k0 ?a1 ?l1 ?c1 ?k1 ?a2 ?l2 ?c2 ?k2 ?a3 ?l3 ?c3 ?k3 ?a4 ?l4 ?c4 ?k4 ?a5 ?l5 ?c5 ?k5 ?a6 ?l6 ?c6 ?k6 ?a7 ?l7 ?c7 ?k7 ?a8 ?l8 ?c8 ?k8 ?a9 ?l9 ?c9 ?k9 ?a10 ?l10 ?c10 ?k10 ?a11 ?l11 ?c11 ?k11 ?a12 ?l12 ?c12 ?k12 ?a13 ?l13 ?c13 ?k13 ?a14 ?l14 ?c14 ?k14 ?a15 ?l15 ?c15 ?k15 ?a16 ?l16 ?c16 ?k16 ?a17 ?l17 ?c17 ?k17 ?a18 ?l18 ?c18 ?k18 ?a19 ?l19 ?c19 ?k19 ?a20 ?l20 ?c20 ?k20 ?a21 ?l21 ?c21 ?k21 ?a22 ?l22 ?c22 ?k22 ?a23 ?l23 ?c23 ?k23 ?a24 ?l24 ?c24 ?k24 ?a25 ?l25 ?c25 ?k25 ?a26 ?l26 ?c26 ?k26 ?a27 ?l27 ?c27 ?k27 ?a28 ?l28 ?c28 ?k28 ?a29 ?l29 ?c29 ?k29 ?a30 ?l30 ?c30 ?k30 ?z0 ?z1 ?z2 ?z3 ?z4 ?z5 ?z6 ?z7 ?z8 ?z9 ?z10 ?z11
    (case aB => k_is); (case iB => k_is); (case lB => k_is); (case cB => k_is); (case dB => k_is); (case vB => rfl); (case fB => first | rfl | decide +kernel); (case eB => k_is); (case gB => k_is); (case tB => first | rfl | decide +kernel); (case yB => k_is); (case zB => k_is); (case jB => k_is); (case kB => k_is); (case uB => k_is); (case x0a => k_is); (case x0l => k_is); (case x0s => k_is); (case x0g => k_is); (case x0h => k_is); (case x0v => k_is); (case x0i => k_is); (case x0e => k_is); (case x0t => k_is); (case x0k => k_is); (case x0d => k_is); (case x0b => k_is); (case x0u => ks_is); (case x0w => k_is); (case x0m => k_is); (case x0o => k_is); (case x1a => k_is); (case x1l => k_is); (case x1s => k_is); (case x1g => k_is); (case x1h => k_is); (case x1v => k_is); (case x1i => k_is); (case x1e => k_is); (case x1t => k_is); (case x1k => k_is); (case x1d => k_is); (case x1b => k_is); (case x1u => ks_is); (case x1w => k_is); (case x1m => k_is); (case x1o => k_is); (case y0_0 => k_is); (case y0_1 => k_is); (case y1_0 => k_is); (case y1_1 => k_is); (case a0 => k_is); (case l0 => k_is); (case c0 => k_is); (case k0 => k_is); (case a1 => k_is); (case l1 => k_is); (case c1 => k_is); (case k1 => k_is); (case a2 => k_is); (case l2 => k_is); (case c2 => k_is); (case k2 => k_is); (case a3 => k_is); (case l3 => k_is); (case c3 => k_is); (case k3 => k_is); (case a4 => k_is); (case l4 => k_is); (case c4 => k_is); (case k4 => k_is); (case a5 => k_is); (case l5 => k_is); (case c5 => k_is); (case k5 => k_is); (case a6 => k_is); (case l6 => k_is); (case c6 => k_is); (case k6 => k_is); (case a7 => k_is); (case l7 => k_is); (case c7 => k_is); (case k7 => k_is); (case a8 => k_is); (case l8 => k_is); (case c8 => k_is); (case k8 => k_is); (case a9 => k_is); (case l9 => k_is); (case c9 => k_is); (case k9 => k_is); (case a10 => k_is); (case l10 => k_is); (case c10 => k_is); (case k10 => k_is); (case a11 => k_is); (case l11 => k_is); (case c11 => k_is); (case k11 => k_is); (case a12 => k_is); (case l12 => k_is); (case c12 => k_is); (case k12 => k_is); (case a13 => k_is); (case l13 => k_is); (case c13 => k_is); (case k13 => k_is); (case a14 => k_is); (case l14 => k_is); (case c14 => k_is); (case k14 => k_is); (case a15 => k_is); (case l15 => k_is); (case c15 => k_is); (case k15 => k_is); (case a16 => k_is); (case l16 => k_is); (case c16 => k_is); (case k16 => k_is); (case a17 => k_is); (case l17 => k_is); (case c17 => k_is); (case k17 => k_is); (case a18 => k_is); (case l18 => k_is); (case c18 => k_is); (case k18 => k_is); (case a19 => k_is); (case l19 => k_is); (case c19 => k_is); (case k19 => k_is); (case a20 => k_is); (case l20 => k_is); (case c20 => k_is); (case k20 => k_is); (case a21 => k_is); (case l21 => k_is); (case c21 => k_is); (case k21 => k_is); (case a22 => k_is); (case l22 => k_is); (case c22 => k_is); (case k22 => k_is); (case a23 => k_is); (case l23 => k_is); (case c23 => k_is); (case k23 => k_is); (case a24 => k_is); (case l24 => k_is); (case c24 => k_is); (case k24 => k_is); (case a25 => k_is); (case l25 => k_is); (case c25 => k_is); (case k25 => k_is); (case a26 => k_is); (case l26 => k_is); (case c26 => k_is); (case k26 => k_is); (case a27 => k_is); (case l27 => k_is); (case c27 => k_is); (case k27 => k_is); (case a28 => k_is); (case l28 => k_is); (case c28 => k_is); (case k28 => k_is); (case a29 => k_is); (case l29 => k_is); (case c29 => k_is); (case k29 => k_is); (case a30 => k_is); (case l30 => k_is); (case c30 => k_is); (case k30 => k_is); (case z0 => k_is); (case z1 => k_is); (case z2 => k_is); (case z3 => k_is); (case z4 => k_is); (case z5 => k_is); (case z6 => k_is); (case z7 => k_is); (case z8 => k_is); (case z9 => k_is); (case z10 => k_is); (case z11 => k_is)

