import PyProof.Rows.All
import Wide.All
import OpenK.AllK
import Wide.FinOn
import HandS.ForMost
import HandS.Flow
import HandS.Style
import HandS.Wide
import HandS.Evl
import HandS.Defaults
import HandS.Exc
import HandS.Lambda
import HandS.EndTab
import HandS.WideBits
import HandS.IsInst
import HandS.TupAny
import HandS.ExcIs
import HandS.ExcInit
import HandS.ExcField
import HandS.TryMany
import HandS.WordsExc
import KE.KExcSuper
import KE.KSuper
import PyProof.ReprRoads
import PyProof.ReprLen
import PyProof.FitsInt
import KE.KRevSl
import HandS.Text
import HandS.StrMore
import HandS.Replace
import PyProof.StrOps2
import HandS.Dict
import HandS.Iter
import HandS.DictComp
import HandS.SortInts
import HandS.SetFor
import HandS.Strs
import HandS.SortRule
import HandS.TupSets
import HandS.ListItems
import HandS.TupMul
import HandS.Deep
import HandS.Nested
import KE.SortKeyHeap
import HandS.Conv
import HandS.NestedK
import HandS.Zip
import HandS.Star
import HandS.NoneIn
import HandS.More
import OpenK.KOps
import HandS.MakeKw
import PyProof.Rows.ReprOcc
import PyProof.Rows.ReprItems
import PySem.Challenge.RW_listworks_k45_heights_one_below_the_othe
set_option Elab.async false
set_option linter.all false
set_option maxRecDepth 100000
set_option maxHeartbeats 8000000
/-! Pd0: the defs of this law that make lambdas, and the lambdas' names. -/
namespace Pd
/-- the defs whose lambdas are made, and their lambdas' names -/
def lamNames : List (PySem.Str × PySem.Str) := []
end Pd

/-! Pd: own layer. Values as plain data, lists that change as numbered cells; readings as wishes over (slots, cells), no heap in sight. -/
namespace Pd
open PySem L2
open Evl (Ex)

/-- a value: plain data; the k-th cell; a tuple that holds such -/
inductive W where
  | d (x : PyData)
  | m (k : Nat)
  | t (ws : List W)
  | f (ws : List W)
  | k (v : V)
/-- what a cell holds -/
inductive C where
  | lst (ws : List W)
  | xd (d : Addr) (w : W)
  /-- an error that the text calls x, its dict at d -/
  | er (x : PySem.Str) (d : Addr)
  /-- a dict: its keys and values in order -/
  | dk (kvs : List (L2.Key × W))
  /-- a dict that is locked while it is walked -/
  | fk (od : Obj) (us : List (L2.Key × V)) (kvs : List (L2.Key × W))
  /-- an instance of the class that the text calls x: its attributes in order -/
  | ob (x : PySem.Str) (fs : List (PySem.Str × W))
abbrev G := List (Option W)
abbrev Mu := List (Option C)

variable {K : PySem.W.Frag}
/-! plain data at an address: lists are tracked ones -/
mutual
inductive DQ (K : PySem.W.Frag) (H : Hp) : V → PyData → Prop
  | non : DQ K H .non .none
  | bl (b : Bool) : DQ K H (.bl b) (.bool b)
  | int (i : Int) : DQ K H (.int i) (.int i)
  | str (x : PySem.Str) : DQ K H (.str x) (.str x)
  | lst {a : Addr} {xs : List V} {ds : List PyData} : H a = some (.lst xs) → DQs K H xs ds → DQ K H (.ref a) (.list ds)
  | tup {a : Addr} {xs : List V} {ds : List PyData} : SqT K H a xs → DQs K H xs ds → DQ K H (.ref a) (.tuple ds)
inductive DQs (K : PySem.W.Frag) (H : Hp) : List V → List PyData → Prop
  | nil : DQs K H [] []
  | cons {v : V} {vs : List V} {d : PyData} {ds : List PyData} : DQ K H v d → DQs K H vs ds → DQs K H (v :: vs) (d :: ds)
end
mutual
theorem DQ.dp {H : Hp} : ∀ {v : V} {d : PyData}, DQ K H v d → Dp K H v d
  | _, _, .non => .non
  | _, _, .bl b => .bl b
  | _, _, .int i => .int i
  | _, _, .str x => .str x
  | _, _, .lst h1 h2 => .lst (SqL.of h1) (DQs.dp h2)
  | _, _, .tup h1 h2 => .tup h1 (DQs.dp h2)
theorem DQs.dp {H : Hp} : ∀ {vs : List V} {ds : List PyData}, DQs K H vs ds → DpAll K H vs ds
  | _, _, .nil => .nil
  | _, _, .cons h1 h2 => .cons (DQ.dp h1) (DQs.dp h2)
end
mutual
inductive VR (K : PySem.W.Frag) (H : Hp) (M : List Addr) : V → W → Prop
  | d {v : V} {x : PyData} : DQ K H v x → VR K H M v (.d x)
  | m {k : Nat} {a : Addr} : M[k]? = some a → VR K H M (.ref a) (.m k)
  | t {a : Addr} {vs : List V} {ws : List W} : SqT K H a vs → VRs K H M vs ws → VR K H M (.ref a) (.t ws)
  | f {a : Addr} {vs : List V} {ws : List W} : SqL K H a vs → VRs K H M vs ws → VR K H M (.ref a) (.f ws)
  | k (v : V) : VR K H M v (.k v)
inductive VRs (K : PySem.W.Frag) (H : Hp) (M : List Addr) : List V → List W → Prop
  | nil : VRs K H M [] []
  | cons {v : V} {w : W} {vs : List V} {ws : List W} : VR K H M v w → VRs K H M vs ws → VRs K H M (v :: vs) (w :: ws)
end
mutual
theorem dp_mono {H H' : Hp} (e : Ex H H') : ∀ {v : V} {d : PyData}, DQ K H v d → DQ K H' v d
  | _, _, .non => .non
  | _, _, .bl b => .bl b
  | _, _, .int i => .int i
  | _, _, .str x => .str x
  | _, _, .lst h1 h2 => .lst (e _ _ h1) (dpa_mono e h2)
  | _, _, .tup h1 h2 => .tup (Evl.ex_t e h1) (dpa_mono e h2)
theorem dpa_mono {H H' : Hp} (e : Ex H H') : ∀ {vs : List V} {ds : List PyData}, DQs K H vs ds → DQs K H' vs ds
  | _, _, .nil => .nil
  | _, _, .cons h1 h2 => .cons (dp_mono e h1) (dpa_mono e h2)
end
def Pre (M M' : List Addr) : Prop := ∀ (k : Nat) a, M[k]? = some a → M'[k]? = some a
theorem Pre.refl (M : List Addr) : Pre M M := fun _ _ h => h
theorem Pre.trans {M M' M'' : List Addr} (a : Pre M M') (b : Pre M' M'') : Pre M M'' := fun k x h => b k x (a k x h)
mutual
theorem VR.mono {H H' : Hp} {M M' : List Addr} (e : Ex H H') (p : Pre M M') : ∀ {v : V} {w : W}, VR K H M v w → VR K H' M' v w
  | _, _, .d h => .d (dp_mono e h)
  | _, _, .m h => .m (p _ _ h)
  | _, _, .t h1 h2 => .t (Evl.ex_t e h1) (VRs.mono e p h2)
  | _, _, .f h1 h2 => .f (Evl.ex_l e h1) (VRs.mono e p h2)
  | _, _, .k v => .k v
theorem VRs.mono {H H' : Hp} {M M' : List Addr} (e : Ex H H') (p : Pre M M') : ∀ {vs : List V} {ws : List W}, VRs K H M vs ws → VRs K H' M' vs ws
  | _, _, .nil => .nil
  | _, _, .cons h1 h2 => .cons (VR.mono e p h1) (VRs.mono e p h2)
end
section lists
variable {H : Hp} {M : List Addr}
theorem VRs.length : ∀ {vs : List V} {ws : List W}, VRs K H M vs ws → vs.length = ws.length
  | _, _, .nil => rfl
  | _, _, .cons _ t => congrArg (· + 1) (VRs.length t)
theorem VRs.append : ∀ {vs us : List V} {ws zs : List W}, VRs K H M vs ws → VRs K H M us zs → VRs K H M (vs ++ us) (ws ++ zs)
  | _, _, _, _, .nil, s => s
  | _, _, _, _, .cons r t, s => .cons r (VRs.append t s)
theorem VRs.snoc {vs : List V} {ws : List W} {v : V} {w : W} (h : VRs K H M vs ws) (h2 : VR K H M v w) : VRs K H M (vs ++ [v]) (ws ++ [w]) := h.append (.cons h2 .nil)
theorem VRs.take : ∀ {vs : List V} {ws : List W} (n : Nat), VRs K H M vs ws → VRs K H M (vs.take n) (ws.take n)
  | _, _, 0, _ => by simpa using VRs.nil
  | _, _, _ + 1, .nil => .nil
  | _, _, n + 1, .cons r t => .cons r (VRs.take n t)
theorem VRs.drop : ∀ {vs : List V} {ws : List W} (n : Nat), VRs K H M vs ws → VRs K H M (vs.drop n) (ws.drop n)
  | _, _, 0, r => by simpa using r
  | _, _, _ + 1, .nil => .nil
  | _, _, n + 1, .cons _ t => VRs.drop n t
theorem VRs.dropLast {vs : List V} {ws : List W} (h : VRs K H M vs ws) : VRs K H M vs.dropLast ws.dropLast := by
  rw [List.dropLast_eq_take, List.dropLast_eq_take, h.length]
  exact h.take _
theorem VRs.get : ∀ {vs : List V} {ws : List W} {i : Nat} {v : V}, VRs K H M vs ws → vs[i]? = some v → ∃ w, ws[i]? = some w ∧ VR K H M v w
  | _, _, _, _, .nil, e => by simp at e
  | _, _, 0, _, .cons r _, e => by
    simp at e
    subst e
    exact ⟨_, rfl, r⟩
  | _, _, i + 1, v, .cons _ t, e => by
    obtain ⟨u, h1, h2⟩ := VRs.get (i := i) (v := v) t (by simpa using e)
    exact ⟨u, by simpa using h1, h2⟩
theorem VRs.getW : ∀ {vs : List V} {ws : List W} {i : Nat} {w : W}, VRs K H M vs ws → ws[i]? = some w → ∃ v, vs[i]? = some v ∧ VR K H M v w
  | _, _, _, _, .nil, e => by simp at e
  | _, _, 0, _, .cons r _, e => by
    simp at e
    subst e
    exact ⟨_, rfl, r⟩
  | _, _, i + 1, v, .cons _ t, e => by
    obtain ⟨u, h1, h2⟩ := VRs.getW (i := i) (w := v) t (by simpa using e)
    exact ⟨u, by simpa using h1, h2⟩
theorem VRs.set {v : V} {w : W} (r : VR K H M v w) : ∀ {vs : List V} {ws : List W} (i : Nat), VRs K H M vs ws → VRs K H M (vs.set i v) (ws.set i w)
  | _, _, _, .nil => .nil
  | _, _, 0, .cons _ t => .cons r t
  | _, _, i + 1, .cons q t => .cons q (VRs.set r i t)
theorem VRs.eraseIdx : ∀ {vs : List V} {ws : List W} (i : Nat), VRs K H M vs ws → VRs K H M (vs.eraseIdx i) (ws.eraseIdx i)
  | _, _, _, .nil => .nil
  | _, _, 0, .cons _ t => t
  | _, _, i + 1, .cons q t => .cons q (VRs.eraseIdx i t)
theorem VRs.reverse : ∀ {vs : List V} {ws : List W}, VRs K H M vs ws → VRs K H M vs.reverse ws.reverse
  | _, _, .nil => .nil
  | _, _, .cons r t => by
    rw [List.reverse_cons, List.reverse_cons]
    exact (VRs.reverse t).snoc r
theorem VRs.of_dp : ∀ {vs : List V} {ds : List PyData}, DQs K H vs ds → VRs K H M vs (ds.map W.d)
  | _, _, .nil => .nil
  | _, _, .cons h t => .cons (.d h) (VRs.of_dp t)
theorem VRs.dp : ∀ {vs : List V} {ds : List PyData}, VRs K H M vs (ds.map W.d) → DQs K H vs ds
  | _, [], h => by cases h; exact .nil
  | _, _ :: _, h => by
    cases h with
    | cons h t =>
      cases h with
      | d h => exact .cons h (VRs.dp t)
end lists

/-! ### tables of code objects: of the defs that make lambdas -/
def TbN (K : PySem.W.Frag) (P : Addr) (q : PySem.Str) : Prop := ∃ x ∈ lamNames, q = x.2 ∧ ∃ (f : Addr) (o : Obj) (fd : FuncData) (c : Addr), PySem.W.nsIn K PySem.mainGlobals x.1 = some (some (.ref f)) ∧ K.lookup f = some o ∧ o.data = .func fd ∧ fd.code = .ref c ∧ PySem.W.codeHdIn K c P = true
def TabK (K : PySem.W.Frag) (H : Hp) : Prop := ∀ P q, TbN K P q → LamX.TabS H P q
/-- neither a table nor a code object -/
def NoTb (o : HO) : Prop := (∀ ps, o ≠ .tbl ps) ∧ ∀ c q, o ≠ LamX.CodeO c q
theorem noTb_lst {xs : List V} : NoTb (.lst xs) := ⟨fun _ z => (by cases z), fun _ _ z => (by unfold LamX.CodeO at z; cases z)⟩
theorem noTb_dK {xs : List (L2.Key × V)} : NoTb (.dK xs) := ⟨fun _ z => (by cases z), fun _ _ z => (by unfold LamX.CodeO at z; cases z)⟩
theorem tabS_upd {H : Hp} {P p : Addr} {q : PySem.Str} {o o' : HO} (t : LamX.TabS H P q) (hp : H p = some o) (n : NoTb o) : LamX.TabS (upd H p o') P q := by
  obtain ⟨ps, e1, e2, e3⟩ := t
  refine ⟨ps, ?_, e2, fun pos cv hc => ?_⟩
  · rw [upd_ne fun z => ?_]
    · exact e1
    · subst z
      rw [e1] at hp
      exact n.1 ps (Option.some.inj hp).symm
  · obtain ⟨c, z1, z2⟩ := e3 pos cv hc
    refine ⟨c, z1, ?_⟩
    rw [upd_ne fun z => ?_]
    · exact z2
    · subst z
      rw [z2] at hp
      exact n.2 _ _ (Option.some.inj hp).symm
theorem TabK.upd {K : PySem.W.Frag} {H : Hp} {p : Addr} {o o' : HO} (t : TabK K H) (hp : H p = some o) (n : NoTb o) : TabK K (upd H p o') := fun P q h => tabS_upd (t P q h) hp n
theorem TabK.ex {K : PySem.W.Frag} {H H' : Hp} (t : TabK K H) (e : Ex H H') : TabK K H' := fun P q h => (t P q h).ext e
/-! ### what is hidden, the view -/
def noT : Option HO → Option HO
  | some (.tbl _) => none
  | o => o
theorem noT_some {x : Option HO} {o : HO} (h : noT x = some o) : x = some o ∧ ∀ ps, o ≠ .tbl ps := by
  cases x with
  | none => cases h
  | some u => cases u <;> first | (cases h; done) | (cases h; exact ⟨rfl, fun ps z => by cases z⟩)
theorem noT_of {o : HO} (n : ∀ ps, o ≠ .tbl ps) : noT (some o) = some o := by
  cases o <;> first | rfl | exact absurd rfl (n _)
def hid (A : Addr → Prop) (M : List Addr) (μ : Mu) (a : Addr) : Prop := A a ∨ ∃ (k : Nat) (c : C), M[k]? = some a ∧ μ[k]? = some (some c)
open Classical in
noncomputable def vw (A : Addr → Prop) (M : List Addr) (μ : Mu) (H : Hp) : Hp := fun a => if hid A M μ a then none else noT (H a)
section view
variable {A : Addr → Prop} {M M' : List Addr} {μ μ' : Mu} {H H' : Hp} {a : Addr} {o : HO}
theorem vw_nt (h : vw A M μ H a = some o) : ∀ ps, o ≠ .tbl ps := by
  unfold vw at h
  split at h
  · cases h
  · exact (noT_some h).2
theorem vw_some (h : vw A M μ H a = some o) : ¬ hid A M μ a ∧ H a = some o := by
  unfold vw at h
  split at h
  · cases h
  · exact ⟨‹_›, (noT_some h).1⟩
theorem vw_of (h : ¬ hid A M μ a) (e : H a = some o) (n : ∀ ps, o ≠ .tbl ps := by intro _ z; cases z) : vw A M μ H a = some o := by
  unfold vw
  rw [if_neg h, e, noT_of n]
theorem vw_le : Ex (vw A M μ H) H := fun _ _ h => (vw_some h).2
theorem vw_ex (e : Ex H H') : Ex (vw A M μ H) (vw A M μ H') := fun a o h => vw_of (vw_some h).1 (e a o (vw_some h).2) (vw_nt h)
/-- an error's object at p -/
def exk (p C d : Addr) : HO := .ext fun h => ∃ oe vs, h.get? p = some oe ∧ oe.cls = .ref C ∧ oe.dict = some d ∧ oe.data = .fields vs
def KRs {κ : Type} (K : PySem.W.Frag) (H : Hp) (M : List Addr) : List (κ × V) → List (κ × W) → Prop
  | [], [] => True
  | u :: us, w :: ws => u.1 = w.1 ∧ VR K H M u.2 w.2 ∧ KRs K H M us ws
  | _, _ => False
def CT (K : PySem.W.Frag) (H : Hp) (M : List Addr) (p : Addr) (o : HO) : C → Prop
  | .lst ws => ∃ vs, o = .lst vs ∧ VRs K H M vs ws
  | .xd d w => p = d ∧ ∃ v, o = .xd [(("value" : PySem.Str), v)] ∧ VR K H M v w
  | .er x d => ∃ C, PySem.W.nsIn K PySem.mainGlobals x = some (some (.ref C)) ∧ o = exk p C d
  | .dk kvs => ∃ us, o = .dK us ∧ KRs K H M us kvs
  | .fk od us kvs => o = .frz od (.dK us) ∧ KRs K H M us kvs
  | .ob x fs => ∃ C dx vs, PySem.W.nsIn K PySem.mainGlobals x = some (some (.ref C)) ∧ o = .ins C dx vs ∧ KRs K H M vs fs
theorem codeO_ne_exk {c p C d : Addr} {q : PySem.Str} : exk p C d ≠ LamX.CodeO c q := fun z => by
  unfold exk LamX.CodeO at z
  have z := HO.ext.inj z
  let o : Obj := { cls := .none, data := .fields #[.none, .str q 0] }
  let h : Heap := { objs := Array.replicate (c + 1) o }
  have g : h.get? c = some o := by
    show (match h.objs[c]? with
      | some ⟨_, _, .freed, _⟩ => none
      | x => x) = some o
    rw [show h.objs[c]? = some o by simp [h]]
  have hz := congrFun z h
  have : (∃ (oc : Obj) (vs : Array Value) (t : Tok), h.get? c = some oc ∧ oc.data = .fields vs ∧ vs[1]? = some (.str q t)) := ⟨o, _, 0, g, rfl, rfl⟩
  rw [← hz] at this
  obtain ⟨oe, vs, h1, h2, h3, h4⟩ := this
  have : oe.dict = none := by
    have h1' : (match h.objs[p]? with
      | some ⟨_, _, .freed, _⟩ => none
      | x => x) = some oe := h1
    by_cases hp : p < c + 1
    · rw [show h.objs[p]? = some o by simp [h, hp]] at h1'
      cases h1'
      rfl
    · have hs : h.objs.size ≤ p := by
        rw [show h.objs.size = c + 1 from Array.size_replicate]
        exact Nat.not_lt.mp hp
      rw [Array.getElem?_eq_none hs] at h1'
      cases h1'
  rw [this] at h3
  cases h3
theorem CT.noTb {K : PySem.W.Frag} {H : Hp} {M : List Addr} {p : Addr} {o : HO} {c : C} (h : CT K H M p o c) : NoTb o := by
  cases c with
  | lst ws =>
    obtain ⟨vs, rfl, _⟩ := h
    exact ⟨fun _ z => (by cases z), fun _ _ z => (by cases z)⟩
  | xd d w =>
    obtain ⟨_, v, rfl, _⟩ := h
    exact ⟨fun _ z => (by cases z), fun _ _ z => (by cases z)⟩
  | er x d =>
    obtain ⟨C, _, rfl⟩ := h
    exact ⟨fun _ z => (by cases z), fun _ _ => codeO_ne_exk⟩
  | dk kvs =>
    obtain ⟨us, rfl, _⟩ := h
    exact ⟨fun _ z => (by cases z), fun _ _ z => (by cases z)⟩
  | fk od us kvs =>
    obtain ⟨rfl, _⟩ := h
    exact ⟨fun _ z => (by cases z), fun _ _ z => (by cases z)⟩
  | ob x fs =>
    obtain ⟨C, dx, vs, _, rfl, _⟩ := h
    exact ⟨fun _ z => (by cases z), fun _ _ z => (by cases z)⟩
structure MOk (K : PySem.W.Frag) (A : Addr → Prop) (M : List Addr) (H : Hp) (μ : Mu) : Prop where
  len : M.length = μ.length
  nd : M.Nodup
  nA : ∀ a ∈ M, ¬ A a
  al : ∀ a ∈ M, H a ≠ none
  aA : ∀ a, A a → H a ≠ none
  tb : TabK K H
  aT : ∀ a o, (A a ∨ a ∈ M) → H a = some o → NoTb o
  ct : ∀ (k : Nat) a c, M[k]? = some a → μ[k]? = some (some c) → ∃ o, H a = some o ∧ CT K (vw A M μ H) M a o c
def GR (K : PySem.W.Frag) (H : Hp) (M : List Addr) (σ : L2.St) (Γ : G) : Prop := σ.length = Γ.length ∧ ∀ (i : Nat) w, Γ[i]? = some (some w) → ∃ v, σ[i]? = some (some v) ∧ VR K H M v w
structure Cn (K : PySem.W.Frag) (A : Addr → Prop) (M : List Addr) (σ : L2.St) (H : Hp) (Γ : G) (μ : Mu) : Prop where
  mo : MOk K A M H μ
  gr : GR K (vw A M μ H) M σ Γ
structure Eff (A : Addr → Prop) (M : List Addr) (μ : Mu) (H : Hp) (M' : List Addr) (μ' : Mu) (H' : Hp) : Prop where
  pre : Pre M M'
  own : ∀ a o, A a → H a = some o → H' a = some o
  ex : Ex (vw A M μ H) (vw A M' μ' H')
theorem Eff.refl : Eff A M μ H M μ H := ⟨Pre.refl _, fun _ _ _ h => h, Ex.refl _⟩
theorem Eff.trans {M'' : List Addr} {μ'' : Mu} {H'' : Hp} (a : Eff A M μ H M' μ' H') (b : Eff A M' μ' H' M'' μ'' H'') : Eff A M μ H M'' μ'' H'' :=
  ⟨a.pre.trans b.pre, fun x o h e => b.own x o h (a.own x o h e), a.ex.trans b.ex⟩
theorem Eff.of_ex (e : Ex H H') : Eff A M μ H M μ H' := ⟨Pre.refl _, fun a o _ h => e a o h, vw_ex e⟩
theorem KRs.mono {κ : Type} {H H' : Hp} {M M' : List Addr} (e : Ex H H') (p : Pre M M') : ∀ {us : List (κ × V)} {kvs : List (κ × W)}, KRs K H M us kvs → KRs K H' M' us kvs
  | [], [], _ => trivial
  | _ :: _, _ :: _, h => ⟨h.1, h.2.1.mono e p, KRs.mono e p h.2.2⟩
  | [], _ :: _, h => h.elim
  | _ :: _, [], h => h.elim
theorem CT.mono {c : C} {x : Addr} (e : Ex H H') (p : Pre M M') (h : CT K H M x o c) : CT K H' M' x o c := by
  cases c with
  | lst ws =>
    obtain ⟨vs, h1, h2⟩ := h
    exact ⟨vs, h1, h2.mono e p⟩
  | xd d w =>
    obtain ⟨h0, v, h1, h2⟩ := h
    exact ⟨h0, v, h1, h2.mono e p⟩
  | er x d => exact h
  | dk kvs =>
    obtain ⟨us, h1, h2⟩ := h
    exact ⟨us, h1, h2.mono e p⟩
  | fk od us kvs => exact ⟨h.1, h.2.mono e p⟩
  | ob y fs =>
    obtain ⟨C, dx, vs, h1, h3, h4⟩ := h
    exact ⟨C, dx, vs, h1, h3, h4.mono e p⟩
theorem MOk.ex (h : MOk K A M H μ) (e : Ex H H') : MOk K A M H' μ := by
  have nn : ∀ a, H a ≠ none → H' a ≠ none := fun a hn => by
    cases q : H a with
    | none => exact absurd q hn
    | some o => rw [e a o q]; intro z; cases z
  exact ⟨h.len, h.nd, h.nA, fun a m => nn a (h.al a m), fun a m => nn a (h.aA a m), h.tb.ex e, fun a o m z => by
    cases q : H a with
    | none => exact absurd q (m.elim (h.aA a) (h.al a))
    | some u =>
      rw [e a u q] at z
      cases z
      exact h.aT a o m q, fun k a c h1 h2 => by
    obtain ⟨o, q1, q2⟩ := h.ct k a c h1 h2
    exact ⟨o, e a o q1, q2.mono (vw_ex e) (Pre.refl _)⟩⟩
theorem GR.mono {σ : L2.St} {Γ : G} (h : GR K H M σ Γ) (e : Ex H H') (p : Pre M M') : GR K H' M' σ Γ :=
  ⟨h.1, fun i w hw => let ⟨v, h1, h2⟩ := h.2 i w hw; ⟨v, h1, h2.mono e p⟩⟩
theorem GR.set {σ : L2.St} {Γ : G} {i : Nat} {v : V} {w : W} (h : GR K H M σ Γ) (r : VR K H M v w) : GR K H M (σ.set i (some v)) (Γ.set i (some w)) := by
  refine ⟨by rw [List.length_set, List.length_set]; exact h.1, fun j u hu => ?_⟩
  by_cases hj : i = j
  · subst hj
    rw [List.getElem?_set] at hu
    rw [if_pos rfl] at hu
    split at hu
    · have : w = u := by simpa using hu
      subst this
      refine ⟨v, ?_, r⟩
      rw [List.getElem?_set, if_pos rfl, if_pos (by rw [h.1]; assumption)]
    · cases hu
  · rw [List.getElem?_set, if_neg hj] at hu
    obtain ⟨z, h1, h2⟩ := h.2 j u hu
    exact ⟨z, by rw [List.getElem?_set, if_neg hj]; exact h1, h2⟩
theorem GR.drop {σ : L2.St} {Γ : G} {i : Nat} (h : GR K H M σ Γ) : GR K H M (σ.set i none) (Γ.set i none) := by
  refine ⟨by rw [List.length_set, List.length_set]; exact h.1, fun j u hu => ?_⟩
  by_cases hj : i = j
  · subst hj
    rw [List.getElem?_set, if_pos rfl] at hu
    split at hu
    · cases hu
    · cases hu
  · rw [List.getElem?_set, if_neg hj] at hu
    obtain ⟨z, h1, h2⟩ := h.2 j u hu
    exact ⟨z, by rw [List.getElem?_set, if_neg hj]; exact h1, h2⟩
theorem Cn.ex {σ : L2.St} {Γ : G} (h : Cn K A M σ H Γ μ) (e : Ex H H') : Cn K A M σ H' Γ μ := ⟨h.mo.ex e, h.gr.mono (vw_ex e) (Pre.refl _)⟩
/-- the slots behind a change of the cells -/
theorem Cn.eff {σ : L2.St} {Γ : G} (h : Cn K A M σ H Γ μ) (e : Eff A M μ H M' μ' H') (mo : MOk K A M' H' μ') : Cn K A M' σ H' Γ μ' := ⟨mo, h.gr.mono e.ex e.pre⟩
theorem GR.wipe {σ : L2.St} {Γ : G} (h : GR K H M σ Γ) : ∀ vs : List Nat, GR K H M (wipe σ vs) (vs.foldr (fun v g => g.set v none) Γ)
  | [] => h
  | v :: vs => (h.wipe vs).drop
/-! ### changing a cell, adding one, taking one away -/
theorem MOk.ne_hid (h : MOk K A M H μ) {p : Addr} (hp : H p = none) : ¬ hid A M μ p := fun z => by
  rcases z with z | ⟨k, c, h1, _⟩
  · exact h.aA p z hp
  · exact h.al p (List.mem_of_getElem? h1) hp
theorem hid_set {k : Nat} {c c' : C} (hk : μ[k]? = some (some c)) : hid A M (μ.set k (some c')) a ↔ hid A M μ a := by
  constructor
  · rintro (z | ⟨j, d, h1, h2⟩)
    · exact .inl z
    · by_cases hj : k = j
      · subst hj
        exact .inr ⟨k, c, h1, hk⟩
      · rw [List.getElem?_set, if_neg hj] at h2
        exact .inr ⟨j, d, h1, h2⟩
  · rintro (z | ⟨j, d, h1, h2⟩)
    · exact .inl z
    · by_cases hj : k = j
      · subst hj
        refine .inr ⟨k, c', h1, ?_⟩
        rw [List.getElem?_set, if_pos rfl, if_pos ((List.getElem?_eq_some_iff.mp h2).1)]
      · exact .inr ⟨j, d, h1, by rw [List.getElem?_set, if_neg hj]; exact h2⟩
theorem vw_set {k : Nat} {c c' : C} {p : Addr} (hp : M[k]? = some p) (hk : μ[k]? = some (some c)) : vw A M (μ.set k (some c')) (upd H p o) = vw A M μ H := by
  funext b
  unfold vw
  by_cases hb : hid A M μ b
  · rw [if_pos hb, if_pos ((hid_set hk).mpr hb)]
  · rw [if_neg hb, if_neg fun z => hb ((hid_set hk).mp z)]
    refine congrArg noT (upd_ne fun z => hb ?_)
    subst z
    exact .inr ⟨k, c, hp, hk⟩
theorem MOk.write {k : Nat} {c c' : C} {p : Addr} (h : MOk K A M H μ) (hp : M[k]? = some p) (hk : μ[k]? = some (some c)) (hc : CT K (vw A M μ H) M p o c') : MOk K A M (upd H p o) (μ.set k (some c')) := by
  have ev := vw_set (A := A) (H := H) (o := o) (c' := c') hp hk
  have nn : ∀ a, H a ≠ none → upd H p o a ≠ none := fun a hn => by
    by_cases e : a = p
    · subst e; rw [upd_same]; intro z; cases z
    · rw [upd_ne e]; exact hn
  obtain ⟨o0, z1, z2⟩ := h.ct k p c hp hk
  refine ⟨by rw [List.length_set]; exact h.len, h.nd, h.nA, fun a m => nn a (h.al a m), fun a m => nn a (h.aA a m), h.tb.upd z1 z2.noTb, fun a u m z => ?_, fun j b d h1 h2 => ?_⟩
  · by_cases w : a = p
    · subst w
      rw [upd_same] at z
      cases z
      exact hc.noTb
    · rw [upd_ne w] at z
      exact h.aT a u m z
  rw [ev]
  by_cases hj : k = j
  · subst hj
    rw [hp] at h1
    cases h1
    rw [List.getElem?_set, if_pos rfl] at h2
    split at h2
    · have : c' = d := by simpa using h2
      subst this
      exact ⟨o, upd_same, hc⟩
    · cases h2
  · rw [List.getElem?_set, if_neg hj] at h2
    obtain ⟨u, q1, q2⟩ := h.ct j b d h1 h2
    refine ⟨u, ?_, q2⟩
    rw [upd_ne ?_]
    · exact q1
    · rintro rfl
      have l1 := (List.getElem?_eq_some_iff.mp h1)
      have l2 := (List.getElem?_eq_some_iff.mp hp)
      exact hj ((List.getElem_inj h.nd).mp (l2.2.trans l1.2.symm))
theorem Eff.write {k : Nat} {c c' : C} {p : Addr} (h : MOk K A M H μ) (hp : M[k]? = some p) (hk : μ[k]? = some (some c)) : Eff A M μ H M (μ.set k (some c')) (upd H p o) := by
  refine ⟨Pre.refl _, fun a u ha e => ?_, by rw [vw_set hp hk]; exact Ex.refl _⟩
  rw [upd_ne ?_]
  · exact e
  · rintro rfl
    exact h.nA a (List.mem_of_getElem? hp) ha
theorem pre_snoc {M : List Addr} {p : Addr} : Pre M (M ++ [p]) := fun k a h => by
  rw [List.getElem?_append_left (List.getElem?_eq_some_iff.mp h).1]
  exact h
theorem hid_new {p : Addr} {c : C} (h : M.length = μ.length) : hid A (M ++ [p]) (μ ++ [some c]) a ↔ hid A M μ a ∨ a = p := by
  constructor
  · rintro (z | ⟨j, d, h1, h2⟩)
    · exact .inl (.inl z)
    · by_cases hj : j < M.length
      · rw [List.getElem?_append_left hj] at h1
        rw [List.getElem?_append_left (by omega)] at h2
        exact .inl (.inr ⟨j, d, h1, h2⟩)
      · have hj2 : j = M.length := by
          have := (List.getElem?_eq_some_iff.mp h1).1
          simp at this
          omega
        subst hj2
        rw [List.getElem?_append_right (Nat.le_refl _)] at h1
        simp at h1
        exact .inr h1.symm
  · rintro ((z | ⟨j, d, h1, h2⟩) | z)
    · exact .inl z
    · refine .inr ⟨j, d, ?_, ?_⟩
      · rw [List.getElem?_append_left (List.getElem?_eq_some_iff.mp h1).1]; exact h1
      · rw [List.getElem?_append_left (List.getElem?_eq_some_iff.mp h2).1]; exact h2
    · subst z
      refine .inr ⟨M.length, c, ?_, ?_⟩
      · rw [List.getElem?_append_right (Nat.le_refl _)]; simp
      · rw [h, List.getElem?_append_right (Nat.le_refl _)]; simp
theorem vw_new {p : Addr} {c : C} (h : M.length = μ.length) (hp : H p = none) : vw A (M ++ [p]) (μ ++ [some c]) (upd H p o) = vw A M μ H := by
  funext b
  unfold vw
  by_cases hb : hid A M μ b
  · rw [if_pos hb, if_pos ((hid_new h).mpr (.inl hb))]
  · rw [if_neg hb]
    by_cases e : b = p
    · subst e
      rw [if_pos ((hid_new h).mpr (.inr rfl)), hp]
      rfl
    · rw [if_neg fun z => (((hid_new h).mp z).elim hb e), upd_ne e]
theorem MOk.new {c : C} {p : Addr} (h : MOk K A M H μ) (hp : H p = none) (hc : CT K (vw A M μ H) M p o c) : MOk K A (M ++ [p]) (upd H p o) (μ ++ [some c]) := by
  have ev := vw_new (A := A) (o := o) (c := c) h.len hp
  have nn : ∀ a, H a ≠ none → upd H p o a ≠ none := fun a hn => by
    rw [upd_ne fun z => hn (by rw [z]; exact hp)]
    exact hn
  have np : p ∉ M := fun m => h.al p m hp
  refine ⟨by simp [h.len], ?_, fun a m => ?_, fun a m => ?_, fun a m => nn a (h.aA a m), h.tb.ex (Ex.new hp), fun a u m z => ?_, fun j b d h1 h2 => ?_⟩
  · rw [List.nodup_append]
    refine ⟨h.nd, by simp, fun a m b mb z => ?_⟩
    have : b = p := by simpa using mb
    subst this
    subst z
    exact np m
  · rcases List.mem_append.mp m with m | m
    · exact h.nA a m
    · have : a = p := by simpa using m
      subst this
      exact fun z => h.aA a z hp
  · rcases List.mem_append.mp m with m | m
    · exact nn a (h.al a m)
    · have : a = p := by simpa using m
      subst this
      rw [upd_same]
      intro z
      cases z
  · by_cases w : a = p
    · subst w
      rw [upd_same] at z
      cases z
      exact hc.noTb
    · rw [upd_ne w] at z
      refine h.aT a u (m.imp id fun m => ?_) z
      rcases List.mem_append.mp m with m | m
      · exact m
      · exact absurd (by simpa using m) w
  · rw [ev]
    by_cases hj : j < M.length
    · rw [List.getElem?_append_left hj] at h1
      rw [List.getElem?_append_left (by have := h.len; omega)] at h2
      obtain ⟨u, q1, q2⟩ := h.ct j b d h1 h2
      refine ⟨u, ?_, q2.mono (Ex.refl _) pre_snoc⟩
      rw [upd_ne fun z => np (by rw [← z]; exact List.mem_of_getElem? h1)]
      exact q1
    · have hj2 : j = M.length := by
        have := (List.getElem?_eq_some_iff.mp h1).1
        simp at this
        omega
      subst hj2
      rw [List.getElem?_append_right (Nat.le_refl _)] at h1
      rw [h.len, List.getElem?_append_right (Nat.le_refl _)] at h2
      simp at h1 h2
      subst h1 h2
      exact ⟨o, upd_same, hc.mono (Ex.refl _) pre_snoc⟩
theorem Eff.new {c : C} {p : Addr} (h : MOk K A M H μ) (hp : H p = none) : Eff A M μ H (M ++ [p]) (μ ++ [some c]) (upd H p o) :=
  ⟨pre_snoc, fun a u ha e => by rw [upd_ne (ne_of_none e hp)]; exact e, by rw [vw_new h.len hp]; exact Ex.refl _⟩
end view
end Pd

namespace Pd
open PySem L2
open Evl (Ex)
section judgements
variable (K : PySem.W.Frag)
def AX (te : TE) (Γ : G) (μ : Mu) (R : W → Mu → Prop) : Prop := ∀ (A : Addr → Prop) (M : List Addr) (σ : L2.St) (H : Hp), Cn K A M σ H Γ μ → ∀ Q : VK,
  (∀ M' H' v w μ', MOk K A M' H' μ' → Eff A M μ H M' μ' H' → VR K (vw A M' μ' H') M' v w → R w μ' → Q v H') → te σ H Q
def AXA (ta : TA) (Γ : G) (μ : Mu) (R : List W → Mu → Prop) : Prop := ∀ (A : Addr → Prop) (M : List Addr) (σ : L2.St) (H : Hp), Cn K A M σ H Γ μ → ∀ Q : List V → Hp → Prop,
  (∀ M' H' vs ws μ', MOk K A M' H' μ' → Eff A M μ H M' μ' H' → VRs K (vw A M' μ' H') M' vs ws → R ws μ' → Q vs H') → ta σ H Q
def AXT (tt : TT) (Γ : G) (μ : Mu) (R : Bool → Mu → Prop) : Prop := ∀ (A : Addr → Prop) (M : List Addr) (σ : L2.St) (H : Hp), Cn K A M σ H Γ μ → ∀ Q : Bool → Hp → Prop,
  (∀ M' H' b μ', MOk K A M' H' μ' → Eff A M μ H M' μ' H' → R b μ' → Q b H') → tt σ H Q
def AXO (to : TO) (Γ : G) (μ : Mu) (R : Option Int → Mu → Prop) : Prop := ∀ (A : Addr → Prop) (M : List Addr) (σ : L2.St) (H : Hp), Cn K A M σ H Γ μ → ∀ Q : Option Int → Hp → Prop,
  (∀ M' H' b μ', MOk K A M' H' μ' → Eff A M μ H M' μ' H' → R b μ' → Q b H') → to σ H Q
def AO (r : R2) (x y : W) (μ : Mu) (R : W → Mu → Prop) : Prop := ∀ (A : Addr → Prop) (M : List Addr) (H : Hp) (v u : V), MOk K A M H μ → VR K (vw A M μ H) M v x → VR K (vw A M μ H) M u y → ∀ Q : VK,
  (∀ M' H' z w μ', MOk K A M' H' μ' → Eff A M μ H M' μ' H' → VR K (vw A M' μ' H') M' z w → R w μ' → Q z H') → r v u H Q
def AU (r : V → Hp → VK → Prop) (x : W) (μ : Mu) (R : W → Mu → Prop) : Prop := ∀ (A : Addr → Prop) (M : List Addr) (H : Hp) (v : V), MOk K A M H μ → VR K (vw A M μ H) M v x → ∀ Q : VK,
  (∀ M' H' z w μ', MOk K A M' H' μ' → Eff A M μ H M' μ' H' → VR K (vw A M' μ' H') M' z w → R w μ' → Q z H') → r v H Q
def AC (r : List V → Hp → VK → Prop) (ws : List W) (μ : Mu) (R : W → Mu → Prop) : Prop := ∀ (A : Addr → Prop) (M : List Addr) (H : Hp) (vs : List V), MOk K A M H μ → VRs K (vw A M μ H) M vs ws → ∀ Q : VK,
  (∀ M' H' z w μ', MOk K A M' H' μ' → Eff A M μ H M' μ' H' → VR K (vw A M' μ' H') M' z w → R w μ' → Q z H') → r vs H Q
def AM (r : V → List V → Hp → VK → Prop) (x : W) (ws : List W) (μ : Mu) (R : W → Mu → Prop) : Prop := ∀ (A : Addr → Prop) (M : List Addr) (H : Hp) (v : V) (vs : List V), MOk K A M H μ → VR K (vw A M μ H) M v x → VRs K (vw A M μ H) M vs ws → ∀ Q : VK,
  (∀ M' H' z w μ', MOk K A M' H' μ' → Eff A M μ H M' μ' H' → VR K (vw A M' μ' H') M' z w → R w μ' → Q z H') → r v vs H Q
def AG (g : TG) (w : W) (Γ : G) (μ : Mu) (R : G → Mu → Prop) : Prop := ∀ (A : Addr → Prop) (M : List Addr) (σ : L2.St) (H : Hp) (v : V), Cn K A M σ H Γ μ → VR K (vw A M μ H) M v w → ∀ Q : L2.St → Hp → Prop,
  (∀ M' σ' H' Γ' μ', Cn K A M' σ' H' Γ' μ' → Eff A M μ H M' μ' H' → R Γ' μ' → Q σ' H') → g v σ H Q
def AGs (g : TGs) (ws : List W) (Γ : G) (μ : Mu) (R : G → Mu → Prop) : Prop := ∀ (A : Addr → Prop) (M : List Addr) (σ : L2.St) (H : Hp) (vs : List V), Cn K A M σ H Γ μ → VRs K (vw A M μ H) M vs ws → ∀ Q : L2.St → Hp → Prop,
  (∀ M' σ' H' Γ' μ', Cn K A M' σ' H' Γ' μ' → Eff A M μ H M' μ' H' → R Γ' μ' → Q σ' H') → g vs σ H Q
structure AEn where
  nx : G → Mu → Prop
  rt : W → Mu → Prop
  bk : G → Mu → Prop := fun _ _ => False
  ct : G → Mu → Prop := fun _ _ => False
  xw : L2.WX := fun _ _ _ _ => False
  xc : PySem.Str → W → G → Mu → Prop := fun _ _ _ _ => False
/-- the class of errors that the text calls x -/
def clA (x : PySem.Str) (a : Addr) : Prop := PySem.W.nsIn K PySem.mainGlobals x = some (some (.ref a))
/-- the wish about errors, by the errors' names and values; the error's dict stands as the last cell -/
def XW (A : Addr → Prop) (M : List Addr) (μ : Mu) (H : Hp) (xw : L2.WX) (xc : PySem.Str → W → G → Mu → Prop) : Prop := ∀ M' σ' H' Γ' x a d w μ', clA K x a → Cn K A (M' ++ [d]) σ' H' Γ' (μ' ++ [some (.xd d w)]) →
  Eff A M μ H (M' ++ [d]) (μ' ++ [some (.xd d w)]) H' → xc x w Γ' μ' → xw (.ref a) (some d) σ' H'
structure Hd (A : Addr → Prop) (M : List Addr) (μ : Mu) (H : Hp) (D : AEn) (E : Ends) : Prop where
  nx : ∀ M' σ' H' Γ' μ', Cn K A M' σ' H' Γ' μ' → Eff A M μ H M' μ' H' → D.nx Γ' μ' → E.nx σ' H'
  rt : ∀ M' H' v w μ', MOk K A M' H' μ' → Eff A M μ H M' μ' H' → VR K (vw A M' μ' H') M' v w → D.rt w μ' → E.rt v H'
  bk : ∀ M' σ' H' Γ' μ', Cn K A M' σ' H' Γ' μ' → Eff A M μ H M' μ' H' → D.bk Γ' μ' → E.bk σ' H'
  ct : ∀ M' σ' H' Γ' μ', Cn K A M' σ' H' Γ' μ' → Eff A M μ H M' μ' H' → D.ct Γ' μ' → E.ct σ' H'
  xx : XW K A M μ H D.xw D.xc
def AS (t : TS) (D : AEn) (Γ : G) (μ : Mu) : Prop := ∀ (A : Addr → Prop) (M : List Addr) (σ : L2.St) (H : Hp), Cn K A M σ H Γ μ → ∀ E : Ends, Hd K A M μ H D E → t E σ H
end judgements
section
variable {K : PySem.W.Frag} {A : Addr → Prop} {M M' : List Addr} {μ μ' : Mu} {H H' : Hp} {D : AEn} {E : Ends} {Γ : G}
theorem XW.after {xw : L2.WX} {xc : PySem.Str → W → G → Mu → Prop} (h : XW K A M μ H xw xc) (e : Eff A M μ H M' μ' H') : XW K A M' μ' H' xw xc := fun _ _ _ _ _ _ _ _ _ h1 h2 h3 h4 => h _ _ _ _ _ _ _ _ _ h1 h2 (e.trans h3) h4
theorem Hd.after (h : Hd K A M μ H D E) (e : Eff A M μ H M' μ' H') : Hd K A M' μ' H' D E :=
  ⟨fun _ _ _ _ _ c e' => h.nx _ _ _ _ _ c (e.trans e'), fun _ _ _ _ _ m e' => h.rt _ _ _ _ _ m (e.trans e'), fun _ _ _ _ _ c e' => h.bk _ _ _ _ _ c (e.trans e'), fun _ _ _ _ _ c e' => h.ct _ _ _ _ _ c (e.trans e'), h.xx.after e⟩

/-! ### data as a whole: what a value comes to with the cells as they stand -/
mutual
inductive Rs (μ : Mu) : W → PyData → Prop
  | d (x : PyData) : Rs μ (.d x) x
  | m {k : Nat} {ws : List W} {xs : List PyData} : μ[k]? = some (some (.lst ws)) → Rss μ ws xs → Rs μ (.m k) (.list xs)
  | t {ws : List W} {xs : List PyData} : Rss μ ws xs → Rs μ (.t ws) (.tuple xs)
  | f {ws : List W} {xs : List PyData} : Rss μ ws xs → Rs μ (.f ws) (.list xs)
inductive Rss (μ : Mu) : List W → List PyData → Prop
  | nil : Rss μ [] []
  | cons {w : W} {x : PyData} {ws : List W} {xs : List PyData} : Rs μ w x → Rss μ ws xs → Rss μ (w :: ws) (x :: xs)
end
theorem Rss.ds : ∀ xs : List PyData, Rss μ (xs.map W.d) xs
  | [] => .nil
  | x :: xs => .cons (.d x) (Rss.ds xs)
mutual
theorem Rs.dp (mo : MOk K A M H μ) : ∀ {w : W} {x : PyData} {v : V}, Rs μ w x → VR K (vw A M μ H) M v w → Dp K H v x
  | _, _, _, .d x, h => by
    cases h with
    | d h => exact (dp_mono vw_le h).dp
  | _, _, _, .m h1 h2, h => by
    cases h with
    | m hm =>
      obtain ⟨o, e, c⟩ := mo.ct _ _ _ hm h1
      obtain ⟨vs, rfl, r⟩ := c
      exact .lst (SqL.of e) (Rss.dp mo h2 r)
  | _, _, _, .t h1, h => by
    cases h with
    | t hs r => exact .tup (Evl.ex_t vw_le hs) (Rss.dp mo h1 r)
  | _, _, _, .f h1, h => by
    cases h with
    | f hs r => exact .lst (Evl.ex_l vw_le hs) (Rss.dp mo h1 r)
theorem Rss.dp (mo : MOk K A M H μ) : ∀ {ws : List W} {xs : List PyData} {vs : List V}, Rss μ ws xs → VRs K (vw A M μ H) M vs ws → DpAll K H vs xs
  | _, _, _, .nil, h => by cases h; exact .nil
  | _, _, _, .cons h1 h2, h => by
    cases h with
    | cons r1 r2 => exact .cons (Rs.dp mo h1 r1) (Rss.dp mo h2 r2)
end
/-- a list's items; a tuple's -/
inductive LW (μ : Mu) : W → List W → Prop
  | d (xs : List PyData) : LW μ (.d (.list xs)) (xs.map W.d)
  | m {k : Nat} {ws : List W} : μ[k]? = some (some (.lst ws)) → LW μ (.m k) ws
  | f (ws : List W) : LW μ (.f ws) ws
/-- .. of a list that was made here -/
inductive LN (μ : Mu) : W → List W → Prop
  | d (xs : List PyData) : LN μ (.d (.list xs)) (xs.map W.d)
  | m {k : Nat} {ws : List W} : μ[k]? = some (some (.lst ws)) → LN μ (.m k) ws
inductive TW : W → List W → Prop
  | d (xs : List PyData) : TW (.d (.tuple xs)) (xs.map W.d)
  | t (ws : List W) : TW (.t ws) ws
theorem LW.get (mo : MOk K A M H μ) {v : V} {w : W} {ws : List W} (r : VR K (vw A M μ H) M v w) (h : LW μ w ws) : ∃ a vs, v = .ref a ∧ SqL K H a vs ∧ VRs K (vw A M μ H) M vs ws := by
  cases h with
  | d xs =>
    cases r with
    | d r =>
      cases r with
      | lst h1 h2 => exact ⟨_, _, rfl, SqL.of (vw_le _ _ h1), VRs.of_dp h2⟩
  | m hk =>
    cases r with
    | m hm =>
      obtain ⟨o, e, vs, rfl, r⟩ := mo.ct _ _ _ hm hk
      exact ⟨_, vs, rfl, SqL.of e, r⟩
  | f ws =>
    cases r with
    | f h1 h2 => exact ⟨_, _, rfl, Evl.ex_l vw_le h1, h2⟩
theorem LN.get (mo : MOk K A M H μ) {v : V} {w : W} {ws : List W} (r : VR K (vw A M μ H) M v w) (h : LN μ w ws) : ∃ a vs, v = .ref a ∧ H a = some (.lst vs) ∧ VRs K (vw A M μ H) M vs ws := by
  cases h with
  | d xs =>
    cases r with
    | d r =>
      cases r with
      | lst h1 h2 => exact ⟨_, _, rfl, vw_le _ _ h1, VRs.of_dp h2⟩
  | m hk =>
    cases r with
    | m hm =>
      obtain ⟨o, e, vs, rfl, r⟩ := mo.ct _ _ _ hm hk
      exact ⟨_, vs, rfl, e, r⟩
theorem TW.get {v : V} {w : W} {ws : List W} (r : VR K (vw A M μ H) M v w) (h : TW w ws) : ∃ a vs, v = .ref a ∧ SqT K (vw A M μ H) a vs ∧ VRs K (vw A M μ H) M vs ws := by
  cases h with
  | d xs =>
    cases r with
    | d r =>
      cases r with
      | tup h1 h2 => exact ⟨_, _, rfl, h1, VRs.of_dp h2⟩
  | t ws =>
    cases r with
    | t h1 h2 => exact ⟨_, _, rfl, h1, h2⟩
theorem map_d_inj : ∀ {xs ys : List PyData}, xs.map W.d = ys.map W.d → xs = ys
  | [], [], _ => rfl
  | [], _ :: _, h => by cases h
  | _ :: _, [], h => by cases h
  | x :: xs, y :: ys, h => by
    rw [List.map_cons, List.map_cons] at h
    injection h with h1 h2
    injection h1 with h1
    rw [h1, map_d_inj h2]
/-- scalars -/
theorem vr_int {v : V} {i : Int} {Hv : Hp} (h : VR K Hv M v (.d (.int i))) : v = .int i := by
  cases h with
  | d h => cases h; rfl
theorem vr_bool {v : V} {b : Bool} {Hv : Hp} (h : VR K Hv M v (.d (.bool b))) : v = .bl b := by
  cases h with
  | d h => cases h; rfl
theorem vr_str {v : V} {x : PySem.Str} {Hv : Hp} (h : VR K Hv M v (.d (.str x))) : v = .str x := by
  cases h with
  | d h => cases h; rfl
theorem vr_none {v : V} {Hv : Hp} (h : VR K Hv M v (.d .none)) : v = .non := by
  cases h with
  | d h => cases h; rfl
theorem vrs_int : ∀ {vs : List V} {ns : List Int} {Hv : Hp}, VRs K Hv M vs (ns.map fun n => W.d (.int n)) → vs = ns.map V.int
  | _, [], _, h => by cases h; rfl
  | _, n :: ns, _, h => by
    cases h with
    | cons h t => rw [vr_int h, vrs_int t]; rfl
theorem vrs_bool : ∀ {vs : List V} {ns : List Bool} {Hv : Hp}, VRs K Hv M vs (ns.map fun n => W.d (.bool n)) → vs = ns.map V.bl
  | _, [], _, h => by cases h; rfl
  | _, n :: ns, _, h => by
    cases h with
    | cons h t => rw [vr_bool h, vrs_bool t]; rfl

/-! ### a new list, a new tuple: plain data, or a new cell -/
def NL (ws : List W) (μ : Mu) (R : W → Mu → Prop) : Prop := (∃ xs, ws = xs.map W.d ∧ R (.d (.list xs)) μ) ∨ R (.m μ.length) (μ ++ [some (.lst ws)])
def NT (ws : List W) (μ : Mu) (R : W → Mu → Prop) : Prop := (∃ xs, ws = xs.map W.d ∧ R (.d (.tuple xs)) μ) ∨ R (.t ws) μ
theorem NL.d {xs : List PyData} {ws : List W} {R : W → Mu → Prop} (h : R (.d (.list xs)) μ) (e : ws = xs.map W.d := by first | rfl | simp) : NL ws μ R := .inl ⟨xs, e, h⟩
theorem NL.m {ws : List W} {R : W → Mu → Prop} (h : R (.m μ.length) (μ ++ [some (.lst ws)])) : NL ws μ R := .inr h
theorem NT.d {xs : List PyData} {ws : List W} {R : W → Mu → Prop} (h : R (.d (.tuple xs)) μ) (e : ws = xs.map W.d := by first | rfl | simp) : NT ws μ R := .inl ⟨xs, e, h⟩
theorem NT.t {ws : List W} {R : W → Mu → Prop} (h : R (.t ws) μ) : NT ws μ R := .inr h
theorem NL.use {ws : List W} {R : W → Mu → Prop} {vs : List V} {p : Addr} (h : NL ws μ R) (mo : MOk K A M H μ) (r : VRs K (vw A M μ H) M vs ws) (hp : H p = none) :
    ∃ M' μ' w, MOk K A M' (upd H p (.lst vs)) μ' ∧ Eff A M μ H M' μ' (upd H p (.lst vs)) ∧ VR K (vw A M' μ' (upd H p (.lst vs))) M' (.ref p) w ∧ R w μ' := by
  have e : Ex H (upd H p (.lst vs)) := Ex.new hp
  rcases h with ⟨xs, rfl, h⟩ | h
  · exact ⟨M, μ, _, mo.ex e, Eff.of_ex e,   .d (.lst (vw_of (mo.ne_hid hp) upd_same) (dpa_mono (vw_ex e) r.dp)), h⟩
  · refine ⟨M ++ [p], _, _, mo.new (c := .lst ws) hp ⟨vs, rfl, r⟩, Eff.new mo hp, .m ?_, h⟩
    rw [← mo.len, List.getElem?_append_right (Nat.le_refl _)]
    simp
theorem NT.use {ws : List W} {R : W → Mu → Prop} {vs : List V} {p : Addr} (h : NT ws μ R) (mo : MOk K A M H μ) (r : VRs K (vw A M μ H) M vs ws) (hp : H p = none) :
    ∃ w, MOk K A M (upd H p (.tup vs)) μ ∧ Eff A M μ H M μ (upd H p (.tup vs)) ∧ VR K (vw A M μ (upd H p (.tup vs))) M (.ref p) w ∧ R w μ := by
  have e : Ex H (upd H p (.tup vs)) := Ex.new hp
  have hs : SqT K (vw A M μ (upd H p (.tup vs))) p vs := SqT.of (vw_of (mo.ne_hid hp) upd_same)
  rcases h with ⟨xs, rfl, h⟩ | h
  · exact ⟨_, mo.ex e, Eff.of_ex e, .d (.tup hs (dpa_mono (vw_ex e) r.dp)), h⟩
  · exact ⟨_, mo.ex e, Eff.of_ex e, .t hs (r.mono (vw_ex e) (Pre.refl _)), h⟩
end

/-! ### expressions -/
section
variable {K : PySem.W.Frag} {Γ : G} {μ : Mu} {R : W → Mu → Prop} {ta tb te : TE} {t u : TT} {r : R2}
theorem ax_var {i : Nat} {w : W} (h : Γ[i]? = some (some w)) (k : R w μ) : AX K (tVar i) Γ μ R := fun A M σ H c Q q =>
  let ⟨v, e, r⟩ := c.gr.2 i w h
  ⟨v, e, q M H v w μ c.mo Eff.refl r k⟩
theorem ax_int {i : Int} (k : R (.d (.int i)) μ) : AX K (tC (.int i)) Γ μ R := fun A M σ H c Q q => q M H _ _ μ c.mo Eff.refl (.d (.int i)) k
theorem ax_bl {b : Bool} (k : R (.d (.bool b)) μ) : AX K (tC (.bl b)) Γ μ R := fun A M σ H c Q q => q M H _ _ μ c.mo Eff.refl (.d (.bl b)) k
theorem ax_str {x : PySem.Str} (k : R (.d (.str x)) μ) : AX K (tC (.str x)) Γ μ R := fun A M σ H c Q q => q M H _ _ μ c.mo Eff.refl (.d (.str x)) k
theorem ax_cV {v : V} (k : R (.k v) μ) : AX K (tC v) Γ μ R := fun A M σ H c Q q => q M H _ _ μ c.mo Eff.refl (.k v) k
theorem ax_non (k : R (.d .none) μ) : AX K (tC .non) Γ μ R := fun A M σ H c Q q => q M H _ _ μ c.mo Eff.refl (.d .non) k
theorem ax_op (h : AX K ta Γ μ fun x μ1 => AX K tb Γ μ1 fun y μ2 => AO K r x y μ2 R) : AX K (tOp r ta tb) Γ μ R := fun A M σ H c Q q =>
  h A M σ H c _ fun M1 H1 v x μ1 mo1 e1 r1 h1 => h1 A M1 σ H1 (c.eff e1 mo1) _ fun M2 H2 u y μ2 mo2 e2 r2 h2 =>
    h2 A M2 H2 v u mo2 (r1.mono e2.ex e2.pre) r2 Q fun M3 H3 z w μ3 mo3 e3 r3 hR => q M3 H3 z w μ3 mo3 ((e1.trans e2).trans e3) r3 hR
theorem ax_un {r : V → Hp → VK → Prop} (h : AX K ta Γ μ fun x μ1 => AU K r x μ1 R) : AX K (tUn r ta) Γ μ R := fun A M σ H c Q q =>
  h A M σ H c _ fun M1 H1 v x μ1 mo1 e1 r1 h1 => h1 A M1 H1 v mo1 r1 Q fun M3 H3 z w μ3 mo3 e3 r3 hR => q M3 H3 z w μ3 mo3 (e1.trans e3) r3 hR
theorem ax_weak {R' : W → Mu → Prop} (h : AX K te Γ μ R) (k : ∀ w μ', R w μ' → R' w μ') : AX K te Γ μ R' := fun A M σ H c Q q =>
  h A M σ H c Q fun M1 H1 v w μ1 mo e r hr => q M1 H1 v w μ1 mo e r (k _ _ hr)
/-! two ints, and the like -/
theorem ao_I0 {g : Int → Int → V} {d : PyData} {i j : Int} (hd : ∀ Hv, DQ K Hv (g i j) d) (k : R (.d d) μ) : AO K (rI0 g) (.d (.int i)) (.d (.int j)) μ R := fun A M H v u mo rv ru Q q => by
  rw [vr_int rv, vr_int ru]
  exact ⟨i, j, rfl, rfl, q M H _ _ μ mo Eff.refl (.d (hd _)) k⟩
theorem ao_I {P : Int → Int → Prop} {g : Int → Int → V} {d : PyData} {i j : Int} (hd : ∀ Hv, DQ K Hv (g i j) d) (hc : P i j) (k : R (.d d) μ) : AO K (rI P g) (.d (.int i)) (.d (.int j)) μ R := fun A M H v u mo rv ru Q q => by
  rw [vr_int rv, vr_int ru]
  exact ⟨i, j, rfl, rfl, hc, q M H _ _ μ mo Eff.refl (.d (hd _)) k⟩
theorem ao_iI {g : Int → Int → Int} {i j : Int} (k : R (.d (.int (g i j))) μ) : AO K (rI0 fun i j => .int (g i j)) (.d (.int i)) (.d (.int j)) μ R := ao_I0 (fun _ => .int _) k
theorem ao_iB {g : Int → Int → Bool} {i j : Int} (k : R (.d (.bool (g i j))) μ) : AO K (rI0 fun i j => .bl (g i j)) (.d (.int i)) (.d (.int j)) μ R := ao_I0 (fun _ => .bl _) k
theorem ao_cI {P : Int → Int → Prop} {g : Int → Int → Int} {i j : Int} (hc : P i j) (k : R (.d (.int (g i j))) μ) : AO K (rI P fun i j => .int (g i j)) (.d (.int i)) (.d (.int j)) μ R := ao_I (fun _ => .int _) hc k
theorem au_neg {i : Int} (k : R (.d (.int (-i))) μ) : AU K (rU fun i => .int (-i)) (.d (.int i)) μ R := fun A M H v mo rv Q q => by
  rw [vr_int rv]
  exact ⟨i, rfl, q M H _ _ μ mo Eff.refl (.d (.int _)) k⟩
/-- == and != of scalars -/
def sV : PyData → V
  | .bool b => .bl b
  | .int i => .int i
  | .str x => .str x
  | _ => .non
def isS : PyData → Bool
  | .none => true
  | .bool _ => true
  | .int _ => true
  | .str _ => true
  | _ => false
theorem vr_s {v : V} {x : PyData} {Hv : Hp} {M : List Addr} (h : VR K Hv M v (.d x)) (hx : isS x = true) : v = sV x := by
  cases h with
  | d h => cases h <;> first | rfl | cases hx
theorem ao_eq {x y : PyData} (hx : isS x = true) (hy : isS y = true) (hs : scal (sV x) (sV y) = true) (k : R (.d (.bool (decide (sV x = sV y)))) μ) : AO K rEq (.d x) (.d y) μ R := fun A M H v u mo rv ru Q q => by
  rw [vr_s rv hx, vr_s ru hy]
  exact ⟨hs, q M H _ _ μ mo Eff.refl (.d (.bl _)) k⟩
theorem ao_ne {x y : PyData} (hx : isS x = true) (hy : isS y = true) (hs : scal (sV x) (sV y) = true) (k : R (.d (.bool (!decide (sV x = sV y)))) μ) : AO K rNe (.d x) (.d y) μ R := fun A M H v u mo rv ru Q q => by
  rw [vr_s rv hx, vr_s ru hy]
  exact ⟨hs, q M H _ _ μ mo Eff.refl (.d (.bl _)) k⟩
theorem dec_V {i j : Int} : decide (V.int i = V.int j) = decide (i = j) := by
  by_cases h : i = j
  · subst h; simp
  · rw [decide_eq_false h, decide_eq_false fun z => h (V.int.inj z)]
theorem dec_Vb {i j : Bool} : decide (V.bl i = V.bl j) = decide (i = j) := by cases i <;> cases j <;> rfl
theorem dec_Vs {i j : PySem.Str} : decide (V.str i = V.str j) = decide (i = j) := by
  by_cases h : i = j
  · subst h; simp
  · rw [decide_eq_false h, decide_eq_false fun z => h (V.str.inj z)]
theorem ao_eqI {i j : Int} (k : R (.d (.bool (decide (i = j)))) μ) : AO K rEq (.d (.int i)) (.d (.int j)) μ R := ao_eq rfl rfl rfl (by show R (.d (.bool (decide (V.int i = V.int j)))) μ; rw [dec_V]; exact k)
theorem ao_neI {i j : Int} (k : R (.d (.bool (!decide (i = j)))) μ) : AO K rNe (.d (.int i)) (.d (.int j)) μ R := ao_ne rfl rfl rfl (by show R (.d (.bool (!decide (V.int i = V.int j)))) μ; rw [dec_V]; exact k)
theorem ao_eqB {i j : Bool} (k : R (.d (.bool (decide (i = j)))) μ) : AO K rEq (.d (.bool i)) (.d (.bool j)) μ R := ao_eq rfl rfl rfl (by show R (.d (.bool (decide (V.bl i = V.bl j)))) μ; rw [dec_Vb]; exact k)
theorem ao_neB {i j : Bool} (k : R (.d (.bool (!decide (i = j)))) μ) : AO K rNe (.d (.bool i)) (.d (.bool j)) μ R := ao_ne rfl rfl rfl (by show R (.d (.bool (!decide (V.bl i = V.bl j)))) μ; rw [dec_Vb]; exact k)
theorem ao_eqS {i j : PySem.Str} (k : R (.d (.bool (decide (i = j)))) μ) : AO K rEq (.d (.str i)) (.d (.str j)) μ R := ao_eq rfl rfl rfl (by show R (.d (.bool (decide (V.str i = V.str j)))) μ; rw [dec_Vs]; exact k)
theorem ao_neS {i j : PySem.Str} (k : R (.d (.bool (!decide (i = j)))) μ) : AO K rNe (.d (.str i)) (.d (.str j)) μ R := ao_ne rfl rfl rfl (by show R (.d (.bool (!decide (V.str i = V.str j)))) μ; rw [dec_Vs]; exact k)
/-- == and != of data -/
theorem ao_eqD {x y : W} {d e : PyData} (hx : Rs μ x d) (hy : Rs μ y e) (sd : SeqAt.shaped d = true) (se : SeqAt.shaped e = true) (k : R (.d (.bool (PyData.eqv d e))) μ) : AO K (rEqD K) x y μ R := fun A M H v u mo rv ru Q q =>
  ⟨d, e, hx.dp mo rv, hy.dp mo ru, sd, se, q M H _ _ μ mo Eff.refl (.d (.bl _)) k⟩
theorem ao_neD {x y : W} {d e : PyData} (hx : Rs μ x d) (hy : Rs μ y e) (sd : SeqAt.shaped d = true) (se : SeqAt.shaped e = true) (k : R (.d (.bool (!PyData.eqv d e))) μ) : AO K (rNeD K) x y μ R := fun A M H v u mo rv ru Q q =>
  ⟨d, e, hx.dp mo rv, hy.dp mo ru, sd, se, q M H _ _ μ mo Eff.refl (.d (.bl _)) k⟩
/-- is None -/
def isNon : W → Bool
  | .d .none => true
  | .k v => decide (v = .non)
  | _ => false
theorem vr_isN {v : V} {w : W} {Hv : Hp} {M : List Addr} (h : VR K Hv M v w) : decide (v = .non) = isNon w := by
  cases h with
  | d h => cases h <;> rfl
  | m h => rfl
  | t h1 h2 => rfl
  | f h1 h2 => rfl
  | k v => rfl
theorem ax_isN (h : AX K ta Γ μ fun x μ1 => R (.d (.bool (isNon x))) μ1) : AX K (tIsN ta) Γ μ R := fun A M σ H c Q q =>
  h A M σ H c _ fun M1 H1 v x μ1 mo1 e1 r1 h1 => by
    show Q (.bl (decide (v = .non))) H1
    rw [vr_isN r1]
    exact q M1 H1 _ _ μ1 mo1 e1 (.d (.bl _)) h1
theorem ax_notN (h : AX K ta Γ μ fun x μ1 => R (.d (.bool (!isNon x))) μ1) : AX K (tNotN ta) Γ μ R := fun A M σ H c Q q =>
  h A M σ H c _ fun M1 H1 v x μ1 mo1 e1 r1 h1 => by
    show Q (.bl (!decide (v = .non))) H1
    rw [vr_isN r1]
    exact q M1 H1 _ _ μ1 mo1 e1 (.d (.bl _)) h1
/-! tests -/
section
variable {RT : Bool → Mu → Prop}
theorem at_test (h : AX K te Γ μ fun w μ1 => ∃ b, w = .d (.bool b) ∧ RT b μ1) : AXT K (tTest te) Γ μ RT := fun A M σ H c Q q =>
  h A M σ H c _ fun M1 H1 v w μ1 mo1 e1 r1 ⟨b, hb, hR⟩ => by
    subst hb
    exact ⟨b, vr_bool r1, q M1 H1 b μ1 mo1 e1 hR⟩
theorem at_B (h : AX K te Γ μ fun w μ1 => ∃ b, w = .d (.bool b) ∧ RT b μ1) : AXT K (tB te) Γ μ RT := fun A M σ H c Q q =>
  h A M σ H c _ fun M1 H1 v w μ1 mo1 e1 r1 ⟨b, hb, hR⟩ => by
    subst hb
    exact ⟨b, vr_bool r1, q M1 H1 b μ1 mo1 e1 hR⟩
theorem at_and (h : AXT K t Γ μ fun a μ1 => if a = true then AXT K u Γ μ1 RT else RT false μ1) : AXT K (tAnd t u) Γ μ RT := fun A M σ H c Q q =>
  h A M σ H c _ fun M1 H1 a μ1 mo1 e1 h1 => by
    cases a with
    | true =>
      show u σ H1 Q
      exact h1 A M1 σ H1 (c.eff e1 mo1) Q fun M2 H2 b μ2 mo2 e2 h2 => q M2 H2 b μ2 mo2 (e1.trans e2) h2
    | false => exact q M1 H1 false μ1 mo1 e1 h1
theorem at_or (h : AXT K t Γ μ fun a μ1 => if a = true then RT true μ1 else AXT K u Γ μ1 RT) : AXT K (tOr t u) Γ μ RT := fun A M σ H c Q q =>
  h A M σ H c _ fun M1 H1 a μ1 mo1 e1 h1 => by
    cases a with
    | false =>
      show u σ H1 Q
      exact h1 A M1 σ H1 (c.eff e1 mo1) Q fun M2 H2 b μ2 mo2 e2 h2 => q M2 H2 b μ2 mo2 (e1.trans e2) h2
    | true => exact q M1 H1 true μ1 mo1 e1 h1
theorem at_not (h : AXT K t Γ μ fun a μ1 => RT (!a) μ1) : AXT K (tNot t) Γ μ RT := fun A M σ H c Q q =>
  h A M σ H c _ fun M1 H1 a μ1 mo1 e1 h1 => q M1 H1 (!a) μ1 mo1 e1 h1
theorem at_yes (h : RT true μ) : AXT K tYes Γ μ RT := fun A M σ H c Q q => q M H true μ c.mo Eff.refl h
theorem at_weak {RT' : Bool → Mu → Prop} (h : AXT K t Γ μ RT) (k : ∀ w μ', RT w μ' → RT' w μ') : AXT K t Γ μ RT' := fun A M σ H c Q q =>
  h A M σ H c Q fun M1 H1 w μ1 mo e hr => q M1 H1 w μ1 mo e (k _ _ hr)
end
theorem ax_andV (h : AX K ta Γ μ fun x μ1 => ∃ b, x = .d (.bool b) ∧ if b = true then AX K tb Γ μ1 R else R (.d (.bool false)) μ1) : AX K (tAndV ta tb) Γ μ R := fun A M σ H c Q q =>
  h A M σ H c _ fun M1 H1 v x μ1 mo1 e1 r1 ⟨b, hb, h1⟩ => by
    subst hb
    refine ⟨b, vr_bool r1, ?_⟩
    cases b with
    | true =>
      show tb σ H1 Q
      exact h1 A M1 σ H1 (c.eff e1 mo1) Q fun M2 H2 z w μ2 mo2 e2 r2 h2 => q M2 H2 z w μ2 mo2 (e1.trans e2) r2 h2
    | false => exact q M1 H1 _ _ μ1 mo1 e1 (.d (.bl false)) h1
theorem ax_orV (h : AX K ta Γ μ fun x μ1 => ∃ b, x = .d (.bool b) ∧ if b = true then R (.d (.bool true)) μ1 else AX K tb Γ μ1 R) : AX K (tOrV ta tb) Γ μ R := fun A M σ H c Q q =>
  h A M σ H c _ fun M1 H1 v x μ1 mo1 e1 r1 ⟨b, hb, h1⟩ => by
    subst hb
    refine ⟨b, vr_bool r1, ?_⟩
    cases b with
    | false =>
      show tb σ H1 Q
      exact h1 A M1 σ H1 (c.eff e1 mo1) Q fun M2 H2 z w μ2 mo2 e2 r2 h2 => q M2 H2 z w μ2 mo2 (e1.trans e2) r2 h2
    | true => exact q M1 H1 _ _ μ1 mo1 e1 (.d (.bl true)) h1
theorem ax_notV (h : AX K ta Γ μ fun x μ1 => ∃ b, x = .d (.bool b) ∧ R (.d (.bool (!b))) μ1) : AX K (tNotV ta) Γ μ R := fun A M σ H c Q q =>
  h A M σ H c _ fun M1 H1 v x μ1 mo1 e1 r1 ⟨b, hb, h1⟩ => by
    subst hb
    exact ⟨b, vr_bool r1, q M1 H1 _ _ μ1 mo1 e1 (.d (.bl _)) h1⟩
theorem ax_if (h : AXT K t Γ μ fun a μ1 => if a = true then AX K ta Γ μ1 R else AX K tb Γ μ1 R) : AX K (tIf t ta tb) Γ μ R := fun A M σ H c Q q =>
  h A M σ H c _ fun M1 H1 a μ1 mo1 e1 h1 => by
    cases a with
    | true =>
      show ta σ H1 Q
      exact h1 A M1 σ H1 (c.eff e1 mo1) Q fun M2 H2 z w μ2 mo2 e2 r2 h2 => q M2 H2 z w μ2 mo2 (e1.trans e2) r2 h2
    | false =>
      show tb σ H1 Q
      exact h1 A M1 σ H1 (c.eff e1 mo1) Q fun M2 H2 z w μ2 mo2 e2 r2 h2 => q M2 H2 z w μ2 mo2 (e1.trans e2) r2 h2
/-! arguments -/
section
variable {RA : List W → Mu → Prop} {tr : TA}
theorem aa_nil (k : RA [] μ) : AXA K tNil Γ μ RA := fun A M σ H c Q q => q M H _ _ μ c.mo Eff.refl .nil k
theorem aa_cons (h : AX K ta Γ μ fun x μ1 => AXA K tr Γ μ1 fun ws μ2 => RA (x :: ws) μ2) : AXA K (tCons ta tr) Γ μ RA := fun A M σ H c Q q =>
  h A M σ H c _ fun M1 H1 v x μ1 mo1 e1 r1 h1 => h1 A M1 σ H1 (c.eff e1 mo1) _ fun M2 H2 vs ws μ2 mo2 e2 r2 h2 =>
    q M2 H2 (v :: vs) (x :: ws) μ2 mo2 (e1.trans e2) (.cons (r1.mono e2.ex e2.pre) r2) h2
end
theorem ax_tup {tr : TA} (h : AXA K tr Γ μ fun ws μ1 => ws.length ≤ sizeLine ∧ NT ws μ1 R) : AX K (tTup tr) Γ μ R := fun A M σ H c Q q =>
  h A M σ H c _ fun M1 H1 vs ws μ1 mo1 e1 r1 ⟨hl, hn⟩ => ⟨by rw [r1.length]; exact hl, fun p hp => by
    obtain ⟨w, m2, e2, r2, hR⟩ := hn.use mo1 r1 hp
    exact q M1 _ _ w μ1 m2 (e1.trans e2) r2 hR⟩
theorem ax_lst {tr : TA} (h : AXA K tr Γ μ fun ws μ1 => ws.length ≤ sizeLine ∧ NL ws μ1 R) : AX K (tLst tr) Γ μ R := fun A M σ H c Q q =>
  h A M σ H c _ fun M1 H1 vs ws μ1 mo1 e1 r1 ⟨hl, hn⟩ => ⟨by rw [r1.length]; exact hl, fun p hp => by
    obtain ⟨M2, μ2, w, m2, e2, r2, hR⟩ := hn.use mo1 r1 hp
    exact q M2 _ _ w μ2 m2 (e1.trans e2) r2 hR⟩
theorem ax_cb {r : List V → Hp → VK → Prop} {tr : TA} (h : AXA K tr Γ μ fun ws μ1 => AC K r ws μ1 R) : AX K (tCB r tr) Γ μ R := fun A M σ H c Q q =>
  h A M σ H c _ fun M1 H1 vs ws μ1 mo1 e1 r1 h1 => h1 A M1 H1 vs mo1 r1 Q fun M3 H3 z w μ3 mo3 e3 r3 hR => q M3 H3 z w μ3 mo3 (e1.trans e3) r3 hR
/-- a method of a built-in type -/
def tyW (T : String) (μ : Mu) : W → Prop
  | .m k => T = "list" ∧ ∃ ws, μ[k]? = some (some (.lst ws))
  | .d (.list _) => T = "list"
  | .f _ => T = "list"
  | .d (.str _) => T = "str"
  | .d (.int _) => T = "int"
  | _ => False
end
end Pd

namespace Pd
open PySem L2
open Evl (Ex)
section
variable {K : PySem.W.Frag} {A : Addr → Prop} {M : List Addr} {H : Hp} {Γ : G} {μ : Mu} {R : W → Mu → Prop} {ta tb te : TE} {t u : TT} {r : R2}
theorem tyW_ok {T : String} {w : W} {v : V} (mo : MOk K A M H μ) (rv : VR K (vw A M μ H) M v w) (h : tyW T μ w) : tyV K T v H := by
  cases rv with
  | d rv =>
    cases rv with
    | non => cases h
    | bl _ => cases h
    | int _ => exact h
    | str _ => exact h
    | lst h1 h2 => exact .inl ⟨h, _, SqL.of (vw_le _ _ h1)⟩
    | tup _ _ => cases h
  | m hm =>
    obtain ⟨e, ws, hk⟩ := h
    obtain ⟨o, e2, vs, rfl, _⟩ := mo.ct _ _ _ hm hk
    exact .inl ⟨e, _, SqL.of e2⟩
  | t _ _ => cases h
  | f h1 h2 => exact .inl ⟨h, _, Evl.ex_l vw_le h1⟩
  | k v => cases h
theorem ax_bm {T : String} {rm : V → List V → Hp → VK → Prop} {tr : TA} (h : AX K ta Γ μ fun x μ1 => tyW T μ1 x ∧ AXA K tr Γ μ1 fun ws μ2 => AM K rm x ws μ2 R) : AX K (tBM K T rm ta tr) Γ μ R := fun A M σ H c Q q =>
  h A M σ H c _ fun M1 H1 v x μ1 mo1 e1 r1 ⟨ty, h1⟩ => ⟨tyW_ok mo1 r1 ty, h1 A M1 σ H1 (c.eff e1 mo1) _ fun M2 H2 vs ws μ2 mo2 e2 r2 h2 =>
    h2 A M2 H2 v vs mo2 (r1.mono e2.ex e2.pre) r2 Q fun M3 H3 z w μ3 mo3 e3 r3 hR => q M3 H3 z w μ3 mo3 ((e1.trans e2).trans e3) r3 hR⟩
theorem ax_bm0 {T : String} {rm : V → List V → Hp → VK → Prop} (h : AX K ta Γ μ fun x μ1 => tyW T μ1 x ∧ AM K rm x [] μ1 R) : AX K (tBM0 K T rm ta) Γ μ R := fun A M σ H c Q q =>
  h A M σ H c _ fun M1 H1 v x μ1 mo1 e1 r1 ⟨ty, h1⟩ => ⟨tyW_ok mo1 r1 ty, h1 A M1 H1 v [] mo1 r1 .nil Q fun M3 H3 z w μ3 mo3 e3 r3 hR => q M3 H3 z w μ3 mo3 (e1.trans e3) r3 hR⟩
/-! lists that change -/
theorem cell_get {k : Nat} {ws : List W} {v : V} (mo : MOk K A M H μ) (rv : VR K (vw A M μ H) M v (.m k)) (hk : μ[k]? = some (some (.lst ws))) : ∃ a vs, v = .ref a ∧ M[k]? = some a ∧ H a = some (.lst vs) ∧ VRs K (vw A M μ H) M vs ws := by
  cases rv with
  | m hm =>
    obtain ⟨o, e, vs, rfl, r⟩ := mo.ct _ _ _ hm hk
    exact ⟨_, vs, rfl, hm, e, r⟩
theorem am_append {k : Nat} {ws : List W} {w : W} (hk : μ[k]? = some (some (.lst ws))) (hl : ws.length < sizeLine) (q : R (.d .none) (μ.set k (some (.lst (ws ++ [w]))))) : AM K rAppend (.m k) [w] μ R := fun A M H v vs mo rv rs Q h => by
  obtain ⟨a, us, rfl, hm, e, ru⟩ := cell_get mo rv hk
  cases rs with
  | cons rw rn =>
    cases rn
    refine ⟨a, us, _, rfl, rfl, e, by rw [ru.length]; exact hl, ?_⟩
    have mo' : MOk K A M (upd H a (.lst (us ++ [_]))) (μ.set k (some (.lst (ws ++ [w])))) := mo.write hm hk ⟨_, rfl, ru.snoc rw⟩
    exact h M _ _ _ _ mo' (Eff.write mo hm hk) (.d .non) q
theorem am_pop {k : Nat} {ws : List W} {w : W} (hk : μ[k]? = some (some (.lst ws))) (hw : ws[ws.length - 1]? = some w) (q : R w (μ.set k (some (.lst ws.dropLast)))) : AM K rPop (.m k) [] μ R := fun A M H v vs mo rv rs Q h => by
  obtain ⟨a, us, rfl, hm, e, ru⟩ := cell_get mo rv hk
  cases rs
  obtain ⟨y, hy, ry⟩ := ru.getW hw
  refine ⟨a, us, y, rfl, rfl, e, by rw [ru.length]; exact hy, ?_⟩
  have mo' : MOk K A M (upd H a (.lst us.dropLast)) (μ.set k (some (.lst ws.dropLast))) := mo.write hm hk ⟨_, rfl, ru.dropLast⟩
  have e' : Eff A M μ H M (μ.set k (some (.lst ws.dropLast))) (upd H a (.lst us.dropLast)) := Eff.write mo hm hk
  exact h M _ _ _ _ mo' e' (ry.mono e'.ex e'.pre) q
theorem am_popAt {k : Nat} {ws : List W} {w : W} {i : Int} {j : Nat} (hk : μ[k]? = some (some (.lst ws))) (hi : -(2 ^ 63) ≤ i ∧ i < 2 ^ 63) (hj : seqIndex? i ws.length = some j) (hw : ws[j]? = some w) (q : R w (μ.set k (some (.lst (ws.eraseIdx j))))) : AM K rPopAt (.m k) [.d (.int i)] μ R := fun A M H v vs mo rv rs Q h => by
  obtain ⟨a, us, rfl, hm, e, ru⟩ := cell_get mo rv hk
  cases rs with
  | cons rw rn =>
    cases rn
    rw [vr_int rw]
    obtain ⟨y, hy, ry⟩ := ru.getW hw
    refine ⟨a, us, i, j, y, rfl, rfl, e, hi.1, hi.2, by rw [ru.length]; exact hj, hy, ?_⟩
    have mo' : MOk K A M (upd H a (.lst (us.eraseIdx j))) (μ.set k (some (.lst (ws.eraseIdx j)))) := mo.write hm hk ⟨_, rfl, ru.eraseIdx j⟩
    have e' : Eff A M μ H M (μ.set k (some (.lst (ws.eraseIdx j)))) (upd H a (.lst (us.eraseIdx j))) := Eff.write mo hm hk
    exact h M _ _ _ _ mo' e' (ry.mono e'.ex e'.pre) q
theorem am_extend {k : Nat} {ws zs : List W} {w : W} (hk : μ[k]? = some (some (.lst ws))) (hw : LN μ w zs) (hl : ws.length + zs.length ≤ sizeLine) (q : R (.d .none) (μ.set k (some (.lst (ws ++ zs))))) : AM K rExtend (.m k) [w] μ R := fun A M H v vs mo rv rs Q h => by
  obtain ⟨a, us, rfl, hm, e, ru⟩ := cell_get mo rv hk
  cases rs with
  | cons rw rn =>
    cases rn
    obtain ⟨b, ys, rfl, eb, rb⟩ := hw.get mo rw
    refine ⟨a, b, us, ys, rfl, rfl, e, eb, by rw [ru.length, rb.length]; exact hl, ?_⟩
    have mo' : MOk K A M (upd H a (.lst (us ++ ys))) (μ.set k (some (.lst (ws ++ zs)))) := mo.write hm hk ⟨_, rfl, ru.append rb⟩
    exact h M _ _ _ _ mo' (Eff.write mo hm hk) (.d .non) q
/-! items, slices, sums of lists -/
theorem atI_map {ws : List W} {vs : List V} {i : Int} {w : W} {Hv : Hp} (ru : VRs K Hv M vs ws) (h : atI ws i = some w) : ∃ v, atI vs i = some v ∧ VR K Hv M v w := by
  unfold atI at h ⊢
  rw [ru.length]
  cases e : ixN ws.length i with
  | none => rw [e] at h; cases h
  | some j =>
    rw [e] at h
    exact ru.getW h
theorem ao_ixL {x z : W} {ws : List W} {i : Int} (hx : LW μ x ws) (hz : atI ws i = some z) (q : R z μ) : AO K (rIxL K) x (.d (.int i)) μ R := fun A M H v u mo rv ru Q h => by
  obtain ⟨a, vs, rfl, hs, rs⟩ := hx.get mo rv
  rw [vr_int ru]
  obtain ⟨y, hy, ry⟩ := atI_map rs hz
  exact ⟨a, vs, i, y, rfl, rfl, hs, hy, h M H y z μ mo Eff.refl ry q⟩
theorem ao_ixT {x z : W} {ws : List W} {i : Int} (hx : TW x ws) (hz : atI ws i = some z) (q : R z μ) : AO K (rIxT K) x (.d (.int i)) μ R := fun A M H v u mo rv ru Q h => by
  obtain ⟨a, vs, rfl, hs, rs⟩ := hx.get rv
  rw [vr_int ru]
  obtain ⟨y, hy, ry⟩ := atI_map rs hz
  exact ⟨a, vs, i, y, rfl, rfl, Evl.ex_t vw_le hs, hy, h M H y z μ mo Eff.refl ry q⟩
theorem ao_ixS {x : PySem.Str} {i : Int} {c : Nat} (hl : x.length ≤ sizeLine) (hc : atI x.cps.toList i = some c) (q : R (.d (.str ⟨#[c]⟩)) μ) : AO K rIxS (.d (.str x)) (.d (.int i)) μ R := fun A M H v u mo rv ru Q h => by
  rw [vr_int ru, vr_str rv]
  exact ⟨x, i, c, rfl, rfl, hl, hc, h M H _ _ μ mo Eff.refl (.d (.str _)) q⟩
theorem ao_cat {x y : W} {ws zs : List W} (hx : LN μ x ws) (hy : LN μ y zs) (hl : ws.length + zs.length ≤ sizeLine) (q : NL (ws ++ zs) μ R) : AO K rCat x y μ R := fun A M H v u mo rv ru Q h => by
  obtain ⟨a, vs, rfl, ha, ra⟩ := hx.get mo rv
  obtain ⟨b, us, rfl, hb, rb⟩ := hy.get mo ru
  refine ⟨a, b, vs, us, rfl, rfl, ha, hb, by rw [ra.length, rb.length]; exact hl, fun p hp => ?_⟩
  obtain ⟨M2, μ2, w, m2, e2, r2, hR⟩ := q.use mo (ra.append rb) hp
  exact h M2 _ _ w μ2 m2 e2 r2 hR
theorem vrs_rep {vs : List V} {ws : List W} {Hv : Hp} (h : VRs K Hv M vs ws) : ∀ n : Nat, VRs K Hv M (List.replicate n vs).flatten (List.replicate n ws).flatten
  | 0 => .nil
  | n + 1 => by
    rw [List.replicate_succ, List.replicate_succ, List.flatten_cons, List.flatten_cons]
    exact h.append (vrs_rep h n)
theorem ao_rep {x : W} {ws : List W} {k : Int} (hx : LN μ x ws) (hk : -(2 ^ 63) ≤ k ∧ k < 2 ^ 63) (hl : ws.length * k.toNat ≤ sizeLine) (q : NL (List.replicate k.toNat ws).flatten μ R) : AO K rRep x (.d (.int k)) μ R := fun A M H v u mo rv ru Q h => by
  obtain ⟨a, vs, rfl, ha, ra⟩ := hx.get mo rv
  rw [vr_int ru]
  refine ⟨a, k, vs, rfl, rfl, ha, hk.1, hk.2, by rw [ra.length]; exact hl, fun p hp => ?_⟩
  obtain ⟨M2, μ2, w, m2, e2, r2, hR⟩ := q.use mo (vrs_rep ra k.toNat) hp
  exact h M2 _ _ w μ2 m2 e2 r2 hR
def cutW (xs : List W) (lo hi : Option Int) : List W := (xs.drop (HT.sIx xs.length 0 lo)).take (HT.sIx xs.length xs.length hi - HT.sIx xs.length 0 lo)
theorem vrs_cut {vs : List V} {ws : List W} {Hv : Hp} (h : VRs K Hv M vs ws) (lo hi : Option Int) : VRs K Hv M (cutV vs lo hi) (cutW ws lo hi) := by
  unfold cutV cutW
  rw [h.length]
  exact (h.drop _).take _
section
variable {RO : Option Int → Mu → Prop}
theorem xo_no (q : RO none μ) : AXO K tNoPart Γ μ RO := fun A M σ H c Q h => h M H none μ c.mo Eff.refl q
theorem xo_some (h : AX K te Γ μ fun w μ1 => ∃ i, w = .d (.int i) ∧ RO (some i) μ1) : AXO K (tPart te) Γ μ RO := fun A M σ H c Q q =>
  h A M σ H c _ fun M1 H1 v w μ1 mo1 e1 r1 ⟨i, hi, hR⟩ => by
    subst hi
    exact ⟨i, vr_int r1, q M1 H1 (some i) μ1 mo1 e1 hR⟩
end
def ASl (K : PySem.W.Frag) (r : V → Option Int → Option Int → Hp → VK → Prop) (x : W) (lo hi : Option Int) (μ : Mu) (R : W → Mu → Prop) : Prop := AU K (fun v H Q => r v lo hi H Q) x μ R
theorem ax_sl {r : V → Option Int → Option Int → Hp → VK → Prop} {tl th : TO} (h : AX K te Γ μ fun x μ1 => AXO K tl Γ μ1 fun lo μ2 => AXO K th Γ μ2 fun hi μ3 => ASl K r x lo hi μ3 R) : AX K (tSl r te tl th) Γ μ R := fun A M σ H c Q q =>
  h A M σ H c _ fun M1 H1 v x μ1 mo1 e1 r1 h1 => h1 A M1 σ H1 (c.eff e1 mo1) _ fun M2 H2 lo μ2 mo2 e2 h2 => h2 A M2 σ H2 (c.eff (e1.trans e2) mo2) _ fun M3 H3 hi μ3 mo3 e3 h3 =>
    h3 A M3 H3 v mo3 (r1.mono (e2.trans e3).ex (e2.trans e3).pre) Q fun M4 H4 z w μ4 mo4 e4 r4 hR => q M4 H4 z w μ4 mo4 (((e1.trans e2).trans e3).trans e4) r4 hR
theorem as_slL {x : W} {ws : List W} {lo hi : Option Int} (hx : LW μ x ws) (q : NL (cutW ws lo hi) μ R) : ASl K (rSlL K) x lo hi μ R := fun A M H v mo rv Q h => by
  obtain ⟨a, vs, rfl, hs, rs⟩ := hx.get mo rv
  refine ⟨a, vs, rfl, hs, fun p hp => ?_⟩
  obtain ⟨M2, μ2, w, m2, e2, r2, hR⟩ := q.use mo (vrs_cut rs lo hi) hp
  exact h M2 _ _ w μ2 m2 e2 r2 hR
theorem as_slS {x : PySem.Str} {lo hi : Option Int} (hl : x.length ≤ sizeLine) (q : R (.d (.str (cutS x lo hi))) μ) : ASl K rSlS (.d (.str x)) lo hi μ R := fun A M H v mo rv Q h => by
  rw [vr_str rv]
  exact ⟨x, rfl, hl, h M H _ _ μ mo Eff.refl (.d (.str _)) q⟩
theorem ax_revL (h : AX K te Γ μ fun x μ1 => ∃ ws, LW μ1 x ws ∧ NL ws.reverse μ1 R) : AX K (tRevL K te) Γ μ R := fun A M σ H c Q q =>
  h A M σ H c _ fun M1 H1 v x μ1 mo1 e1 r1 ⟨ws, hx, hn⟩ => by
    obtain ⟨a, vs, rfl, hs, rs⟩ := hx.get mo1 r1
    refine ⟨a, vs, rfl, hs, fun p hp => ?_⟩
    obtain ⟨M2, μ2, w, m2, e2, r2, hR⟩ := hn.use mo1 rs.reverse hp
    exact q M2 _ _ w μ2 m2 (e1.trans e2) r2 hR
/-! built-ins by values -/
/-- a reading that wants a list's address and items -/
theorem ac_len {x : W} {ws : List W} (hx : LW μ x ws) (q : R (.d (.int ws.length)) μ) : AC K (fun xs H Q => ∃ p ys, xs = [.ref p] ∧ (SqL K H p ys ∨ SqT K H p ys) ∧ Q (.int ys.length) H) [x] μ R := fun A M H vs mo rs Q h => by
  cases rs with
  | cons rw rn =>
    cases rn
    obtain ⟨a, us, rfl, hs, ru⟩ := hx.get mo rw
    refine ⟨a, us, rfl, .inl hs, ?_⟩
    rw [ru.length]
    exact h M H _ _ μ mo Eff.refl (.d (.int _)) q
theorem ac_lenT {x : W} {ws : List W} (hx : TW x ws) (q : R (.d (.int ws.length)) μ) : AC K (fun xs H Q => ∃ p ys, xs = [.ref p] ∧ (SqL K H p ys ∨ SqT K H p ys) ∧ Q (.int ys.length) H) [x] μ R := fun A M H vs mo rs Q h => by
  cases rs with
  | cons rw rn =>
    cases rn
    obtain ⟨a, us, rfl, hs, ru⟩ := hx.get rw
    refine ⟨a, us, rfl, .inr (Evl.ex_t vw_le hs), ?_⟩
    rw [ru.length]
    exact h M H _ _ μ mo Eff.refl (.d (.int _)) q
theorem ac_list {x : W} {ws : List W} (hx : LW μ x ws) (q : NL ws μ R) : AC K (fun xs H Q => ∃ p ys, xs = [.ref p] ∧ (SqL K H p ys ∨ SqT K H p ys) ∧ ∀ l, H l = none → Q (.ref l) (upd H l (.lst ys))) [x] μ R := fun A M H vs mo rs Q h => by
  cases rs with
  | cons rw rn =>
    cases rn
    obtain ⟨a, us, rfl, hs, ru⟩ := hx.get mo rw
    refine ⟨a, us, rfl, .inl hs, fun p hp => ?_⟩
    obtain ⟨M2, μ2, w, m2, e2, r2, hR⟩ := q.use mo ru hp
    exact h M2 _ _ w μ2 m2 e2 r2 hR
theorem ac_listT {x : W} {ws : List W} (hx : TW x ws) (q : NL ws μ R) : AC K (fun xs H Q => ∃ p ys, xs = [.ref p] ∧ (SqL K H p ys ∨ SqT K H p ys) ∧ ∀ l, H l = none → Q (.ref l) (upd H l (.lst ys))) [x] μ R := fun A M H vs mo rs Q h => by
  cases rs with
  | cons rw rn =>
    cases rn
    obtain ⟨a, us, rfl, hs, ru⟩ := hx.get rw
    refine ⟨a, us, rfl, .inr (Evl.ex_t vw_le hs), fun p hp => ?_⟩
    obtain ⟨M2, μ2, w, m2, e2, r2, hR⟩ := q.use mo (ru) hp
    exact h M2 _ _ w μ2 m2 e2 r2 hR
theorem ac_tupleL {x : W} {ws : List W} (hx : LW μ x ws) (q : NT ws μ R) : AC K (fun xs H Q => ∃ p ys, xs = [.ref p] ∧ ((SqL K H p ys ∧ ∀ l, H l = none → Q (.ref l) (upd H l (.tup ys))) ∨ (SqT K H p ys ∧ Q (.ref p) H))) [x] μ R := fun A M H vs mo rs Q h => by
  cases rs with
  | cons rw rn =>
    cases rn
    obtain ⟨a, us, rfl, hs, ru⟩ := hx.get mo rw
    refine ⟨a, us, rfl, .inl ⟨hs, fun p hp => ?_⟩⟩
    obtain ⟨w, m2, e2, r2, hR⟩ := q.use mo ru hp
    exact h M _ _ w μ m2 e2 r2 hR
theorem ac_1 {g : Int → Int} {i : Int} (q : R (.d (.int (g i))) μ) : AC K (fun xs H Q => ∃ i, xs = [.int i] ∧ Q (.int (g i)) H) [.d (.int i)] μ R := fun A M H vs mo rs Q h => by
  cases rs with
  | cons rw rn =>
    cases rn
    exact ⟨i, by rw [vr_int rw], h M H _ _ μ mo Eff.refl (.d (.int _)) q⟩
theorem ac_2 {g : Int → Int → Int} {i j : Int} (q : R (.d (.int (g i j))) μ) : AC K (fun xs H Q => ∃ i j, xs = [.int i, .int j] ∧ Q (.int (g i j)) H) [.d (.int i), .d (.int j)] μ R := fun A M H vs mo rs Q h => by
  cases rs with
  | cons rw rn =>
    cases rn with
    | cons rw2 rn =>
      cases rn
      exact ⟨i, j, by rw [vr_int rw, vr_int rw2], h M H _ _ μ mo Eff.refl (.d (.int _)) q⟩
theorem ac_int {i : Int} (q : R (.d (.int i)) μ) : AC K (fun xs H Q => (∃ i, xs = [.int i] ∧ Q (.int i) H) ∨ ∃ k, xs = [.bl k] ∧ Q (.int (if k then 1 else 0)) H) [.d (.int i)] μ R := fun A M H vs mo rs Q h => by
  cases rs with
  | cons rw rn =>
    cases rn
    exact .inl ⟨i, by rw [vr_int rw], h M H _ _ μ mo Eff.refl (.d (.int _)) q⟩
theorem ac_intB {i : Bool} (q : R (.d (.int (if i then 1 else 0))) μ) : AC K (fun xs H Q => (∃ i, xs = [.int i] ∧ Q (.int i) H) ∨ ∃ k, xs = [.bl k] ∧ Q (.int (if k then 1 else 0)) H) [.d (.bool i)] μ R := fun A M H vs mo rs Q h => by
  cases rs with
  | cons rw rn =>
    cases rn
    exact .inr ⟨i, by rw [vr_bool rw], h M H _ _ μ mo Eff.refl (.d (.int _)) q⟩
theorem ac_sum {x : W} {ns : List Int} (hx : LW μ x (ns.map fun n => W.d (.int n))) (q : R (.d (.int ns.sum)) μ) : AC K (rSum K) [x] μ R := fun A M H vs mo rs Q h => by
  cases rs with
  | cons rw rn =>
    cases rn
    obtain ⟨a, us, rfl, hs, ru⟩ := hx.get mo rw
    rw [vrs_int ru] at hs
    exact ⟨a, ns, rfl, hs, h M H _ _ μ mo Eff.refl (.d (.int _)) q⟩
theorem ac_max {x : W} {ns : List Int} (hx : LW μ x (ns.map fun n => W.d (.int n))) (h0 : 0 < ns.length) (q : ∀ m, m ∈ ns → (∀ y, y ∈ ns → y ≤ m) → R (.d (.int m)) μ) : AC K (rMax K) [x] μ R := fun A M H vs mo rs Q h => by
  cases rs with
  | cons rw rn =>
    cases rn
    obtain ⟨a, us, rfl, hs, ru⟩ := hx.get mo rw
    rw [vrs_int ru] at hs
    exact ⟨a, ns, rfl, hs, h0, fun m m1 m2 => h M H _ _ μ mo Eff.refl (.d (.int _)) (q m m1 m2)⟩
theorem ac_min {x : W} {ns : List Int} (hx : LW μ x (ns.map fun n => W.d (.int n))) (h0 : 0 < ns.length) (q : ∀ m, m ∈ ns → (∀ y, y ∈ ns → m ≤ y) → R (.d (.int m)) μ) : AC K (rMin K) [x] μ R := fun A M H vs mo rs Q h => by
  cases rs with
  | cons rw rn =>
    cases rn
    obtain ⟨a, us, rfl, hs, ru⟩ := hx.get mo rw
    rw [vrs_int ru] at hs
    exact ⟨a, ns, rfl, hs, h0, fun m m1 m2 => h M H _ _ μ mo Eff.refl (.d (.int _)) (q m m1 m2)⟩
theorem ac_all {x : W} {bs : List Bool} (hx : LW μ x (bs.map fun n => W.d (.bool n))) (q : R (.d (.bool (bs.all id))) μ) : AC K (rAll K) [x] μ R := fun A M H vs mo rs Q h => by
  cases rs with
  | cons rw rn =>
    cases rn
    obtain ⟨a, us, rfl, hs, ru⟩ := hx.get mo rw
    rw [vrs_bool ru] at hs
    exact ⟨a, bs, rfl, hs, h M H _ _ μ mo Eff.refl (.d (.bl _)) q⟩
end
/-! ### targets, statements -/
section
variable {K : PySem.W.Frag} {A : Addr → Prop} {M M' : List Addr} {H H' : Hp} {Γ : G} {μ μ' : Mu} {ta te tl : TE} {c : TT} {t u tb : TS} {g : TG} {D : AEn}
theorem ag_name {i : Nat} {w : W} {R : G → Mu → Prop} (q : R (Γ.set i (some w)) μ) : AG K (gName i) w Γ μ R := fun A M σ H v c rv Q h => h M _ H _ μ ⟨c.mo, c.gr.set rv⟩ Eff.refl q
theorem ags_nil {R : G → Mu → Prop} (q : R Γ μ) : AGs K gNil [] Γ μ R := fun A M σ H vs c rs Q h => by
  cases rs
  exact ⟨rfl, h M σ H Γ μ c Eff.refl q⟩
theorem ags_cons {g : TG} {gs : TGs} {w : W} {ws : List W} {R : G → Mu → Prop} (h : AG K g w Γ μ fun Γ1 μ1 => AGs K gs ws Γ1 μ1 R) : AGs K (gCons g gs) (w :: ws) Γ μ R := fun A M σ H vs c rs Q q => by
  cases rs with
  | cons r1 r2 =>
    refine ⟨_, _, rfl, h A M σ H _ c r1 _ fun M1 σ1 H1 Γ1 μ1 c1 e1 h1 => ?_⟩
    exact h1 A M1 σ1 H1 _ c1 (r2.mono e1.ex e1.pre) Q fun M2 σ2 H2 Γ2 μ2 c2 e2 h2 => q M2 σ2 H2 Γ2 μ2 c2 (e1.trans e2) h2
theorem ag_tup {gs : TGs} {n : Nat} {w : W} {ws : List W} {R : G → Mu → Prop} (hw : TW w ws) (hn : ws.length = n) (h : AGs K gs ws Γ μ R) : AG K (gTup K n gs) w Γ μ R := fun A M σ H v c rv Q q => by
  obtain ⟨a, vs, rfl, hs, rs⟩ := hw.get rv
  exact ⟨a, vs, rfl, Evl.ex_t vw_le hs, by rw [rs.length]; exact hn, h A M σ H vs c rs Q q⟩
theorem as_asg (h : AX K te Γ μ fun w μ1 => AG K g w Γ μ1 D.nx) : AS K (tAsg te g) D Γ μ := fun A M σ H cn E hd =>
  h A M σ H cn _ fun M1 H1 v w μ1 mo1 e1 r1 h1 => h1 A M1 σ H1 v (cn.eff e1 mo1) r1 _ fun M2 σ2 H2 Γ2 μ2 c2 e2 h2 => hd.nx M2 σ2 H2 Γ2 μ2 c2 (e1.trans e2) h2
theorem as_par {i j : Nat} {tr : TA} (h : AXA K tr Γ μ fun ws μ1 => ∃ x y, ws = [x, y] ∧ D.nx ((Γ.set i (some x)).set j (some y)) μ1) : AS K (tPar i j tr) D Γ μ := fun A M σ H cn E hd =>
  h A M σ H cn _ fun M1 H1 vs ws μ1 mo1 e1 r1 ⟨x, y, hw, h1⟩ => by
    subst hw
    cases r1 with
    | cons ra r2 =>
      cases r2 with
      | cons rb r3 =>
        cases r3
        exact ⟨_, _, rfl, hd.nx M1 _ H1 _ μ1 ⟨mo1, ((cn.gr.mono e1.ex e1.pre).set ra).set rb⟩ e1 h1⟩
theorem as_par3 {i j l : Nat} {tr : TA} (h : AXA K tr Γ μ fun ws μ1 => ∃ x y z, ws = [x, y, z] ∧ D.nx (((Γ.set i (some x)).set j (some y)).set l (some z)) μ1) : AS K (tPar3 i j l tr) D Γ μ := fun A M σ H cn E hd =>
  h A M σ H cn _ fun M1 H1 vs ws μ1 mo1 e1 r1 ⟨x, y, z, hw, h1⟩ => by
    subst hw
    cases r1 with
    | cons ra r2 =>
      cases r2 with
      | cons rb r3 =>
        cases r3 with
        | cons rc r4 =>
          cases r4
          exact ⟨_, _, _, rfl, hd.nx M1 _ H1 _ μ1 ⟨mo1, (((cn.gr.mono e1.ex e1.pre).set ra).set rb).set rc⟩ e1 h1⟩
theorem as_seq (h : AS K t { D with nx := fun Γ1 μ1 => AS K u D Γ1 μ1 } Γ μ) : AS K (tSeq t u) D Γ μ := fun A M σ H cn E hd =>
  h A M σ H cn { E with nx := u E } ⟨fun M1 σ1 H1 Γ1 μ1 c1 e1 h1 => h1 A M1 σ1 H1 c1 E (hd.after e1), hd.rt, hd.bk, hd.ct, hd.xx⟩
theorem as_next (h : D.nx Γ μ) : AS K tNext D Γ μ := fun A M σ H cn E hd => hd.nx M σ H Γ μ cn Eff.refl h
theorem as_break (h : D.bk Γ μ) : AS K tBreak D Γ μ := fun A M σ H cn E hd => hd.bk M σ H Γ μ cn Eff.refl h
theorem as_cont (h : D.ct Γ μ) : AS K tCont D Γ μ := fun A M σ H cn E hd => hd.ct M σ H Γ μ cn Eff.refl h
theorem as_drop (h : AX K te Γ μ fun _ μ1 => D.nx Γ μ1) : AS K (tDrop te) D Γ μ := fun A M σ H cn E hd =>
  h A M σ H cn _ fun M1 H1 v w μ1 mo1 e1 r1 h1 => hd.nx M1 σ H1 Γ μ1 (cn.eff e1 mo1) e1 h1
theorem as_ret (h : AX K te Γ μ D.rt) : AS K (tRet te) D Γ μ := fun A M σ H cn E hd => h A M σ H cn _ fun M1 H1 v w μ1 mo1 e1 r1 h1 => hd.rt M1 H1 v w μ1 mo1 e1 r1 h1
theorem as_retN (h : D.rt (.d .none) μ) : AS K tRetN D Γ μ := fun A M σ H cn E hd => hd.rt M H _ _ μ cn.mo Eff.refl (.d .non) h
theorem as_if (h : AXT K c Γ μ fun b μ1 => if b = true then AS K t D Γ μ1 else AS K u D Γ μ1) : AS K (tIfS c t u) D Γ μ := fun A M σ H cn E hd =>
  h A M σ H cn _ fun M1 H1 b μ1 mo1 e1 h1 => by
    cases b with
    | true => exact h1 A M1 σ H1 (cn.eff e1 mo1) E (hd.after e1)
    | false => exact h1 A M1 σ H1 (cn.eff e1 mo1) E (hd.after e1)
theorem as_aug {i : Nat} {x : W} {f : Int → Int → Int} {a : Int} (hx : Γ[i]? = some (some (.d (.int a)))) (h : AX K te Γ μ fun w μ1 => ∃ b, w = .d (.int b) ∧ D.nx (Γ.set i (some (.d (.int (f a b))))) μ1) : AS K (tAug i te (ipI f)) D Γ μ := fun A M σ H cn E hd => by
  obtain ⟨v, e, r⟩ := cn.gr.2 i _ hx
  refine ⟨v, e, h A M σ H cn _ fun M1 H1 u w μ1 mo1 e1 r1 ⟨b, hw, h1⟩ => ?_⟩
  subst hw
  exact ⟨a, b, vr_int r, vr_int r1, hd.nx M1 _ H1 _ μ1 ⟨mo1, (cn.gr.mono e1.ex e1.pre).set (.d (.int _))⟩ e1 h1⟩
/-- an operator's rule as an in-place one -/
theorem as_augR {i : Nat} {x : W} {r : R2} (hx : Γ[i]? = some (some x)) (h : AX K te Γ μ fun w μ1 => AO K r x w μ1 fun z μ2 => D.nx (Γ.set i (some z)) μ2) : AS K (tAug i te r) D Γ μ := fun A M σ H cn E hd => by
  obtain ⟨v, e, rx⟩ := cn.gr.2 i _ hx
  refine ⟨v, e, h A M σ H cn _ fun M1 H1 u w μ1 mo1 e1 r1 h1 => ?_⟩
  exact h1 A M1 H1 v u mo1 (rx.mono e1.ex e1.pre) r1 _ fun M2 H2 z w2 μ2 mo2 e2 r2 h2 => hd.nx M2 _ H2 _ μ2 ⟨mo2, (cn.gr.mono (e1.trans e2).ex (e1.trans e2).pre).set r2⟩ (e1.trans e2) h2
/-- xs[i] = e -/
def ASet (K : PySem.W.Frag) (ts : TSet) (o i w : W) (μ : Mu) (R : Mu → Prop) : Prop := ∀ (A : Addr → Prop) (M : List Addr) (H : Hp) (x y v : V), MOk K A M H μ → VR K (vw A M μ H) M x o → VR K (vw A M μ H) M y i → VR K (vw A M μ H) M v w → ∀ Q : Hp → Prop,
  (∀ M' H' μ', MOk K A M' H' μ' → Eff A M μ H M' μ' H' → R μ' → Q H') → ts x y v H Q
theorem ag_sub {to ti : TE} {ts : TSet} {w : W} {R : G → Mu → Prop} (h : AX K to Γ μ fun o μ1 => AX K ti Γ μ1 fun i μ2 => ASet K ts o i w μ2 fun μ3 => R Γ μ3) : AG K (gSub to ti ts) w Γ μ R := fun A M σ H v cn rv Q q =>
  h A M σ H cn _ fun M1 H1 x o μ1 mo1 e1 r1 h1 => h1 A M1 σ H1 (cn.eff e1 mo1) _ fun M2 H2 y i μ2 mo2 e2 r2 h2 =>
    h2 A M2 H2 x y v mo2 (r1.mono e2.ex e2.pre) r2 (rv.mono (e1.trans e2).ex (e1.trans e2).pre) _ fun M3 H3 μ3 mo3 e3 h3 => q M3 σ H3 Γ μ3 (cn.eff ((e1.trans e2).trans e3) mo3) ((e1.trans e2).trans e3) h3
theorem aset_L {k j : Nat} {ws : List W} {i : Int} {w : W} {R : Mu → Prop} (hk : μ[k]? = some (some (.lst ws))) (hj : ixN ws.length i = some j) (q : R (μ.set k (some (.lst (ws.set j w))))) : ASet K rSetL (.m k) (.d (.int i)) w μ R := fun A M H x y v mo rx ry rv Q h => by
  obtain ⟨a, us, rfl, hm, e, ru⟩ := cell_get mo rx hk
  rw [vr_int ry]
  refine ⟨a, us, i, j, rfl, rfl, e, by rw [ru.length]; exact hj, ?_⟩
  have mo' : MOk K A M (upd H a (.lst (us.set j v))) (μ.set k (some (.lst (ws.set j w)))) := mo.write hm hk ⟨_, rfl, VRs.set rv j ru⟩
  exact h M _ _ mo' (Eff.write mo hm hk) q
end
end Pd

namespace Pd
open PySem L2
open Evl (Ex)
/-! ### what is walked -/
def ItOk (K : PySem.W.Frag) (J : It) (Hv : Hp) (M1 : List Addr) (items : List W) (S : Mu → Prop) : Prop := ∀ (A' : Addr → Prop) (M' : List Addr) (H' : Hp) (μ' : Mu), MOk K A' M' H' μ' → Ex Hv (vw A' M' μ' H') → Pre M1 M' → S μ' → ∀ i,
  (∀ w, items[i]? = some w → J.go i H' ∧ ∀ x H2, J.yld i H' x H2 → Ex H' H2 ∧ VR K (vw A' M' μ' H2) M' x w) ∧ (items[i]? = none → J.stop i H')
def AI (K : PySem.W.Frag) (wi : TI) (Γ : G) (μ : Mu) (R : List W → (Mu → Prop) → Mu → Prop) : Prop := ∀ (A : Addr → Prop) (M : List Addr) (σ : L2.St) (H : Hp), Cn K A M σ H Γ μ → ∀ Q : It → Hp → Prop,
  (∀ M' H' J items S μ', MOk K A M' H' μ' → Eff A M μ H M' μ' H' → ItOk K J (vw A M' μ' H') M' items S → R items S μ' → Q J H') → wi σ H Q
section
variable {K : PySem.W.Frag} {Γ : G} {μ : Mu} {tl te : TE} {ta : TA} {R : List W → (Mu → Prop) → Mu → Prop}
theorem ai_list (h : AX K tl Γ μ fun w μ1 => ∃ ws, LW μ1 w ws ∧ R ws (fun μ' => LW μ' w ws) μ1) : AI K (iList K tl) Γ μ R := fun A M σ H c Q q =>
  h A M σ H c _ fun M1 H1 v w μ1 mo1 e1 r1 ⟨ws, hl, hR⟩ => by
    obtain ⟨a, vs, rfl, hs, rs⟩ := hl.get mo1 r1
    refine ⟨a, rfl, ⟨vs, hs⟩, q M1 H1 _ ws _ μ1 mo1 e1 (fun A' M' H' μ' mo' ex pr hS i => ?_) hR⟩
    obtain ⟨a2, us, ea, hu, ru⟩ := LW.get mo' (r1.mono ex pr) hS
    cases ea
    refine ⟨fun w' hw => ?_, fun hn => ⟨us, hu, ?_⟩⟩
    · obtain ⟨y, hy, ry⟩ := ru.getW hw
      refine ⟨⟨us, y, hu, hy⟩, fun x H2 hx => ?_⟩
      obtain ⟨rfl, hx⟩ := hx
      have : y = x := Option.some.inj (hy.symm.trans (hx us hu))
      subst this
      exact ⟨Ex.refl _, ry⟩
    · rw [ru.length]
      exact List.getElem?_eq_none_iff.mp hn
theorem ai_tup (h : AX K tl Γ μ fun w μ1 => ∃ ws, TW w ws ∧ R ws (fun _ => True) μ1) : AI K (iTup K tl) Γ μ R := fun A M σ H c Q q =>
  h A M σ H c _ fun M1 H1 v w μ1 mo1 e1 r1 ⟨ws, hl, hR⟩ => by
    obtain ⟨a, vs, rfl, hs, rs⟩ := hl.get r1
    refine ⟨a, rfl, ⟨vs, Evl.ex_t vw_le hs⟩, q M1 H1 _ ws _ μ1 mo1 e1 (fun A' M' H' μ' mo' ex pr hS i => ?_) hR⟩
    have hu : SqT K H' a vs := Evl.ex_t vw_le (Evl.ex_t ex hs)
    have ru := rs.mono ex pr
    refine ⟨fun w' hw => ?_, fun hn => ⟨vs, hu, ?_⟩⟩
    · obtain ⟨y, hy, ry⟩ := ru.getW hw
      refine ⟨⟨vs, y, hu, hy⟩, fun x H2 hx => ?_⟩
      obtain ⟨rfl, hx⟩ := hx
      have : y = x := Option.some.inj (hy.symm.trans (hx vs hu))
      subst this
      exact ⟨Ex.refl _, ry⟩
    · rw [ru.length]
      exact List.getElem?_eq_none_iff.mp hn
theorem it_rng (lo : Int) (n : Nat) (Hv : Hp) (M1 : List Addr) : ItOk K (Itr lo n) Hv M1 ((List.range n).map fun (i : Nat) => W.d (.int (lo + i))) (fun _ => True) := fun A' M' H' μ' mo' ex pr hS i => by
  by_cases hi : i < n
  · have e : ((List.range n).map fun (i : Nat) => W.d (.int (lo + i)))[i]? = some (W.d (.int (lo + i))) := by
      rw [List.getElem?_map, List.getElem?_range hi]
      rfl
    refine ⟨fun w hw => ⟨hi, fun x H2 hx => ?_⟩, fun hn => by rw [e] at hn; cases hn⟩
    obtain ⟨rfl, rfl⟩ := hx
    rw [e] at hw
    cases hw
    exact ⟨Ex.refl _, .d (.int _)⟩
  · have e : ((List.range n).map fun (i : Nat) => W.d (.int (lo + i)))[i]? = none := by
      rw [List.getElem?_map, List.getElem?_eq_none_iff.mpr (by rw [List.length_range]; omega)]
      rfl
    exact ⟨fun w hw => (by rw [e] at hw; cases hw), fun _ => Nat.le_of_not_lt hi⟩
theorem ai_rng1 (h : AXA K ta Γ μ fun ws μ1 => ∃ j : Int, ws = [.d (.int j)] ∧ (-(2 ^ 62) ≤ j ∧ j < 2 ^ 62) ∧ R ((List.range j.toNat).map fun (i : Nat) => W.d (.int (0 + i))) (fun _ => True) μ1) : AI K (iRng1 ta) Γ μ R := fun A M σ H c Q q =>
  h A M σ H c _ fun M1 H1 vs ws μ1 mo1 e1 r1 ⟨j, hj, ⟨b1, b2⟩, hR⟩ => by
    subst hj
    cases r1 with
    | cons ra rn =>
      cases rn
      exact ⟨j, by rw [vr_int ra], b1, b2, q M1 H1 _ _ _ μ1 mo1 e1 (it_rng 0 j.toNat _ _) hR⟩
theorem ai_rng2 (h : AXA K ta Γ μ fun ws μ1 => ∃ i j : Int, ws = [.d (.int i), .d (.int j)] ∧ (-(2 ^ 62) ≤ i ∧ i < 2 ^ 62 ∧ -(2 ^ 62) ≤ j ∧ j < 2 ^ 62) ∧ R ((List.range (j - i).toNat).map fun (k : Nat) => W.d (.int (i + k))) (fun _ => True) μ1) : AI K (iRng2 ta) Γ μ R := fun A M σ H c Q q =>
  h A M σ H c _ fun M1 H1 vs ws μ1 mo1 e1 r1 ⟨i, j, hj, b, hR⟩ => by
    subst hj
    cases r1 with
    | cons ra rn =>
      cases rn with
      | cons rb rn =>
        cases rn
        exact ⟨i, j, by rw [vr_int ra, vr_int rb], b, q M1 H1 _ _ _ μ1 mo1 e1 (it_rng i (j - i).toNat _ _) hR⟩
theorem ai_str (h : AX K te Γ μ fun w μ1 => ∃ x : PySem.Str, w = .d (.str x) ∧ R (x.cps.toList.map fun c => W.d (.str ⟨#[c]⟩)) (fun _ => True) μ1) : AI K (iStr te) Γ μ R := fun A M σ H c Q q =>
  h A M σ H c _ fun M1 H1 v w μ1 mo1 e1 r1 ⟨x, hx, hR⟩ => by
    subst hx
    refine ⟨x, vr_str r1, q M1 H1 _ _ _ μ1 mo1 e1 (fun A' M' H' μ' mo' ex pr hS i => ?_) hR⟩
    have hz : x.cps.toList[i]? = x.cps[i]? := by simp
    refine ⟨fun w hw => ?_, fun hn => ?_⟩
    · rw [List.getElem?_map, hz] at hw
      cases hc : x.cps[i]? with
      | none => rw [hc] at hw; cases hw
      | some cc =>
        rw [hc] at hw
        cases hw
        refine ⟨(Array.getElem?_eq_some_iff.mp hc).1, fun y H2 hy => ?_⟩
        obtain ⟨rfl, c2, h2, rfl⟩ := hy
        rw [hc] at h2
        cases h2
        exact ⟨Ex.refl _, .d (.str _)⟩
    · rw [List.getElem?_map, hz] at hn
      have : x.cps[i]? = none := by
        cases hc : x.cps[i]? with
        | none => rfl
        | some cc => rw [hc] at hn; cases hn
      exact Array.getElem?_eq_none_iff.mp this
/-- a pair that was made on the way -/
def pairW : W → W → W
  | .d x, .d y => .d (.tuple [x, y])
  | a, b => .t [a, b]
theorem vr_pair {A : Addr → Prop} {M : List Addr} {H : Hp} {T : Addr} {x y : V} {a b : W} (mo : MOk K A M H μ) (hT : H T = none) (rx : VR K (vw A M μ H) M x a) (ry : VR K (vw A M μ H) M y b) : VR K (vw A M μ (upd H T (.tup [x, y]))) M (.ref T) (pairW a b) := by
  have hs : SqT K (vw A M μ (upd H T (.tup [x, y]))) T [x, y] := SqT.of (vw_of (mo.ne_hid hT) upd_same)
  have ex : Ex (vw A M μ H) (vw A M μ (upd H T (.tup [x, y]))) := vw_ex (Ex.new hT)
  have g : VRs K (vw A M μ (upd H T (.tup [x, y]))) M [x, y] [a, b] := .cons (rx.mono ex (Pre.refl _)) (.cons (ry.mono ex (Pre.refl _)) .nil)
  cases a with
  | d a =>
    cases b with
    | d b => exact .d (.tup hs (VRs.dp (ds := [a, b]) g))
    | m _ => exact .t hs g
    | t _ => exact .t hs g
    | f _ => exact .t hs g
    | k _ => exact .t hs g
  | m _ => exact .t hs g
  | t _ => exact .t hs g
  | f _ => exact .t hs g
  | k _ => exact .t hs g
theorem tw_pair (a b : W) : TW (pairW a b) [a, b] := by
  cases a with
  | d a =>
    cases b with
    | d b => exact .d [a, b]
    | m _ => exact .t _
    | t _ => exact .t _
    | f _ => exact .t _
    | k _ => exact .t _
  | m _ => exact .t _
  | t _ => exact .t _
  | f _ => exact .t _
  | k _ => exact .t _
theorem ai_enum (h : AXA K ta Γ μ fun ws μ1 => ∃ w zs, ws = [w] ∧ LW μ1 w zs ∧ R (zs.mapIdx fun i z => pairW (.d (.int (i : Nat))) z) (fun μ' => LW μ' w zs) μ1) : AI K (iEnum K ta) Γ μ R := fun A M σ H c Q q =>
  h A M σ H c _ fun M1 H1 vs ws μ1 mo1 e1 r1 ⟨w, zs, hw, hl, hR⟩ => by
    subst hw
    cases r1 with
    | cons ra rn =>
      cases rn
      obtain ⟨a, us, rfl, hs, rs⟩ := hl.get mo1 ra
      refine ⟨a, us, rfl, hs, q M1 H1 _ _ _ μ1 mo1 e1 (fun A' M' H' μ' mo' ex pr hS i => ?_) hR⟩
      obtain ⟨a2, us2, ea, hu, ru⟩ := LW.get mo' (ra.mono ex pr) hS
      cases ea
      refine ⟨fun w' hw => ?_, fun hn => ⟨us2, hu, ?_⟩⟩
      · rw [List.getElem?_mapIdx] at hw
        cases hz : zs[i]? with
        | none => rw [hz] at hw; cases hw
        | some z =>
          rw [hz] at hw
          cases hw
          obtain ⟨y, hy, ry⟩ := ru.getW hz
          refine ⟨⟨us2, y, hu, hy⟩, fun x H2 hx => ?_⟩
          obtain ⟨T, x2, rfl, hT, rfl, hx⟩ := hx
          have : y = x2 := Option.some.inj (hy.symm.trans (hx us2 hu))
          subst this
          exact ⟨Ex.new hT, vr_pair mo' hT (.d (.int _)) ry⟩
      · rw [List.getElem?_mapIdx] at hn
        have : zs[i]? = none := by
          cases hz : zs[i]? with
          | none => rfl
          | some z => rw [hz] at hn; cases hn
        rw [ru.length]
        exact List.getElem?_eq_none_iff.mp this
theorem ai_zip (h : AXA K ta Γ μ fun ws μ1 => ∃ w1 w2 xs ys, ws = [w1, w2] ∧ LW μ1 w1 xs ∧ LW μ1 w2 ys ∧ R (List.zipWith pairW xs ys) (fun μ' => LW μ' w1 xs ∧ LW μ' w2 ys) μ1) : AI K (iZip K ta) Γ μ R := fun A M σ H c Q q =>
  h A M σ H c _ fun M1 H1 vs ws μ1 mo1 e1 r1 ⟨w1, w2, zs, zs2, hw, hl1, hl2, hR⟩ => by
    subst hw
    cases r1 with
    | cons ra rn =>
      cases rn with
      | cons rb rn =>
        cases rn
        obtain ⟨a, us, rfl, hs, rs⟩ := hl1.get mo1 ra
        obtain ⟨b, us2, rfl, hs2, rs2⟩ := hl2.get mo1 rb
        refine ⟨a, b, us, us2, rfl, hs, hs2, q M1 H1 _ _ _ μ1 mo1 e1 (fun A' M' H' μ' mo' ex pr hS i => ?_) hR⟩
        obtain ⟨a2, u1, ea, hu, ru⟩ := LW.get mo' (ra.mono ex pr) hS.1
        cases ea
        obtain ⟨b2, u2, eb, hu2, ru2⟩ := LW.get mo' (rb.mono ex pr) hS.2
        cases eb
        refine ⟨fun w' hw => ?_, fun hn => ⟨u1, u2, hu, hu2, ?_⟩⟩
        · rw [List.getElem?_zipWith] at hw
          cases hz : zs[i]? with
          | none => rw [hz] at hw; cases hw
          | some z =>
            cases hz2 : zs2[i]? with
            | none => rw [hz, hz2] at hw; cases hw
            | some z2 =>
              rw [hz, hz2] at hw
              cases hw
              obtain ⟨y, hy, ry⟩ := ru.getW hz
              obtain ⟨y2, hy2, ry2⟩ := ru2.getW hz2
              refine ⟨⟨u1, u2, y, y2, hu, hu2, hy, hy2⟩, fun x H2 hx => ?_⟩
              obtain ⟨T, x2, x3, rfl, hT, rfl, hx, hx3⟩ := hx
              have : y = x2 := Option.some.inj (hy.symm.trans (hx u1 hu))
              subst this
              have : y2 = x3 := Option.some.inj (hy2.symm.trans (hx3 u2 hu2))
              subst this
              exact ⟨Ex.new hT, vr_pair mo' hT ry ry2⟩
        · rw [List.getElem?_zipWith] at hn
          rw [ru.length, ru2.length]
          by_cases h1 : i < zs.length
          · by_cases h2 : i < zs2.length
            · rw [List.getElem?_eq_getElem h1, List.getElem?_eq_getElem h2] at hn
              cases hn
            · exact .inr (by omega)
          · exact .inl (by omega)
theorem ai_rev (h : AXA K ta Γ μ fun ws μ1 => ∃ w zs, ws = [w] ∧ LW μ1 w zs ∧ R zs.reverse (fun μ' => LW μ' w zs) μ1) : AI K (iRev K ta) Γ μ R := fun A M σ H c Q q =>
  h A M σ H c _ fun M1 H1 vs ws μ1 mo1 e1 r1 ⟨w, zs, hw, hl, hR⟩ => by
    subst hw
    cases r1 with
    | cons ra rn =>
      cases rn
      obtain ⟨a, us, rfl, hs, rs⟩ := hl.get mo1 ra
      refine ⟨a, us, rfl, hs, q M1 H1 _ _ _ μ1 mo1 e1 (fun A' M' H' μ' mo' ex pr hS i => ?_) hR⟩
      obtain ⟨a2, us2, ea, hu, ru⟩ := LW.get mo' (ra.mono ex pr) hS
      cases ea
      have hl2 : us.length = zs.length := rs.length
      refine ⟨fun w' hw => ?_, fun hn => ?_⟩
      · have hi : i < zs.length := by
          have := (List.getElem?_eq_some_iff.mp hw).1
          simpa using this
        rw [List.getElem?_reverse hi] at hw
        obtain ⟨y, hy, ry⟩ := ru.getW hw
        refine ⟨⟨by omega, us2, y, hu, by rw [hl2]; exact hy⟩, fun x H2 hx => ?_⟩
        obtain ⟨rfl, hx⟩ := hx
        have hx2 := hx us2 hu
        rw [hl2] at hx2
        have : y = x := Option.some.inj (hy.symm.trans hx2)
        subst this
        exact ⟨Ex.refl _, ry⟩
      · have := List.getElem?_eq_none_iff.mp hn
        show us.length ≤ i
        rw [hl2]
        simpa using this
end
/-! ### loops -/
theorem take_snoc {α : Type} {ns : List α} {i : Nat} {x : α} (h : ns[i]? = some x) : ns.take (i + 1) = ns.take i ++ [x] := by
  rw [List.take_add_one, h]
  rfl
theorem split_at {α : Type} {ns : List α} {i : Nat} {x : α} (h : ns[i]? = some x) : ns = ns.take i ++ x :: ns.drop (i + 1) := by
  obtain ⟨hi, e⟩ := List.getElem?_eq_some_iff.mp h
  rw [← e, ← List.drop_eq_getElem_cons hi, List.take_append_drop]
theorem as_for {K : PySem.W.Frag} {Γ : G} {μ : Mu} {wi : TI} {g : TG} {tb : TS} {D : AEn} {α : Type} (f : α → W) (ns : List α) (I : List α → G → Mu → Prop)
    (h : AI K wi Γ μ fun items S μ1 => items = ns.map f ∧ (∀ pre Γ' μ', I pre Γ' μ' → S μ') ∧ I [] Γ μ1)
    (hs : ∀ pre x post Γ' μ', ns = pre ++ x :: post → I pre Γ' μ' → AG K g (f x) Γ' μ' fun Γ2 μ2 => AS K tb { D with nx := I (pre ++ [x]), ct := I (pre ++ [x]), bk := D.nx } Γ2 μ2)
    (hd : ∀ Γ' μ', I ns Γ' μ' → D.nx Γ' μ') : AS K (tFor wi g tb) D Γ μ := fun A M σ H cn E hE =>
  h A M σ H cn _ fun M1 H1 J items S μ1 mo1 e1 hJ ⟨hi, hS, h0⟩ => by
    subst hi
    refine ⟨fun i m σ' H' => ∃ M' Γ' μ', Cn K A M' σ' H' Γ' μ' ∧ Eff A M1 μ1 H1 M' μ' H' ∧ i ≤ ns.length ∧ m = ns.length - i ∧ I (ns.take i) Γ' μ',
      ⟨ns.length, M1, Γ, μ1, cn.eff e1 mo1, Eff.refl, Nat.zero_le _, rfl, h0⟩, fun i m σ' H' hW => ?_⟩
    obtain ⟨M', Γ', μ', c', e', hi, rfl, hI⟩ := hW
    have hit := hJ A M' H' μ' c'.mo e'.ex e'.pre (hS _ _ _ hI) i
    by_cases hlt : i < ns.length
    · have hx : ns[i]? = some ns[i] := List.getElem?_eq_getElem hlt
      have hw : (ns.map f)[i]? = some (f ns[i]) := by rw [List.getElem?_map, hx]; rfl
      obtain ⟨hgo, hy⟩ := hit.1 _ hw
      refine .inr ⟨hgo, fun σ2 H2 => ∃ M2 Γ2 μ2, Cn K A M2 σ2 H2 Γ2 μ2 ∧ Eff A M1 μ1 H1 M2 μ2 H2 ∧ I (ns.take (i + 1)) Γ2 μ2,
        fun σ2 H2 ⟨M2, Γ2, μ2, c2, e2, hI2⟩ => ⟨ns.length - (i + 1), by omega, M2, Γ2, μ2, c2, e2, hlt, rfl, hI2⟩, fun x H2 hyld => ?_⟩
      obtain ⟨ex2, rx⟩ := hy x H2 hyld
      have e2' : Eff A M' μ' H' M' μ' H2 := Eff.of_ex ex2
      refine hs (ns.take i) ns[i] (ns.drop (i + 1)) Γ' μ' (split_at hx) hI A M' σ' H2 x (c'.ex ex2) rx _ fun M3 σ3 H3 Γ3 μ3 c3 e3 h3 => ?_
      have e13 : Eff A M1 μ1 H1 M3 μ3 H3 := (e'.trans e2').trans e3
      refine h3 A M3 σ3 H3 c3 _ ⟨fun M4 σ4 H4 Γ4 μ4 c4 e4 h4 => ?_, fun M4 H4 v w μ4 m4 e4 r4 h4 => hE.rt M4 H4 v w μ4 m4 ((e1.trans e13).trans e4) r4 h4, fun M4 σ4 H4 Γ4 μ4 c4 e4 h4 => hE.nx M4 σ4 H4 Γ4 μ4 c4 ((e1.trans e13).trans e4) h4, fun M4 σ4 H4 Γ4 μ4 c4 e4 h4 => ?_, hE.xx.after (e1.trans e13)⟩
      · refine ⟨M4, Γ4, μ4, c4, e13.trans e4, ?_⟩
        rw [take_snoc hx]
        exact h4
      · refine ⟨M4, Γ4, μ4, c4, e13.trans e4, ?_⟩
        rw [take_snoc hx]
        exact h4
    · have hei : i = ns.length := by omega
      subst hei
      refine .inl ⟨hit.2 (by simp), ?_⟩
      rw [List.take_length] at hI
      exact hE.nx M' σ' H' Γ' μ' c' (e1.trans e') (hd Γ' μ' hI)
theorem as_while {K : PySem.W.Frag} {Γ : G} {μ : Mu} {c : TT} {tb : TS} {D : AEn} (I : Nat → G → Mu → Prop) (m0 : Nat) (h0 : I m0 Γ μ)
    (hs : ∀ m Γ' μ', I m Γ' μ' → AXT K c Γ' μ' fun b μ1 => if b = true then AS K tb { D with nx := fun Γ2 μ2 => ∃ m', m' < m ∧ I m' Γ2 μ2, ct := fun Γ2 μ2 => ∃ m', m' < m ∧ I m' Γ2 μ2, bk := D.nx } Γ' μ1 else D.nx Γ' μ1) : AS K (tWhile c tb) D Γ μ := fun A M σ H cn E hE => by
  refine ⟨fun m σ' H' => ∃ M' Γ' μ', Cn K A M' σ' H' Γ' μ' ∧ Eff A M μ H M' μ' H' ∧ I m Γ' μ', ⟨m0, M, Γ, μ, cn, Eff.refl, h0⟩, fun m σ' H' ⟨M', Γ', μ', c', e', hI⟩ => ?_⟩
  refine hs m Γ' μ' hI A M' σ' H' c' _ fun M1 H1 b μ1 mo1 e1 h1 => ?_
  cases b with
  | true =>
    refine ⟨fun σ2 H2 => ∃ m', m' < m ∧ ∃ M2 Γ2 μ2, Cn K A M2 σ2 H2 Γ2 μ2 ∧ Eff A M μ H M2 μ2 H2 ∧ I m' Γ2 μ2, fun σ2 H2 h => h, ?_⟩
    have e2 := e'.trans e1
    have hb : AS K tb { D with nx := fun Γ2 μ2 => ∃ m', m' < m ∧ I m' Γ2 μ2, ct := fun Γ2 μ2 => ∃ m', m' < m ∧ I m' Γ2 μ2, bk := D.nx } Γ' μ1 := h1
    refine hb A M1 σ' H1 (c'.eff e1 mo1) _ ⟨fun M4 σ4 H4 Γ4 μ4 c4 e4 ⟨m', hm, h4⟩ => ⟨m', hm, M4, Γ4, μ4, c4, e2.trans e4, h4⟩, fun M4 H4 v w μ4 m4 e4 r4 h4 => hE.rt M4 H4 v w μ4 m4 (e2.trans e4) r4 h4, fun M4 σ4 H4 Γ4 μ4 c4 e4 h4 => hE.nx M4 σ4 H4 Γ4 μ4 c4 (e2.trans e4) h4, fun M4 σ4 H4 Γ4 μ4 c4 e4 ⟨m', hm, h4⟩ => ⟨m', hm, M4, Γ4, μ4, c4, e2.trans e4, h4⟩, hE.xx.after e2⟩
  | false => exact hE.nx M1 σ' H1 Γ' μ1 (c'.eff e1 mo1) (e'.trans e1) h1
/-! ### comprehensions -/
def wipeG (Γ : G) (vs : List Nat) : G := vs.foldr (fun v g => g.set v none) Γ
def WipeOk (g : TG) (vs : List Nat) : Prop := ∀ x σ H Q, g x (wipe σ vs) H Q → g x (wipe σ vs) H fun σ' H' => wipe σ' vs = wipe σ vs ∧ Q σ' H'
theorem wipe_get (σ : L2.St) : ∀ (vs : List Nat) (i : Nat), (wipe σ vs)[i]? = if i ∈ vs then (if i < σ.length then some none else none) else σ[i]?
  | [], i => by simp [wipe]
  | v :: vs, i => by
    unfold wipe
    rw [List.getElem?_set, wipe_length, wipe_get σ vs i]
    by_cases h : v = i
    · subst h
      simp
    · have h2 : ¬ i = v := fun z => h z.symm
      simp [h, h2]
theorem wipe_set {σ : L2.St} {vs : List Nat} {σ' : L2.St} (hl : σ'.length = σ.length) (h : ∀ i, i ∉ vs → σ'[i]? = (wipe σ vs)[i]?) : wipe σ' vs = wipe σ vs := by
  apply List.ext_getElem?
  intro i
  rw [wipe_get σ' vs i, hl]
  by_cases hi : i ∈ vs
  · rw [if_pos hi, wipe_get, if_pos hi]
  · rw [if_neg hi, h i hi]
theorem wk_name {j : Nat} {vs : List Nat} (hj : j ∈ vs) : WipeOk (gName j) vs := fun x σ H Q q => ⟨wipe_set (by rw [List.length_set, wipe_length]) (fun i hi => by
  rw [List.getElem?_set, if_neg fun z => hi (by rw [← z]; exact hj)]), q⟩
/-- the same for a list of targets, from any σ that differs at vs alone -/
def WipeGs (gs : TGs) (vs : List Nat) : Prop := ∀ xs σ σ0 H Q, σ.length = σ0.length → (∀ i, i ∉ vs → σ[i]? = (wipe σ0 vs)[i]?) → gs xs σ H Q → gs xs σ H fun σ' H' => wipe σ' vs = wipe σ0 vs ∧ Q σ' H'
theorem wks_nil {vs : List Nat} : WipeGs gNil vs := fun xs σ σ0 H Q hl hs ⟨e, q⟩ => ⟨e, wipe_set hl hs, q⟩
theorem wks_cons {j : Nat} {gs : TGs} {vs : List Nat} (hj : j ∈ vs) (h : WipeGs gs vs) : WipeGs (gCons (gName j) gs) vs := fun xs σ σ0 H Q hl hs ⟨v, r, e, q⟩ => ⟨v, r, e, h r _ σ0 H Q (by rw [List.length_set]; exact hl) (fun i hi => by
  rw [List.getElem?_set, if_neg fun z => hi (by rw [← z]; exact hj)]
  exact hs i hi) q⟩
theorem wk_tup {K : PySem.W.Frag} {n : Nat} {gs : TGs} {vs : List Nat} (h : WipeGs gs vs) : WipeOk (gTup K n gs) vs := fun x σ H Q ⟨a, xs, e, hs, hl, q⟩ => ⟨a, xs, e, hs, hl, h xs _ σ H Q (wipe_length _ _) (fun _ _ => rfl) q⟩
def delH (H : Hp) (a : Addr) : Hp := fun b => if b = a then none else H b
theorem tabS_del {H : Hp} {P p : Addr} {q : PySem.Str} {o : HO} (t : LamX.TabS H P q) (hp : H p = some o) (n : NoTb o) : LamX.TabS (delH H p) P q := by
  have t' := tabS_upd (o' := .lst []) t hp n
  obtain ⟨ps, e1, e2, e3⟩ := t'
  have dn : ∀ {a : Addr} {u : HO}, upd H p (.lst []) a = some u → u ≠ .lst [] → delH H p a = some u := fun {a u} z w => by
    unfold delH
    by_cases e : a = p
    · subst e
      rw [upd_same] at z
      exact absurd (Option.some.inj z).symm w
    · rw [if_neg e]
      rwa [upd_ne e] at z
  exact ⟨ps, dn e1 (by intro z; cases z), e2, fun pos cv hc => let ⟨c, z1, z2⟩ := e3 pos cv hc; ⟨c, z1, dn z2 (by intro z; unfold LamX.CodeO at z; cases z)⟩⟩
theorem delH_upd {H : Hp} {a : Addr} {o : HO} (h : H a = some o) : upd (delH H a) a o = H := by
  funext b
  unfold upd delH
  by_cases e : b = a
  · subst e; rw [if_pos rfl, h]
  · rw [if_neg e, if_neg e]
def addA (A : Addr → Prop) (p : Addr) : Addr → Prop := fun a => A a ∨ a = p
theorem vw_add {A : Addr → Prop} {M : List Addr} {μ : Mu} {H : Hp} {p : Addr} : vw (addA A p) M μ H = vw A M μ (delH H p) := by
  funext b
  unfold vw delH
  have hh : hid (addA A p) M μ b ↔ hid A M μ b ∨ b = p := by
    constructor
    · rintro ((z | z) | z)
      · exact .inl (.inl z)
      · exact .inr z
      · exact .inl (.inr z)
    · rintro ((z | z) | z)
      · exact .inl (.inl z)
      · exact .inr z
      · exact .inl (.inr z)
  by_cases e : b = p
  · subst e
    rw [if_pos (hh.mpr (.inr rfl)), if_pos rfl]
    split <;> rfl
  · rw [if_neg e]
    by_cases hb : hid A M μ b
    · rw [if_pos hb, if_pos (hh.mpr (.inl hb))]
    · rw [if_neg hb, if_neg fun z => (hh.mp z).elim hb e]
theorem MOk.add {K : PySem.W.Frag} {A : Addr → Prop} {M : List Addr} {μ : Mu} {H : Hp} {p : Addr} {o : HO} (h : MOk K A M H μ) (hp : H p = none) (no : NoTb o := by first | exact noTb_lst | exact noTb_dK) : MOk K (addA A p) M (upd H p o) μ := by
  have np : p ∉ M := fun m => h.al p m hp
  have nn : ∀ a, H a ≠ none → upd H p o a ≠ none := fun a hn => by
    rw [upd_ne fun z => hn (by rw [z]; exact hp)]
    exact hn
  have ed : delH (upd H p o) p = H := by
    funext b
    unfold delH upd
    by_cases e : b = p
    · subst e; rw [if_pos rfl, hp]
    · rw [if_neg e, if_neg e]
  refine ⟨h.len, h.nd, fun a m z => z.elim (h.nA a m) fun z => np (by rw [← z]; exact m), fun a m => nn a (h.al a m), fun a m => m.elim (fun m => nn a (h.aA a m)) fun z => (by subst z; rw [upd_same]; intro q; cases q), h.tb.ex (Ex.new hp), fun a u m z => (by
    by_cases w : a = p
    · subst w; rw [upd_same] at z; cases z; exact no
    · rw [upd_ne w] at z; exact h.aT a u (m.imp (fun m => m.resolve_right w) id) z), fun k a c h1 h2 => ?_⟩
  obtain ⟨u, q1, q2⟩ := h.ct k a c h1 h2
  refine ⟨u, by rw [upd_ne (ne_of_none q1 hp)]; exact q1, ?_⟩
  rw [vw_add, ed]
  exact q2
theorem MOk.del {K : PySem.W.Frag} {A : Addr → Prop} {M : List Addr} {μ : Mu} {H : Hp} {p : Addr} (h : MOk K (addA A p) M H μ) (hA : ¬ A p) {op : HO} (hop : H p = some op) (no : NoTb op) : MOk K A M (delH H p) μ := by
  have np : p ∉ M := fun m => h.nA p m (.inr rfl)
  have dn : ∀ a, a ≠ p → delH H p a = H a := fun a e => by unfold delH; rw [if_neg e]
  refine ⟨h.len, h.nd, fun a m z => h.nA a m (.inl z), fun a m => by rw [dn a fun z => np (by rw [← z]; exact m)]; exact h.al a m, fun a z => by rw [dn a fun q => hA (by rw [← q]; exact z)]; exact h.aA a (.inl z), fun P q hP => tabS_del (h.tb P q hP) hop no, fun a u m z => h.aT a u (m.imp .inl id) (by rw [dn a fun q => m.elim (fun m => hA (by rw [← q]; exact m)) fun m => np (by rw [← q]; exact m)] at z; exact z), fun k a c h1 h2 => ?_⟩
  obtain ⟨u, q1, q2⟩ := h.ct k a c h1 h2
  refine ⟨u, by rw [dn a fun z => np (by rw [← z]; exact List.mem_of_getElem? h1)]; exact q1, ?_⟩
  rw [← vw_add]
  exact q2
theorem Eff.del {A : Addr → Prop} {M M' : List Addr} {μ μ' : Mu} {H H' : Hp} {p : Addr} {o : HO} (hp : H p = none) (h : Eff (addA A p) M μ (upd H p o) M' μ' H') : Eff A M μ H M' μ' (delH H' p) := by
  have ed : delH (upd H p o) p = H := by
    funext b
    unfold delH upd
    by_cases e : b = p
    · subst e; rw [if_pos rfl, hp]
    · rw [if_neg e, if_neg e]
  refine ⟨h.pre, fun a u ha e => ?_, ?_⟩
  · have ne : a ≠ p := ne_of_none e hp
    unfold delH
    rw [if_neg ne]
    exact h.own a u (.inl ha) (by rw [upd_ne ne]; exact e)
  · have := h.ex
    rw [vw_add, vw_add, ed] at this
    exact this
theorem delH_upd2 {H : Hp} {p : Addr} {o : HO} : delH (upd H p o) p = delH H p := by
  funext b
  unfold delH upd
  by_cases e : b = p
  · rw [if_pos e, if_pos e]
  · rw [if_neg e, if_neg e, if_neg e]
theorem delH_none {H : Hp} {p : Addr} (hp : H p = none) : delH H p = H := by
  funext b
  unfold delH
  by_cases e : b = p
  · subst e; rw [if_pos rfl, hp]
  · rw [if_neg e]
theorem Eff.del2 {A : Addr → Prop} {M M' : List Addr} {μ μ' : Mu} {H H' : Hp} {p : Addr} (h : Eff (addA A p) M μ H M' μ' H') : Eff A M μ (delH H p) M' μ' (delH H' p) := by
  refine ⟨h.pre, fun a u ha e => ?_, by have := h.ex; rw [vw_add, vw_add] at this; exact this⟩
  unfold delH at e ⊢
  by_cases ne : a = p
  · rw [if_pos ne] at e
    cases e
  · rw [if_neg ne] at e ⊢
    exact h.own a u (.inl ha) e
theorem GR.wipeG {K : PySem.W.Frag} {H : Hp} {M : List Addr} {σ : L2.St} {Γ : G} (h : GR K H M σ Γ) (vs : List Nat) : GR K H M (L2.wipe σ vs) (Pd.wipeG Γ vs) := h.wipe vs
theorem MOk.wr {K : PySem.W.Frag} {A : Addr → Prop} {M : List Addr} {μ : Mu} {H : Hp} {p : Addr} {o : HO} (h : MOk K (addA A p) M H μ) {op : HO} (hop : H p = some op) (nop : NoTb op) (no : NoTb o := by first | exact noTb_lst | exact noTb_dK) : MOk K (addA A p) M (upd H p o) μ := by
  have np : p ∉ M := fun m => h.nA p m (.inr rfl)
  have dn : ∀ a, H a ≠ none → upd H p o a ≠ none := fun a hn => by
    by_cases e : a = p
    · subst e; rw [upd_same]; intro z; cases z
    · rw [upd_ne e]; exact hn
  refine ⟨h.len, h.nd, h.nA, fun a m => dn a (h.al a m), fun a m => dn a (h.aA a m), h.tb.upd hop nop, fun a u m z => (by
    by_cases e : a = p
    · subst e; rw [upd_same] at z; cases z; exact no
    · rw [upd_ne e] at z; exact h.aT a u m z), fun k a c k1 k2 => ?_⟩
  obtain ⟨u, q1, q2⟩ := h.ct k a c k1 k2
  refine ⟨u, ?_, by rw [vw_add, delH_upd2, ← vw_add]; exact q2⟩
  rw [upd_ne fun z => np (by rw [← z]; exact List.mem_of_getElem? k1)]
  exact q1
/-- the state within a comprehension whose list stands at p -/
def LcI (K : PySem.W.Frag) (A : Addr → Prop) (M1 : List Addr) (μ1 : Mu) (H1 : Hp) (p : Addr) (P : List W → Mu → Prop) (H' : Hp) : Prop :=
  ∃ M' μ' us acc, H' p = some (.lst us) ∧ MOk K (addA A p) M' H' μ' ∧ Eff A M1 μ1 H1 M' μ' (delH H' p) ∧ VRs K (vw (addA A p) M' μ' H') M' us acc ∧ P acc μ'
theorem ax_lc {K : PySem.W.Frag} {Γ : G} {μ : Mu} {wi : TI} {g : TG} {tt : TT} {te : TE} {vs : List Nat} {R : W → Mu → Prop} {α : Type} (f : α → W) (ns : List α) (I : List α → List W → Mu → Prop) (hz : ns.length ≤ sizeLine) (hw : WipeOk g vs)
    (h : AI K wi Γ μ fun items S μ1 => items = ns.map f ∧ (∀ pre acc μ', I pre acc μ' → S μ') ∧ I [] [] μ1)
    (hs : ∀ pre x post acc μ', ns = pre ++ x :: post → acc.length ≤ pre.length → I pre acc μ' → AG K g (f x) (wipeG Γ vs) μ' fun Γ2 μ2 => AXT K tt Γ2 μ2 fun b μ3 => if b = true then AX K te Γ2 μ3 fun w μ4 => I (pre ++ [x]) (acc ++ [w]) μ4 else I (pre ++ [x]) acc μ3)
    (hd : ∀ acc μ', I ns acc μ' → NL acc μ' R) : AX K (tLc wi g tt te vs) Γ μ R := fun A M σ H cn Q q =>
  h A M σ H cn _ fun M1 H1 J items S μ1 mo1 e1 hJ ⟨hi, hS, h0⟩ => by
    subst hi
    intro p hp
    have hA : ¬ A p := fun z => mo1.aA p z hp
    refine ⟨fun i m H' => i ≤ ns.length ∧ m = ns.length - i ∧ LcI K A M1 μ1 H1 p (fun acc μ' => acc.length ≤ i ∧ I (ns.take i) acc μ') H',
      ⟨ns.length, Nat.zero_le _, rfl, M1, μ1, [], [], upd_same, mo1.add hp, by rw [delH_upd2, delH_none hp]; exact Eff.refl, .nil, Nat.le_refl _, h0⟩, fun i m H' hW => ?_⟩
    obtain ⟨hi, rfl, M', μ', us, acc, hu, mo', e', ru, hal, hI⟩ := hW
    have hex : Ex (vw A M1 μ1 H1) (vw (addA A p) M' μ' H') := by
      rw [vw_add]
      exact e'.ex
    have hit := hJ (addA A p) M' H' μ' mo' hex e'.pre (hS _ _ _ hI) i
    by_cases hlt : i < ns.length
    · have hx : ns[i]? = some ns[i] := List.getElem?_eq_getElem hlt
      have hw' : (ns.map f)[i]? = some (f ns[i]) := by rw [List.getElem?_map, hx]; rfl
      obtain ⟨hgo, hy⟩ := hit.1 _ hw'
      refine .inr ⟨hgo, LcI K A M1 μ1 H1 p (fun acc μ' => acc.length ≤ i + 1 ∧ I (ns.take (i + 1)) acc μ'), fun H2 h2 => ⟨ns.length - (i + 1), by omega, hlt, rfl, h2⟩, fun x H2 hyld => ?_⟩
      obtain ⟨ex2, rx⟩ := hy x H2 hyld
      have eH2 : Eff (addA A p) M' μ' H' M' μ' H2 := Eff.of_ex ex2
      have c0 : GR K (vw A M1 μ1 H1) M1 (wipe σ vs) (wipeG Γ vs) := (cn.gr.mono e1.ex e1.pre).wipeG vs
      have c2 : Cn K (addA A p) M' (wipe σ vs) H2 (wipeG Γ vs) μ' := ⟨mo'.ex ex2, (c0.mono hex e'.pre).mono (vw_ex ex2) (Pre.refl _)⟩
      have hlen : (ns.take i).length = i := by rw [List.length_take]; omega
      refine hw x σ H2 _ ?_
      refine hs (ns.take i) ns[i] (ns.drop (i + 1)) acc μ' (split_at hx) (by omega) hI (addA A p) M' (wipe σ vs) H2 x c2 rx _ fun M3 σ3 H3 Γ3 μ3 c3 e3 h3 => ?_
      refine h3 (addA A p) M3 σ3 H3 c3 _ fun M4 H4 b μ4 mo4 e4 h4 => ?_
      have eA : Eff (addA A p) M' μ' H' M4 μ4 H4 := (eH2.trans e3).trans e4
      have hu4 : H4 p = some (.lst us) := eA.own p _ (.inr rfl) hu
      cases b with
      | false =>
        refine ⟨M4, μ4, us, acc, hu4, mo4, e'.trans eA.del2, ru.mono eA.ex eA.pre, by omega, ?_⟩
        rw [take_snoc hx]
        exact h4
      | true =>
        refine h4 (addA A p) M4 σ3 H4 (c3.eff e4 mo4) _ fun M5 H5 y w μ5 mo5 e5 r5 h5 => ?_
        have eB : Eff (addA A p) M' μ' H' M5 μ5 H5 := eA.trans e5
        have hu5 : H5 p = some (.lst us) := eB.own p _ (.inr rfl) hu
        have rus : VRs K (vw (addA A p) M5 μ5 H5) M5 (us ++ [y]) (acc ++ [w]) := (ru.mono eB.ex eB.pre).snoc r5
        refine ⟨us, hu5, ?_, M5, μ5, us ++ [y], acc ++ [w], upd_same, mo5.wr hu5 noTb_lst, ?_, ?_, by simp; omega, ?_⟩
        · rw [ru.length]
          omega
        · rw [delH_upd2]
          exact e'.trans eB.del2
        · rw [vw_add, delH_upd2, ← vw_add]
          exact rus
        · rw [take_snoc hx]
          exact h5
    · have hei : i = ns.length := by omega
      subst hei
      refine .inl ⟨hit.2 (by simp), ?_⟩
      rw [List.take_length] at hI
      have md := mo'.del hA hu noTb_lst
      have rd : VRs K (vw A M' μ' (delH H' p)) M' us acc := by
        rw [← vw_add]
        exact ru
      obtain ⟨M2, μ2, w, m2, e2, r2, hR⟩ := (hd acc μ' hI).use md rd (show delH H' p p = none from if_pos rfl)
      rw [delH_upd hu] at m2 e2 r2
      exact q M2 H' _ w μ2 m2 ((e1.trans e').trans e2) r2 hR
/-! ### a cell that changes no more -/
theorem hid_dead {A : Addr → Prop} {M : List Addr} {μ : Mu} {k : Nat} {a : Addr} (h : hid A M (μ.set k none) a) : hid A M μ a := by
  rcases h with z | ⟨j, c, h1, h2⟩
  · exact .inl z
  · by_cases e : k = j
    · subst e
      rw [List.getElem?_set, if_pos rfl] at h2
      split at h2 <;> cases h2
    · rw [List.getElem?_set, if_neg e] at h2
      exact .inr ⟨j, c, h1, h2⟩
theorem vw_dead {A : Addr → Prop} {M : List Addr} {μ : Mu} {H : Hp} {k : Nat} : Ex (vw A M μ H) (vw A M (μ.set k none) H) := fun a o h => vw_of (fun z => (vw_some h).1 (hid_dead z)) (vw_some h).2 (vw_nt h)
theorem MOk.dead {K : PySem.W.Frag} {A : Addr → Prop} {M : List Addr} {μ : Mu} {H : Hp} (h : MOk K A M H μ) (k : Nat) : MOk K A M H (μ.set k none) := by
  refine ⟨by rw [List.length_set]; exact h.len, h.nd, h.nA, h.al, h.aA, h.tb, h.aT, fun j a c h1 h2 => ?_⟩
  by_cases e : k = j
  · subst e
    rw [List.getElem?_set, if_pos rfl] at h2
    split at h2 <;> cases h2
  · rw [List.getElem?_set, if_neg e] at h2
    obtain ⟨o, q1, q2⟩ := h.ct j a c h1 h2
    exact ⟨o, q1, q2.mono vw_dead (Pre.refl _)⟩
theorem Eff.dead {A : Addr → Prop} {M : List Addr} {μ : Mu} {H : Hp} (k : Nat) : Eff A M μ H M (μ.set k none) H := ⟨Pre.refl _, fun _ _ _ h => h, vw_dead⟩
theorem vr_dead {K : PySem.W.Frag} {A : Addr → Prop} {M : List Addr} {μ : Mu} {H : Hp} {k : Nat} {xs : List PyData} {v : V} (mo : MOk K A M H μ) (r : VR K (vw A M μ H) M v (.m k)) (hk : μ[k]? = some (some (.lst (xs.map W.d)))) : VR K (vw A M (μ.set k none) H) M v (.d (.list xs)) := by
  obtain ⟨a, vs, rfl, hm, e, ru⟩ := cell_get mo r hk
  refine .d (.lst (vw_of (fun z => ?_) e) (dpa_mono vw_dead ru.dp))
  rcases z with z | ⟨j, c, h1, h2⟩
  · exact mo.nA a (List.mem_of_getElem? hm) z
  · have hj : k = j := by
      have l1 := List.getElem?_eq_some_iff.mp hm
      have l2 := List.getElem?_eq_some_iff.mp h1
      exact (List.getElem_inj mo.nd).mp (l1.2.trans l2.2.symm)
    subst hj
    rw [List.getElem?_set, if_pos rfl] at h2
    split at h2 <;> cases h2
/-- the name is read and its list changes no more -/
theorem ax_varF {K : PySem.W.Frag} {Γ : G} {μ : Mu} {R : W → Mu → Prop} {i k : Nat} {xs : List PyData} (h : Γ[i]? = some (some (.m k))) (hk : μ[k]? = some (some (.lst (xs.map W.d)))) (q : R (.d (.list xs)) (μ.set k none)) : AX K (tVar i) Γ μ R := fun A M σ H c Q hq => by
  obtain ⟨v, e, r⟩ := c.gr.2 i _ h
  exact ⟨v, e, hq M H v _ _ (c.mo.dead k) (Eff.dead k) (vr_dead c.mo r hk) q⟩
/-- the same as a step between statements -/
theorem as_freeze {K : PySem.W.Frag} {Γ : G} {μ : Mu} {t : TS} {D : AEn} (i k : Nat) (xs : List PyData) (h : Γ[i]? = some (some (.m k))) (hk : μ[k]? = some (some (.lst (xs.map W.d)))) (q : AS K t D (Γ.set i (some (.d (.list xs)))) (μ.set k none)) : AS K t D Γ μ := fun A M σ H c E hE => by
  obtain ⟨v, e, r⟩ := c.gr.2 i _ h
  have g1 : GR K (vw A M (μ.set k none) H) M (σ.set i (some v)) (Γ.set i (some (.d (.list xs)))) := (c.gr.mono vw_dead (Pre.refl _)).set (vr_dead c.mo r hk)
  have es : σ.set i (some v) = σ := by
    apply List.ext_getElem?
    intro j
    rw [List.getElem?_set]
    by_cases hj : i = j
    · subst hj
      rw [if_pos rfl, if_pos (List.getElem?_eq_some_iff.mp e).1, e]
    · rw [if_neg hj]
  rw [es] at g1
  exact q A M σ H ⟨c.mo.dead k, g1⟩ E (hE.after (Eff.dead k))
/-- a name is forgotten -/
theorem as_forget {K : PySem.W.Frag} {Γ : G} {μ : Mu} {t : TS} {D : AEn} (Γ' : G) (hl : Γ'.length = Γ.length) (h : ∀ (i : Nat) w, Γ'[i]? = some (some w) → Γ[i]? = some (some w)) (q : AS K t D Γ' μ) : AS K t D Γ μ := fun A M σ H c E hE =>
  q A M σ H ⟨c.mo, by rw [c.gr.1, hl], fun i w e => c.gr.2 i w (h i w e)⟩ E hE
theorem as_weak {K : PySem.W.Frag} {Γ : G} {μ : Mu} {t : TS} {D D' : AEn} (h : AS K t D Γ μ) (n : ∀ g m, D.nx g m → D'.nx g m) (r : ∀ w m, D.rt w m → D'.rt w m) (b : ∀ g m, D.bk g m → D'.bk g m) (c : ∀ g m, D.ct g m → D'.ct g m) (xe : D.xw = D'.xw := by rfl) (xi : ∀ x w g m, D.xc x w g m → D'.xc x w g m := by exact fun _ _ _ _ z => z) : AS K t D' Γ μ := fun A M σ H cn E hE =>
  h A M σ H cn E ⟨fun _ _ _ _ _ x e z => hE.nx _ _ _ _ _ x e (n _ _ z), fun _ _ _ _ _ x e y z => hE.rt _ _ _ _ _ x e y (r _ _ z), fun _ _ _ _ _ x e z => hE.bk _ _ _ _ _ x e (b _ _ z), fun _ _ _ _ _ x e z => hE.ct _ _ _ _ _ x e (c _ _ z), by
    rw [xe]
    exact fun _ _ _ _ _ _ _ _ _ h1 h2 h3 h4 => hE.xx _ _ _ _ _ _ _ _ _ h1 h2 h3 (xi _ _ _ _ h4)⟩
/-- a statement, what holds behind it, the rest from there -/
theorem as_cut {K : PySem.W.Frag} {Γ : G} {μ : Mu} {t u : TS} {D : AEn} (Mid : G → Mu → Prop) (h : AS K t { D with nx := Mid } Γ μ) (k : ∀ Γ1 μ1, Mid Γ1 μ1 → AS K u D Γ1 μ1) : AS K (tSeq t u) D Γ μ := as_seq (as_weak h k (fun _ _ z => z) (fun _ _ z => z) (fun _ _ z => z))
/-! ### calls -/
abbrev FS := List W → Mu → (W → Mu → Prop) → Prop
def spD (K : PySem.W.Frag) (F : FS) : Sp := fun vs H Q _ => ∃ (A : Addr → Prop) (M : List Addr) (μ : Mu) (ws : List W) (R : W → Mu → Prop), MOk K A M H μ ∧ VRs K (vw A M μ H) M vs ws ∧ F ws μ R ∧
  ∀ M' H' v w μ', MOk K A M' H' μ' → Eff A M μ H M' μ' H' → VR K (vw A M' μ' H') M' v w → R w μ' → Q v H'
section
variable {K : PySem.W.Frag} {Γ : G} {μ : Mu} {R : W → Mu → Prop} {ta tk : TA}
theorem ax_call {F : FS} {E : XK} (h : AXA K ta Γ μ fun ws μ1 => F ws μ1 R) : AX K (tCall (spD K F) [] E ta) Γ μ R := fun A M σ H c Q q =>
  h A M σ H c _ fun M1 H1 vs ws μ1 mo1 e1 r1 h1 => by
    show spD K F (vs ++ []) H1 Q E
    rw [List.append_nil]
    exact ⟨A, M1, μ1, ws, R, mo1, r1, h1, fun M' H' v w μ' mo' e' r' hR => q M' H' v w μ' mo' (e1.trans e') r' hR⟩
/-- keywords: ix tells the parameters' order among positional values and keywords' values -/
def perm {α : Type} (ix : List Nat) (l : List α) : List α := ix.filterMap (l[·]?)
theorem vrs_perm {H : Hp} {M : List Addr} {vs : List V} {ws : List W} (h : VRs K H M vs ws) : ∀ ix : List Nat, VRs K H M (perm ix vs) (perm ix ws)
  | [] => .nil
  | i :: ix => by
    unfold perm
    rw [List.filterMap_cons, List.filterMap_cons]
    cases e : ws[i]? with
    | none =>
      have : vs[i]? = none := by
        rw [List.getElem?_eq_none_iff, h.length]
        exact List.getElem?_eq_none_iff.mp e
      rw [this]
      exact vrs_perm h ix
    | some w =>
      obtain ⟨v, hv, r⟩ := h.getW e
      rw [hv]
      exact .cons r (vrs_perm h ix)
theorem vals_perm {vs : List V} {us : List Value} (h : Vals vs us) : ∀ ix : List Nat, Vals (perm ix vs) (perm ix us)
  | [] => .nil
  | i :: ix => by
    unfold perm
    rw [List.filterMap_cons, List.filterMap_cons]
    cases e : vs[i]? with
    | none =>
      rw [h.none_of e]
      exact vals_perm h ix
    | some v =>
      obtain ⟨u, hu, r⟩ := h.get e
      rw [hu]
      exact .cons r (vals_perm h ix)
theorem ax_callN {F : FS} {E : XK} {n m : Nat} {ix : List Nat} (h : AXA K ta Γ μ fun ws μ1 => ws.length = n ∧ AXA K tk Γ μ1 fun us μ2 => us.length = m ∧ F (perm ix (ws ++ us)) μ2 R) : AX K (tCallN n m (spD K F) (fun vs zs => perm ix (vs ++ zs)) E ta tk) Γ μ R := fun A M σ H c Q q =>
  h A M σ H c _ fun M1 H1 vs ws μ1 mo1 e1 r1 ⟨l1, h1⟩ => h1 A M1 σ H1 (c.eff e1 mo1) _ fun M2 H2 zs us μ2 mo2 e2 r2 ⟨l2, h2⟩ =>
    ⟨r1.length.trans l1, r2.length.trans l2, A, M2, μ2, _, R, mo2, vrs_perm ((r1.mono e2.ex e2.pre).append r2) ix, h2, fun M' H' v w μ' mo' e' r' hR => q M' H' v w μ' mo' ((e1.trans e2).trans e') r' hR⟩
end
def stG (N : List PySem.Str) (ws : List W) : G := ws.map some ++ List.replicate (N.length - ws.length) none
theorem gr_start {K : PySem.W.Frag} {H : Hp} {M : List Addr} {N : List PySem.Str} {vs : List V} {ws : List W} (h : VRs K H M vs ws) : GR K H M (L2.start N vs) (stG N ws) := by
  have hl := h.length
  refine ⟨by simp [L2.start, stG, hl], fun i w e => ?_⟩
  unfold stG at e
  unfold L2.start
  by_cases hi : i < ws.length
  · rw [List.getElem?_append_left (by simpa using hi), List.getElem?_map] at e
    cases hw : ws[i]? with
    | none => rw [hw] at e; cases e
    | some w' =>
      rw [hw] at e
      have : w' = w := by simpa using e
      subst this
      obtain ⟨v, hv, r⟩ := h.getW hw
      exact ⟨v, by rw [List.getElem?_append_left (by simp; omega), List.getElem?_map, hv]; rfl, r⟩
  · rw [List.getElem?_append_right (by simp; omega), List.getElem?_replicate] at e
    split at e <;> cases e
/-- THE RULE for a def -/
theorem fn_ok {P : PySem.Program} {w : PySem.World} {K : PySem.W.Frag} {mg : PySem.Str → Option PySem.Value} {base : PySem.Heap} {x qual : PySem.Str} {st : PySem.Stmt} {f : Addr} {fd : PySem.FuncData} {N ps : List PySem.Str} {k : Nat} {F : FS} (Fu : Fun K x qual st f fd) (S : FnScope N ps (defScope st)) (len : ∀ ws μ R, F ws μ R → ws.length = ps.length)
    (hbody : ∀ (cdv : PySem.Value) (A : PySem.Around) (outer : List PySem.Env) (s : PySem.Shared) (H : Hp) (E : XK), Room k (A.deeper (PyProof.Rows.envOfC qual (defScope st) s.heap.objs.size f cdv)) →
      ∃ t, PSs (cxOf CX0 P w K mg base N qual (defScope st) f cdv A outer s H E).nox (defBody st) t ∧ ∀ ws μ R, F ws μ R → AS K t { nx := fun _ μ' => R (.d .none) μ', rt := R } (stG N ws) μ) : FnOk P w K mg base CX0 (k + 1) f fd ps (spD K F) := by
  refine Fu.ok S (fun vs H Q E h => ?_) (fun cdv A outer s H vs Q E hr h => ?_)
  · obtain ⟨A, M, μ, ws, R, mo, r, h, _⟩ := h
    rw [r.length]
    exact len ws μ R h
  · obtain ⟨t, ht, hs⟩ := hbody cdv A outer s H E hr
    obtain ⟨A, M, μ, ws, R, mo, r, h, q⟩ := h
    refine ⟨t, ht, hs ws μ R h A M _ H ⟨mo, gr_start r⟩ _ ⟨fun M' σ' H' Γ' μ' c e h => q M' H' _ _ μ' c.mo e (.d .non) h, fun M' H' v w μ' mo' e' r' h => q M' H' v w μ' mo' e' r' h, fun _ _ _ _ _ _ _ h => h.elim, fun _ _ _ _ _ _ _ h => h.elim, fun _ _ _ _ _ _ _ _ _ _ _ _ h => h.elim⟩⟩
end Pd

/-! unions: one rule for each operator, whatever its operands -/
namespace Pd
open PySem PySem.Spec PyProof.Rows L2
open Evl (Ex)
theorem orR {X : Cx} {f : Value → Value → Sem Value} {r r' : R2} (h : OpR X f r) (h' : OpR X f r') : OpR X f (fun x y H Q => r x y H Q ∨ r' x y H Q) := by
  intro pins s σ H x y v u Q I rx ry q
  rcases q with q | q
  · exact h pins s σ H x y v u Q I rx ry q
  · exact h' pins s σ H x y v u Q I rx ry q
theorem orC {X : Cx} {f : Value} {r r' : List V → Hp → VK → Prop} (h : CallR X f r) (h' : CallR X f r') : CallR X f (fun xs H Q => r xs H Q ∨ r' xs H Q) := by
  intro pins s σ H xs us Q I rx q
  rcases q with q | q
  · exact h pins s σ H xs us Q I rx q
  · exact h' pins s σ H xs us Q I rx q
theorem orI {X : Cx} {tg e : Expr} {w w' : TI} (h : PI X tg e w) (h' : PI X tg e w') : PI X tg e (fun σ H R => w σ H R ∨ w' σ H R) := ⟨fun pins s σ H R I q => by
  rcases q with q | q
  · exact h.run pins s σ H R I q
  · exact h'.run pins s σ H R I q⟩
def COp (i j : Int) : Prop := 0 ≤ j ∧ (Builtin.Int.intBits i : Int) * j ≤ 2 ^ 27
section
variable {X : Cx}
theorem op_powX : OpR X (binaryOp .Pow) (rI COp fun i j => .int (i ^ j.toNat)) := opI fun _ _ _ _ _ _ _ hc q => pow_int hc.1 hc.2 q
/-- + -/
def rAddI : R2 := rI0 fun i j => .int (i + j)
def rAddS : R2 := fun x y H Q => ∃ i j, x = .str i ∧ y = .str j ∧ i.length + j.length ≤ sizeLine ∧ Q (.str (i ++ j)) H
def rAddU (K : PySem.W.Frag) : R2 := fun x y H Q => rAddI x y H Q ∨ (rCat x y H Q ∨ (rCatA K x y H Q ∨ rAddS x y H Q))
theorem op_addU : OpR X (binaryOp .Add) (rAddU X.K) := orR op_add (orR op_cat (orR op_catA op_add_str))
theorem iop_addU : OpR X (inplaceOp .Add) (fun x y H Q => rAddI x y H Q ∨ rAddS x y H Q) := orR iop_add iop_add_str
def rSubI : R2 := rI0 fun i j => .int (i - j)
theorem op_subU : OpR X (binaryOp .Sub) rSubI := op_sub
theorem iop_subU : OpR X (inplaceOp .Sub) rSubI := iop_sub
def rMulI : R2 := rI CMul fun i j => .int (i * j)
def rMulX : R2 := rI CMulX fun i j => .int (i * j)
def rMulU : R2 := fun x y H Q => rMulI x y H Q ∨ (rMulX x y H Q ∨ rRep x y H Q)
theorem op_mulU : OpR X (binaryOp .Mult) rMulU := orR op_mul (orR op_mulX op_rep)
theorem iop_mulU : OpR X (inplaceOp .Mult) rMulI := iop_mul
def rDivI : R2 := rI CDivW fun i j => .int (i / j)
theorem op_divU : OpR X (binaryOp .FloorDiv) rDivI := op_fdivW
theorem iop_divU : OpR X (inplaceOp .FloorDiv) (rI CDiv fun i j => .int (i / j)) := iop_fdiv
def rModI : R2 := rI (fun _ j => 0 < j) fun i j => .int (i % j)
theorem op_modU : OpR X (binaryOp .Mod) rModI := op_mod
def rPowI : R2 := rI COp fun i j => .int (i ^ j.toNat)
theorem op_powU : OpR X (binaryOp .Pow) rPowI := op_powX
/-- == -/
def rEqU (K : PySem.W.Frag) : R2 := fun x y H Q => rEq x y H Q ∨ rEqD K x y H Q
def rNeU (K : PySem.W.Frag) : R2 := fun x y H Q => rNe x y H Q ∨ rNeD K x y H Q
theorem op_eqU (hu : X.A.units + 64 < cLine) : OpR X (compareOp .Eq) (rEqU X.K) := orR op_eq (op_eqD hu)
theorem op_neU (hu : X.A.units + 64 < cLine) : OpR X (compareOp .NotEq) (rNeU X.K) := orR op_ne (op_neD hu)
def rLtI : R2 := rI0 fun i j => .bl (decide (i < j))
def rLeI : R2 := rI0 fun i j => .bl (decide (i ≤ j))
def rGtI : R2 := rI0 fun i j => .bl (decide (j < i))
def rGeI : R2 := rI0 fun i j => .bl (decide (j ≤ i))
def rLtS : R2 := fun x y H Q => ∃ i j, x = .str i ∧ y = .str j ∧ Q (.bl (decide (i.cps.toList < j.cps.toList))) H
def rLtU : R2 := fun x y H Q => rLtI x y H Q ∨ rLtS x y H Q
theorem op_ltU : OpR X (compareOp .Lt) rLtU := orR op_lt op_lt_str
theorem op_leU : OpR X (compareOp .LtE) rLeI := op_le
theorem op_gtU : OpR X (compareOp .Gt) rGtI := op_gt
theorem op_geU : OpR X (compareOp .GtE) rGeI := op_ge
def rInS (neg : Bool) : R2 := fun x y H Q => ∃ i j, x = .str i ∧ y = .str j ∧ Q (.bl (if neg then !(!(Builtin.Str.occurrences j i 0 j.length 1).isEmpty) else !(Builtin.Str.occurrences j i 0 j.length 1).isEmpty)) H
def rInU (K : PySem.W.Frag) (neg : Bool) : R2 := fun x y H Q => rIn K neg x y H Q ∨ rInS neg x y H Q
theorem op_inU : OpR X (compareOp .In) (rInU X.K false) := orR op_in_seq op_in_str
theorem op_niU : OpR X (compareOp .NotIn) (rInU X.K true) := orR op_notIn_seq op_notin_str
/-- None, or a bool beside a bool -/
def rIsU (neg : Bool) : R2 := fun x y H Q => (y = .non ∧ Q (.bl (if neg then !decide (x = .non) else decide (x = .non))) H) ∨ (∃ a b : Bool, x = .bl a ∧ y = .bl b ∧ Q (.bl (if neg then !decide (a = b) else decide (a = b))) H)
theorem op_isU : OpR X (compareOp .Is) (rIsU false) := orR op_isN op_isBl
theorem op_isnU : OpR X (compareOp .IsNot) (rIsU true) := orR op_notN op_notBl
def iSeq (K : PySem.W.Frag) (te : TE) : TI := fun σ H R => iList K te σ H R ∨ (iTup K te σ H R ∨ iStr te σ H R)
theorem pi_seq {tg e : Expr} {te : TE} (he : PE X e te) : PI X tg e (iSeq X.K te) := orI (pi_list he) (orI (pi_tup he) (pi_str he))
def rSlU (K : PySem.W.Frag) : V → Option Int → Option Int → Hp → VK → Prop := fun x l u H Q => rSlL K x l u H Q ∨ (rSlA K x l u H Q ∨ rSlS x l u H Q)
theorem sl_U : SlR X (rSlU X.K) := SlR.or sl_list (SlR.or sl_tupA sl_str)
def tTru (K : PySem.W.Frag) (ta : TE) : TT := fun σ H Q => ta σ H fun x H' => ∃ k, TruV K x H' k ∧ Q k H'
theorem pt_tru {a : Expr} {ta : TE} (ha : PE X a ta) (he : ∀ whole, isTrue a X.env whole = (do let v ← whole; standAt a.pos; holding [v] (truthy v)) := by intro _; rfl) : PT X a (tTru X.K ta) := pt_truth ha he
def rLenU (K : PySem.W.Frag) : List V → Hp → VK → Prop := fun xs H Q => ∃ x n, xs = [x] ∧ LenV K x H n ∧ Q (.int n) H
theorem call_lenU : CallR X (.builtin "len") (rLenU X.K) := call_len
def rListU (K : PySem.W.Frag) : List V → Hp → VK → Prop := fun xs H Q => ∃ p ys, xs = [.ref p] ∧ (SqL K H p ys ∨ SqT K H p ys) ∧ ∀ l, H l = none → Q (.ref l) (upd H l (.lst ys))
theorem call_listU : CallR X (.type "list") (rListU X.K) := call_list_of
def rTupU (K : PySem.W.Frag) : List V → Hp → VK → Prop := fun xs H Q => ∃ p ys, xs = [.ref p] ∧ ((SqL K H p ys ∧ ∀ l, H l = none → Q (.ref l) (upd H l (.tup ys))) ∨ (SqT K H p ys ∧ Q (.ref p) H))
theorem call_tupU : CallR X (.type "tuple") (rTupU X.K) := call_tuple_of
def rIntU : List V → Hp → VK → Prop := fun xs H Q => (∃ i, xs = [.int i] ∧ Q (.int i) H) ∨ ∃ k, xs = [.bl k] ∧ Q (.int (if k then 1 else 0)) H
theorem call_intU : CallR X (.type "int") rIntU := call_int1
def rAbsU : List V → Hp → VK → Prop := fun xs H Q => ∃ i, xs = [.int i] ∧ Q (.int (if i < 0 then -i else i)) H
theorem call_absU : CallR X (.builtin "abs") rAbsU := call_abs
def rMax2 : List V → Hp → VK → Prop := fun xs H Q => ∃ i j, xs = [.int i, .int j] ∧ Q (.int (if j > i then j else i)) H
def rMin2 : List V → Hp → VK → Prop := fun xs H Q => ∃ i j, xs = [.int i, .int j] ∧ Q (.int (if j < i then j else i)) H
def rMaxU (K : PySem.W.Frag) : List V → Hp → VK → Prop := fun xs H Q => rMax2 xs H Q ∨ rMax K xs H Q
def rMinU (K : PySem.W.Frag) : List V → Hp → VK → Prop := fun xs H Q => rMin2 xs H Q ∨ rMin K xs H Q
theorem call_maxU (hc : X.calm = true) : CallR X (.builtin "max") (rMaxU X.K) := orC (call_max2 hc) (cr_max hc)
theorem call_minU (hc : X.calm = true) : CallR X (.builtin "min") (rMinU X.K) := orC (call_min2 hc) (cr_min hc)
def rPopU : V → List V → Hp → VK → Prop := fun x vs H Q => rPop x vs H Q ∨ rPopAt x vs H Q
theorem mt_popU : MtM X "list.pop" rPopU := by
  intro pins s σ H x xs v us Q I rx rs q
  rcases q with q | q
  · exact mt_pop pins s σ H x xs v us Q I rx rs q
  · exact mt_popAt pins s σ H x xs v us Q I rx rs q
/-- a call with keywords alone -/
theorem pe_callN0 {CX : CXT} {k : Nat} {f : Addr} {fd : FuncData} {ps ks : List Str} {sp : Sp} {x : Str} {E : XK} {kws : List Keyword} {tk : TA} {p pos : Pos} {g : List Value → List Value → List Value} {gV : List V → List V → List V} (F : FnOk X.prog X.w X.K X.mg X.base CX k f fd ps sp) (hr : Room k X.A) (hg : Gl X x) (hm : X.mg x = some (.ref f)) (hk : PySem.W.keepIn X.K (.ref f) = true) (hb : KBn X.K fd ps 0 ks g gV) (hx : Passes CX X E)
    (hkw : PK X kws tk) (hall : (backToKw pos (keywordEach kws X.env)).all (·.1.isSome) = true := by rfl) (hks : (backToKw pos (keywordEach kws X.env)).filterMap (·.1) = ks := by rfl)
    (hdb : (x == ("__debug__" : Str)) = false := by decide)
    (hpl : ((backTo pos (starEach [] X.env)).any (·.1) || (backToKw pos (keywordEach kws X.env)).any (·.1.isNone)) = false := by rfl) :
    PE X (.Call (.Name x p) [] kws pos) (tCallN 0 ks.length sp gV E tNil tk) := by
  refine ⟨fun pins s σ H Q I h => ?_⟩
  refine wpAny_Call_Name_kw (ld_glob I hg hm ?_ hdb)
  refine PySem.W.callWith_KW0 (h₀ := X.base) I.ok.mod.kin hk hall (thn (hkw.run pos pins s σ H _ I h) fun ws s2 ⟨zs, H2, I2, rz, l1, l2, q2⟩ => ⟨I2.kIn, ?_⟩) hpl
  rw [hks]
  exact run_fnN F hr hb hx I2 .nil rz l1 l2 q2
end
/-! ### what they ask -/
section
variable {K : PySem.W.Frag} {Γ : G} {μ : Mu} {R : W → Mu → Prop} {ta tb te : TE}
theorem ao_l {r r' : R2} {x y : W} (h : AO K r x y μ R) : AO K (fun x y H Q => r x y H Q ∨ r' x y H Q) x y μ R := fun A M H v u mo rv ru Q q => .inl (h A M H v u mo rv ru Q q)
theorem ao_r {r r' : R2} {x y : W} (h : AO K r' x y μ R) : AO K (fun x y H Q => r x y H Q ∨ r' x y H Q) x y μ R := fun A M H v u mo rv ru Q q => .inr (h A M H v u mo rv ru Q q)
theorem ac_l {r r' : List V → Hp → VK → Prop} {xs : List W} (h : AC K r xs μ R) : AC K (fun xs H Q => r xs H Q ∨ r' xs H Q) xs μ R := fun A M H v mo rv Q q => .inl (h A M H v mo rv Q q)
theorem ac_r {r r' : List V → Hp → VK → Prop} {xs : List W} (h : AC K r' xs μ R) : AC K (fun xs H Q => r xs H Q ∨ r' xs H Q) xs μ R := fun A M H v mo rv Q q => .inr (h A M H v mo rv Q q)
theorem am_l {r r' : V → List V → Hp → VK → Prop} {x : W} {xs : List W} (h : AM K r x xs μ R) : AM K (fun x xs H Q => r x xs H Q ∨ r' x xs H Q) x xs μ R := fun A M H v vs mo rv rs Q q => .inl (h A M H v vs mo rv rs Q q)
theorem am_r {r r' : V → List V → Hp → VK → Prop} {x : W} {xs : List W} (h : AM K r' x xs μ R) : AM K (fun x xs H Q => r x xs H Q ∨ r' x xs H Q) x xs μ R := fun A M H v vs mo rv rs Q q => .inr (h A M H v vs mo rv rs Q q)
theorem ai_l {w w' : TI} {RI : List W → (Mu → Prop) → Mu → Prop} (h : AI K w Γ μ RI) : AI K (fun σ H R => w σ H R ∨ w' σ H R) Γ μ RI := fun A M σ H c Q q => .inl (h A M σ H c Q q)
theorem ai_r {w w' : TI} {RI : List W → (Mu → Prop) → Mu → Prop} (h : AI K w' Γ μ RI) : AI K (fun σ H R => w σ H R ∨ w' σ H R) Γ μ RI := fun A M σ H c Q q => .inr (h A M σ H c Q q)
theorem asl_l {r r' : V → Option Int → Option Int → Hp → VK → Prop} {x : W} {lo hi : Option Int} (h : ASl K r x lo hi μ R) : ASl K (fun x l u H Q => r x l u H Q ∨ r' x l u H Q) x lo hi μ R := fun A M H v mo rv Q q => .inl (h A M H v mo rv Q q)
theorem asl_r {r r' : V → Option Int → Option Int → Hp → VK → Prop} {x : W} {lo hi : Option Int} (h : ASl K r' x lo hi μ R) : ASl K (fun x l u H Q => r x l u H Q ∨ r' x l u H Q) x lo hi μ R := fun A M H v mo rv Q q => .inr (h A M H v mo rv Q q)
/-! +, -, *, //, %, ** -/
theorem o_addI {i j : Int} (k : R (.d (.int (i + j))) μ) : AO K (rAddU K) (.d (.int i)) (.d (.int j)) μ R := ao_l (ao_iI (g := fun i j => i + j) k)
theorem o_addL {x y : W} {ws zs : List W} (hx : LN μ x ws) (hy : LN μ y zs) (hl : ws.length + zs.length ≤ sizeLine) (q : NL (ws ++ zs) μ R) : AO K (rAddU K) x y μ R := ao_r (ao_l (ao_cat hx hy hl q))
theorem ao_addS {x y : PySem.Str} (hl : x.length + y.length ≤ sizeLine) (q : R (.d (.str (x ++ y))) μ) : AO K rAddS (.d (.str x)) (.d (.str y)) μ R := fun A M H v u mo rv ru Q h => by
  rw [vr_str rv, vr_str ru]
  exact ⟨x, y, rfl, rfl, hl, h M H _ _ μ mo Eff.refl (.d (.str _)) q⟩
theorem o_addS {x y : PySem.Str} (hl : x.length + y.length ≤ sizeLine) (q : R (.d (.str (x ++ y))) μ) : AO K (rAddU K) (.d (.str x)) (.d (.str y)) μ R := ao_r (ao_r (ao_r (ao_addS hl q)))
theorem NT.same {ws : List W} {R : W → Mu → Prop} {a : Addr} {vs : List V} (q : NT ws μ R) (mo : MOk K A M H μ) (ha : SqT K (vw A M μ H) a vs) (rs : VRs K (vw A M μ H) M vs ws) {Q : VK}
    (h : ∀ M' H' v w μ', MOk K A M' H' μ' → Eff A M μ H M' μ' H' → VR K (vw A M' μ' H') M' v w → R w μ' → Q v H') : Q (.ref a) H := by
  rcases q with ⟨xs, rfl, hR⟩ | hR
  · exact h M H _ _ μ mo Eff.refl (.d (.tup ha rs.dp)) hR
  · exact h M H _ _ μ mo Eff.refl (.t ha rs) hR
theorem o_addT {x y : W} {ws zs : List W} (hx : TW x ws) (hy : TW y zs) (hl : ws.length + zs.length ≤ sizeLine) (q : NT (ws ++ zs) μ R) : AO K (rAddU K) x y μ R := ao_r (ao_r (ao_l fun A M H v u mo rv ru Q h => by
  obtain ⟨a, vs, rfl, ha, ra⟩ := hx.get rv
  obtain ⟨b, us, rfl, hb, rb⟩ := hy.get ru
  refine ⟨a, b, vs, us, rfl, rfl, Evl.ex_t vw_le ha, Evl.ex_t vw_le hb, by rw [ra.length, rb.length]; exact hl, fun z => ?_, fun _ z => ?_, fun _ _ p hp => ?_⟩
  · subst z
    cases ra
    exact q.same mo hb rb h
  · subst z
    cases rb
    rw [List.append_nil] at q
    exact q.same mo ha ra h
  · obtain ⟨w, m2, e2, r2, hR⟩ := q.use mo (ra.append rb) hp
    exact h M _ _ w μ m2 e2 r2 hR))
theorem o_subI {i j : Int} (k : R (.d (.int (i - j))) μ) : AO K rSubI (.d (.int i)) (.d (.int j)) μ R := ao_iI (g := fun i j => i - j) k
theorem o_mulI {i j : Int} (hc : CMul i j) (k : R (.d (.int (i * j))) μ) : AO K rMulU (.d (.int i)) (.d (.int j)) μ R := ao_l (ao_cI (g := fun i j => i * j) hc k)
theorem o_mulX {i j : Int} (hc : CMulX i j) (k : R (.d (.int (i * j))) μ) : AO K rMulU (.d (.int i)) (.d (.int j)) μ R := ao_r (ao_l (ao_cI (g := fun i j => i * j) hc k))
theorem o_rep {x : W} {ws : List W} {k : Int} (hx : LN μ x ws) (hk : -(2 ^ 63) ≤ k ∧ k < 2 ^ 63) (hl : ws.length * k.toNat ≤ sizeLine) (q : NL (List.replicate k.toNat ws).flatten μ R) : AO K rMulU x (.d (.int k)) μ R := ao_r (ao_r (ao_rep hx hk hl q))
theorem o_divI {i j : Int} (hc : CDivW i j) (k : R (.d (.int (i / j))) μ) : AO K rDivI (.d (.int i)) (.d (.int j)) μ R := ao_cI (g := fun i j => i / j) hc k
theorem o_modI {i j : Int} (hc : 0 < j) (k : R (.d (.int (i % j))) μ) : AO K rModI (.d (.int i)) (.d (.int j)) μ R := ao_cI (P := fun _ j => 0 < j) (g := fun i j => i % j) hc k
theorem o_powI {i j : Int} (hc : COp i j) (k : R (.d (.int (i ^ j.toNat))) μ) : AO K rPowI (.d (.int i)) (.d (.int j)) μ R := ao_cI (g := fun i j => i ^ j.toNat) hc k
theorem o_ltI {i j : Int} (k : R (.d (.bool (decide (i < j)))) μ) : AO K rLtU (.d (.int i)) (.d (.int j)) μ R := ao_l (ao_iB (g := fun i j => decide (i < j)) k)
theorem o_leI {i j : Int} (k : R (.d (.bool (decide (i ≤ j)))) μ) : AO K rLeI (.d (.int i)) (.d (.int j)) μ R := ao_iB (g := fun i j => decide (i ≤ j)) k
theorem o_gtI {i j : Int} (k : R (.d (.bool (decide (j < i)))) μ) : AO K rGtI (.d (.int i)) (.d (.int j)) μ R := ao_iB (g := fun i j => decide (j < i)) k
theorem o_geI {i j : Int} (k : R (.d (.bool (decide (j ≤ i)))) μ) : AO K rGeI (.d (.int i)) (.d (.int j)) μ R := ao_iB (g := fun i j => decide (j ≤ i)) k
theorem o_eqI {i j : Int} (k : R (.d (.bool (decide (i = j)))) μ) : AO K (rEqU K) (.d (.int i)) (.d (.int j)) μ R := ao_l (ao_eqI k)
theorem o_neI {i j : Int} (k : R (.d (.bool (!decide (i = j)))) μ) : AO K (rNeU K) (.d (.int i)) (.d (.int j)) μ R := ao_l (ao_neI k)
theorem o_eqB {i j : Bool} (k : R (.d (.bool (decide (i = j)))) μ) : AO K (rEqU K) (.d (.bool i)) (.d (.bool j)) μ R := ao_l (ao_eqB k)
theorem o_neB {i j : Bool} (k : R (.d (.bool (!decide (i = j)))) μ) : AO K (rNeU K) (.d (.bool i)) (.d (.bool j)) μ R := ao_l (ao_neB k)
theorem o_eqS {i j : PySem.Str} (k : R (.d (.bool (decide (i = j)))) μ) : AO K (rEqU K) (.d (.str i)) (.d (.str j)) μ R := ao_l (ao_eqS k)
theorem o_neS {i j : PySem.Str} (k : R (.d (.bool (!decide (i = j)))) μ) : AO K (rNeU K) (.d (.str i)) (.d (.str j)) μ R := ao_l (ao_neS k)
theorem o_eqD {x y : W} {d e : PyData} (hx : Rs μ x d) (hy : Rs μ y e) (sd : SeqAt.shaped d = true) (se : SeqAt.shaped e = true) (k : R (.d (.bool (PyData.eqv d e))) μ) : AO K (rEqU K) x y μ R := ao_r (ao_eqD hx hy sd se k)
theorem o_neD {x y : W} {d e : PyData} (hx : Rs μ x d) (hy : Rs μ y e) (sd : SeqAt.shaped d = true) (se : SeqAt.shaped e = true) (k : R (.d (.bool (!PyData.eqv d e))) μ) : AO K (rNeU K) x y μ R := ao_r (ao_neD hx hy sd se k)
theorem o_is {x : W} {neg : Bool} (k : R (.d (.bool (if neg then !isNon x else isNon x))) μ) : AO K (rIsU neg) x (.d .none) μ R := fun A M H v u mo rv ru Q h => by
  rw [vr_none ru]
  refine .inl ⟨rfl, ?_⟩
  rw [vr_isN rv]
  exact h M H _ _ μ mo Eff.refl (.d (.bl _)) k
theorem o_isB {a b neg : Bool} (k : R (.d (.bool (if neg then !decide (a = b) else decide (a = b)))) μ) : AO K (rIsU neg) (.d (.bool a)) (.d (.bool b)) μ R := fun A M H v u mo rv ru Q h => by
  rw [vr_bool rv, vr_bool ru]
  exact .inr ⟨a, b, rfl, rfl, h M H _ _ μ mo Eff.refl (.d (.bl _)) k⟩
/-! items -/
theorem o_ixL {x z : W} {ws : List W} {i : Int} (hx : LW μ x ws) (hz : atI ws i = some z) (q : R z μ) : AO K (rIx K) x (.d (.int i)) μ R := ao_l (ao_ixL hx hz q)
theorem o_ixT {x z : W} {ws : List W} {i : Int} (hx : TW x ws) (hz : atI ws i = some z) (q : R z μ) : AO K (rIx K) x (.d (.int i)) μ R := ao_r (ao_l (ao_ixT hx hz q))
theorem o_ixS {x : PySem.Str} {i : Int} {c : Nat} (hl : x.length ≤ sizeLine) (hc : atI x.cps.toList i = some c) (q : R (.d (.str ⟨#[c]⟩)) μ) : AO K (rIx K) (.d (.str x)) (.d (.int i)) μ R := ao_r (ao_r (ao_ixS hl hc q))
theorem o_slL {x : W} {ws : List W} {lo hi : Option Int} (hx : LW μ x ws) (q : NL (cutW ws lo hi) μ R) : ASl K (rSlU K) x lo hi μ R := asl_l (as_slL hx q)
theorem o_slS {x : PySem.Str} {lo hi : Option Int} (hl : x.length ≤ sizeLine) (q : R (.d (.str (cutS x lo hi))) μ) : ASl K (rSlU K) (.d (.str x)) lo hi μ R := asl_r (asl_r (as_slS hl q))
/-! truth -/
inductive TrW (μ : Mu) : W → Bool → Prop
  | non : TrW μ (.d .none) false
  | bl (b : Bool) : TrW μ (.d (.bool b)) b
  | int (i : Int) : TrW μ (.d (.int i)) (i != 0)
  | str (x : PySem.Str) (h : x.length ≤ sizeLine) : TrW μ (.d (.str x)) ((x.length : Int) != 0)
  | lst {w : W} {ws : List W} (h : LW μ w ws) : TrW μ w (!ws.isEmpty)
  | tup {w : W} {ws : List W} (h : TW w ws) : TrW μ w (!ws.isEmpty)
theorem vrs_empty {Hv : Hp} {M : List Addr} {vs : List V} {ws : List W} (h : VRs K Hv M vs ws) : vs.isEmpty = ws.isEmpty := by cases h <;> rfl
theorem TrW.ok {A : Addr → Prop} {M : List Addr} {H : Hp} {w : W} {v : V} {b : Bool} (mo : MOk K A M H μ) (r : VR K (vw A M μ H) M v w) (h : TrW μ w b) : TruV K v H b := by
  cases h with
  | non => rw [vr_none r]; rfl
  | bl b => rw [vr_bool r]; rfl
  | int i => rw [vr_int r]; rfl
  | str x hl => rw [vr_str r]; exact ⟨hl, rfl⟩
  | lst hl =>
    obtain ⟨a, vs, rfl, hs, rs⟩ := hl.get mo r
    exact .inl ⟨vs, hs, by rw [vrs_empty rs]⟩
  | tup hl =>
    obtain ⟨a, vs, rfl, hs, rs⟩ := hl.get r
    exact .inr (.inl ⟨vs, Evl.ex_t vw_le hs, by rw [vrs_empty rs]⟩)
theorem at_tru {RT : Bool → Mu → Prop} (h : AX K te Γ μ fun w μ1 => ∃ b, TrW μ1 w b ∧ RT b μ1) : AXT K (tTru K te) Γ μ RT := fun A M σ H c Q q =>
  h A M σ H c _ fun M1 H1 v w μ1 mo1 e1 r1 ⟨b, hb, hR⟩ => ⟨b, hb.ok mo1 r1, q M1 H1 b μ1 mo1 e1 hR⟩
theorem at_truB {RT : Bool → Mu → Prop} (h : AX K te Γ μ fun w μ1 => ∃ b, w = .d (.bool b) ∧ RT b μ1) : AXT K (tTru K te) Γ μ RT := at_tru (ax_weak h fun w μ' ⟨b, e, r⟩ => ⟨b, by rw [e]; exact .bl b, r⟩)
theorem ax_andT (h : AX K ta Γ μ fun x μ1 => ∃ b, TrW μ1 x b ∧ if b = true then AX K tb Γ μ1 R else R x μ1) : AX K (tAndT K ta tb) Γ μ R := fun A M σ H c Q q =>
  h A M σ H c _ fun M1 H1 v x μ1 mo1 e1 r1 ⟨b, hb, h1⟩ => by
    refine ⟨b, hb.ok mo1 r1, ?_⟩
    cases b with
    | true =>
      show tb σ H1 Q
      exact h1 A M1 σ H1 (c.eff e1 mo1) Q fun M2 H2 z w μ2 mo2 e2 r2 h2 => q M2 H2 z w μ2 mo2 (e1.trans e2) r2 h2
    | false => exact q M1 H1 _ _ μ1 mo1 e1 r1 h1
theorem ax_orT (h : AX K ta Γ μ fun x μ1 => ∃ b, TrW μ1 x b ∧ if b = true then R x μ1 else AX K tb Γ μ1 R) : AX K (tOrT K ta tb) Γ μ R := fun A M σ H c Q q =>
  h A M σ H c _ fun M1 H1 v x μ1 mo1 e1 r1 ⟨b, hb, h1⟩ => by
    refine ⟨b, hb.ok mo1 r1, ?_⟩
    cases b with
    | false =>
      show tb σ H1 Q
      exact h1 A M1 σ H1 (c.eff e1 mo1) Q fun M2 H2 z w μ2 mo2 e2 r2 h2 => q M2 H2 z w μ2 mo2 (e1.trans e2) r2 h2
    | true => exact q M1 H1 _ _ μ1 mo1 e1 r1 h1
theorem ax_notT (h : AX K ta Γ μ fun x μ1 => ∃ b, TrW μ1 x b ∧ R (.d (.bool (!b))) μ1) : AX K (tNotT K ta) Γ μ R := fun A M σ H c Q q =>
  h A M σ H c _ fun M1 H1 v x μ1 mo1 e1 r1 ⟨b, hb, h1⟩ => ⟨b, hb.ok mo1 r1, q M1 H1 _ _ μ1 mo1 e1 (.d (.bl _)) h1⟩
theorem ax_chain {r r' : R2} {tc : TE} (h : AX K ta Γ μ fun x μ1 => AX K tb Γ μ1 fun y μ2 => AO K r x y μ2 fun z μ3 => ∃ b, z = .d (.bool b) ∧ if b = true then AX K tc Γ μ3 fun u μ4 => AO K r' y u μ4 R else R (.d (.bool false)) μ3) : AX K (tChain r r' ta tb tc) Γ μ R := fun A M σ H c Q q =>
  h A M σ H c _ fun M1 H1 v x μ1 mo1 e1 r1 h1 => h1 A M1 σ H1 (c.eff e1 mo1) _ fun M2 H2 u y μ2 mo2 e2 r2 h2 => h2 A M2 H2 v u mo2 (r1.mono e2.ex e2.pre) r2 _ fun M3 H3 z w μ3 mo3 e3 r3 ⟨b, hb, h3⟩ => by
    subst hb
    have e13 := (e1.trans e2).trans e3
    refine ⟨b, vr_bool r3, ?_⟩
    cases b with
    | true => exact h3 A M3 σ H3 (c.eff e13 mo3) _ fun M4 H4 u4 w4 μ4 mo4 e4 r4 h4 => h4 A M4 H4 u u4 mo4 (r2.mono (e3.trans e4).ex (e3.trans e4).pre) r4 Q fun M5 H5 z5 w5 μ5 mo5 e5 r5 h5 => q M5 H5 z5 w5 μ5 mo5 ((e13.trans e4).trans e5) r5 h5
    | false => exact q M3 H3 _ _ μ3 mo3 e13 (.d (.bl _)) h3
/-! calls of built-ins -/
theorem c_lenL {x : W} {ws : List W} (hx : LW μ x ws) (q : R (.d (.int ws.length)) μ) : AC K (rLenU K) [x] μ R := fun A M H vs mo rs Q h => by
  cases rs with
  | cons rw rn =>
    cases rn
    obtain ⟨a, us, rfl, hs, ru⟩ := hx.get mo rw
    refine ⟨_, _, rfl, .inl ⟨us, hs, rfl⟩, ?_⟩
    rw [ru.length]
    exact h M H _ _ μ mo Eff.refl (.d (.int _)) q
theorem c_lenT {x : W} {ws : List W} (hx : TW x ws) (q : R (.d (.int ws.length)) μ) : AC K (rLenU K) [x] μ R := fun A M H vs mo rs Q h => by
  cases rs with
  | cons rw rn =>
    cases rn
    obtain ⟨a, us, rfl, hs, ru⟩ := hx.get rw
    refine ⟨_, _, rfl, .inr ⟨us, Evl.ex_t vw_le hs, rfl⟩, ?_⟩
    rw [ru.length]
    exact h M H _ _ μ mo Eff.refl (.d (.int _)) q
theorem c_lenS {x : PySem.Str} (hl : x.length ≤ sizeLine) (q : R (.d (.int x.length)) μ) : AC K (rLenU K) [.d (.str x)] μ R := fun A M H vs mo rs Q h => by
  cases rs with
  | cons rw rn =>
    cases rn
    rw [vr_str rw]
    exact ⟨_, x.length, rfl, ⟨hl, rfl⟩, h M H _ _ μ mo Eff.refl (.d (.int _)) q⟩
theorem c_int {i : Int} (q : R (.d (.int i)) μ) : AC K rIntU [.d (.int i)] μ R := ac_int q
theorem c_intB {i : Bool} (q : R (.d (.int (if i then 1 else 0))) μ) : AC K rIntU [.d (.bool i)] μ R := ac_intB q
theorem c_abs {i : Int} (q : R (.d (.int (if i < 0 then -i else i))) μ) : AC K rAbsU [.d (.int i)] μ R := ac_1 (g := fun i => if i < 0 then -i else i) q
theorem c_max2 {i j : Int} (q : R (.d (.int (max i j))) μ) : AC K (rMaxU K) [.d (.int i), .d (.int j)] μ R := ac_l (ac_2 (g := fun i j => if j > i then j else i) (by
  have e : (if j > i then j else i) = max i j := by omega
  show R (.d (.int (if j > i then j else i))) μ
  rw [e]
  exact q))
theorem c_min2 {i j : Int} (q : R (.d (.int (min i j))) μ) : AC K (rMinU K) [.d (.int i), .d (.int j)] μ R := ac_l (ac_2 (g := fun i j => if j < i then j else i) (by
  have e : (if j < i then j else i) = min i j := by omega
  show R (.d (.int (if j < i then j else i))) μ
  rw [e]
  exact q))
theorem c_maxL {x : W} {ns : List Int} (hx : LW μ x (ns.map fun n => W.d (.int n))) (h0 : 0 < ns.length) (q : ∀ m, m ∈ ns → (∀ y, y ∈ ns → y ≤ m) → R (.d (.int m)) μ) : AC K (rMaxU K) [x] μ R := ac_r (ac_max hx h0 q)
theorem c_minL {x : W} {ns : List Int} (hx : LW μ x (ns.map fun n => W.d (.int n))) (h0 : 0 < ns.length) (q : ∀ m, m ∈ ns → (∀ y, y ∈ ns → m ≤ y) → R (.d (.int m)) μ) : AC K (rMinU K) [x] μ R := ac_r (ac_min hx h0 q)
theorem c_listL {x : W} {ws : List W} (hx : LW μ x ws) (q : NL ws μ R) : AC K (rListU K) [x] μ R := ac_list hx q
theorem c_listT {x : W} {ws : List W} (hx : TW x ws) (q : NL ws μ R) : AC K (rListU K) [x] μ R := ac_listT hx q
theorem c_tupL {x : W} {ws : List W} (hx : LW μ x ws) (q : NT ws μ R) : AC K (rTupU K) [x] μ R := ac_tupleL hx q
/-- isinstance of data against a built-in class -/
def tyD : PyData → String
  | .none => "NoneType"
  | .bool _ => "bool"
  | .int _ => "int"
  | .str _ => "str"
  | .list _ => "list"
  | .tuple _ => "tuple"
  | .dict _ => "dict"
inductive TyW (μ : Mu) : W → String → Prop
  | d (x : PyData) : TyW μ (.d x) (tyD x)
  | m {k : Nat} {ws : List W} (h : μ[k]? = some (some (.lst ws))) : TyW μ (.m k) "list"
  | t (ws : List W) : TyW μ (.t ws) "tuple"
  | f (ws : List W) : TyW μ (.f ws) "list"
theorem tyx_t {H : Hp} {a : Addr} {xs : List V} (h : SqT K H a xs) : TyX K H (.ref a) (.type "tuple") := by
  rcases h with (h | ⟨o, h⟩) | ⟨o, its, n, h, hc, _⟩
  · exact .base (.tup h)
  · exact .fTuple h
  · exact .kTuple h hc
theorem tyx_l {H : Hp} {a : Addr} {xs : List V} (h : SqL K H a xs) : TyX K H (.ref a) (.type "list") := by
  rcases h with (h | ⟨o, h⟩) | ⟨o, its, n, h, hc, _⟩
  · exact .base (.lst h)
  · exact .base (.frz h)
  · exact .kList h hc
theorem TyW.ok {A : Addr → Prop} {M : List Addr} {H : Hp} {w : W} {v : V} {T : String} (mo : MOk K A M H μ) (r : VR K (vw A M μ H) M v w) (h : TyW μ w T) : TyX K H v (.type T) := by
  cases h with
  | d x =>
    cases r with
    | d r =>
      cases r with
      | non => exact .base .non
      | bl b => exact .base (.bl b)
      | int i => exact .base (.int i)
      | str x => exact .base (.str x)
      | lst h1 h2 => exact .base (.lst (vw_le _ _ h1))
      | tup h1 h2 => exact tyx_t (Evl.ex_t vw_le h1)
  | m hk =>
    obtain ⟨a, vs, rfl, hm, e, ru⟩ := cell_get mo r hk
    exact .base (.lst e)
  | t ws =>
    cases r with
    | t h1 h2 => exact tyx_t (Evl.ex_t vw_le h1)
  | f ws =>
    cases r with
    | f h1 h2 => exact tyx_l (Evl.ex_l vw_le h1)
theorem vr_k {v u : V} {Hv : Hp} {M : List Addr} (h : VR K Hv M v (.k u)) : v = u := by cases h; rfl
theorem c_isi {w : W} {S T : String} {b : Bool} (hw : TyW μ w S) (hk : kitB S T = some b) (q : R (.d (.bool b)) μ) : AC K (rIsi K) [w, .k (.ty T)] μ R := fun A M H vs mo rs Q h => by
  cases rs with
  | cons ra rn =>
    cases rn with
    | cons rb rn =>
      cases rn
      rw [vr_k rb]
      exact ⟨_, _, _, _, b, rfl, .ty T, hw.ok mo ra, kit_ty hk, h M H _ _ μ mo Eff.refl (.d (.bl _)) q⟩
end
/-! ### defs by their promises -/
/-- the module's x is a def that keeps F -/
def Has (P : Program) (w : World) (K : PySem.W.Frag) (mg : Str → Option Value) (base : Heap) (x : Str) (ps : List Str) (k : Nat) (F : FS) : Prop :=
  ∃ f fd, FnOk P w K mg base CX0 k f fd ps (spD K F) ∧ mg x = some (.ref f) ∧ PySem.W.keepIn K (.ref f) = true ∧ Binds K fd ps []
/-- .. and may be called with n values and the keywords ks -/
def HasK (P : Program) (w : World) (K : PySem.W.Frag) (mg : Str → Option Value) (base : Heap) (x : Str) (ps : List Str) (k : Nat) (F : FS) (n : Nat) (ks : List Str) (ix : List Nat) : Prop :=
  ∃ f fd, FnOk P w K mg base CX0 k f fd ps (spD K F) ∧ mg x = some (.ref f) ∧ PySem.W.keepIn K (.ref f) = true ∧ KBn K fd ps n ks (fun us ws => perm ix (us ++ ws)) (fun vs zs => perm ix (vs ++ zs))
section
variable {X : Cx} {x : Str} {ps ks : List Str} {k n m : Nat} {F : FS} {e : Expr} {es : List Expr} {ta tk : TA} {p pos : Pos} {kws : List Keyword} {ix : List Nat}
theorem pe_has (h : Has X.prog X.w X.K X.mg X.base x ps k F) (hr : Room k X.A) (ha : PA X (e :: es) ta) (hg : Gl X x := by rfl) (hd : (x == ("__debug__" : Str)) = false := by decide)
    (he : starEach (e :: es) X.env = (false, eval e X.env) :: starEach es X.env := by rfl) (hpl : (backTo pos (starEach es X.env)).any (·.1) = false := by rfl) : PE X (.Call (.Name x p) (e :: es) [] pos) (tCall (spD X.K F) [] E0 ta) := by
  obtain ⟨f, fd, G, hmg, kp, b⟩ := h
  exact pe_call G hr hg hmg kp b .nil pass0 ha hd he hpl
theorem pe_hasN (h : HasK X.prog X.w X.K X.mg X.base x ps k F n ks ix) (hr : Room k X.A) (ha : PA X (e :: es) ta) (hk : PK X kws tk) (hm : ks.length = m := by rfl) (hg : Gl X x := by rfl)
    (hall : (backToKw pos (keywordEach kws X.env)).all (·.1.isSome) = true := by rfl) (hks : (backToKw pos (keywordEach kws X.env)).filterMap (·.1) = ks := by rfl) (hdb : (x == ("__debug__" : Str)) = false := by decide)
    (he : starEach (e :: es) X.env = (false, eval e X.env) :: starEach es X.env := by rfl) (hpl : ((backTo pos (starEach (e :: es) X.env)).any (·.1) || (backToKw pos (keywordEach kws X.env)).any (·.1.isNone)) = false := by rfl) :
    PE X (.Call (.Name x p) (e :: es) kws pos) (tCallN n m (spD X.K F) (fun vs zs => perm ix (vs ++ zs)) E0 ta tk) := by
  subst hm
  obtain ⟨f, fd, G, hmg, kp, b⟩ := h
  exact pe_callN G hr hg hmg kp b pass0 ha hk hall hks hdb he hpl
theorem pe_hasN0 (h : HasK X.prog X.w X.K X.mg X.base x ps k F 0 ks ix) (hr : Room k X.A) (hk : PK X kws tk) (hm : ks.length = m := by rfl) (hg : Gl X x := by rfl)
    (hall : (backToKw pos (keywordEach kws X.env)).all (·.1.isSome) = true := by rfl) (hks : (backToKw pos (keywordEach kws X.env)).filterMap (·.1) = ks := by rfl) (hdb : (x == ("__debug__" : Str)) = false := by decide)
    (hpl : ((backTo pos (starEach [] X.env)).any (·.1) || (backToKw pos (keywordEach kws X.env)).any (·.1.isNone)) = false := by rfl) :
    PE X (.Call (.Name x p) [] kws pos) (tCallN 0 m (spD X.K F) (fun vs zs => perm ix (vs ++ zs)) E0 tNil tk) := by
  subst hm
  obtain ⟨f, fd, G, hmg, kp, b⟩ := h
  exact pe_callN0 G hr hg hmg kp b pass0 hk hall hks hdb hpl
end
theorem has_of {P : Program} {w : World} {K : PySem.W.Frag} {mg : Str → Option Value} {base : Heap} {x qual : Str} {st : Stmt} {f : Addr} {fd : FuncData} {ps : List Str} {k : Nat} {F : FS} (Fu : Fun K x qual st f fd) (m : mg x = some (.ref f)) (G : FnOk P w K mg base CX0 k f fd ps (spD K F))
    (h : ∀ (kV doc pm : Value) (an : Option Addr) (cdv ct : Value) (us : List Value), us.length = ps.length → bindArgs (PySem.W.fnOf x qual (defArgs st) (defBody st) (defScope st) .none kV doc pm an cdv ct) ⟨us, []⟩ = pure (ps.zip us)) : Has P w K mg base x ps k F := ⟨f, fd, G, m, Fu.kp, Fu.binds h⟩
theorem hask_of {P : Program} {w : World} {K : PySem.W.Frag} {mg : Str → Option Value} {base : Heap} {x qual : Str} {st : Stmt} {f : Addr} {fd : FuncData} {ps : List Str} {k : Nat} {F : FS} (Fu : Fun K x qual st f fd) (m : mg x = some (.ref f)) (G : FnOk P w K mg base CX0 k f fd ps (spD K F)) (n : Nat) (ks : List Str) (ix : List Nat)
    (h : ∀ (kV doc pm : Value) (an : Option Addr) (cdv ct : Value) (us ws : List Value), us.length = n → ws.length = ks.length → bindArgs (PySem.W.fnOf x qual (defArgs st) (defBody st) (defScope st) .none kV doc pm an cdv ct) ⟨us, ks.zip ws⟩ = pure (ps.zip (perm ix (us ++ ws)))) : HasK P w K mg base x ps k F n ks ix := by
  obtain ⟨oc, od, kV, doc, pm, an, cdv, ct, osl, rfl, lk, hcd⟩ := Fu.ex
  exact ⟨f, _, G, m, Fu.kp, fun s us ws _ h1 h2 => .of_eq (h kV doc pm an cdv ct us ws h1 h2), fun h1 h2 => vals_perm (h1.append h2) ix⟩
end Pd

/-! cells of one's own are left behind: what is handed out is plain data -/
namespace Pd
open PySem L2
open Evl (Ex)
mutual
inductive Rn (n : Nat) (μ : Mu) : W → PyData → Prop
  | d (x : PyData) : Rn n μ (.d x) x
  | m {k : Nat} {ws : List W} {xs : List PyData} : n ≤ k → μ[k]? = some (some (.lst ws)) → Rns n μ ws xs → Rn n μ (.m k) (.list xs)
  | t {ws : List W} {xs : List PyData} : Rns n μ ws xs → Rn n μ (.t ws) (.tuple xs)
inductive Rns (n : Nat) (μ : Mu) : List W → List PyData → Prop
  | nil : Rns n μ [] []
  | cons {w : W} {x : PyData} {ws : List W} {xs : List PyData} : Rn n μ w x → Rns n μ ws xs → Rns n μ (w :: ws) (x :: xs)
end
theorem Rns.ds {n : Nat} {μ : Mu} : ∀ xs : List PyData, Rns n μ (xs.map W.d) xs
  | [] => .nil
  | x :: xs => .cons (.d x) (Rns.ds xs)
theorem Rns.mp {n : Nat} {μ : Mu} {α : Type} (f : α → PyData) : ∀ xs : List α, Rns n μ (xs.map fun x => W.d (f x)) (xs.map f)
  | [] => .nil
  | x :: xs => .cons (.d (f x)) (Rns.mp f xs)
def DataC : C → Prop
  | .lst ws => ∃ xs : List PyData, ws = xs.map W.d
  | .xd _ _ => False
  | .er _ _ => True
  | .dk _ => False
  | .fk _ _ _ => False
  | .ob _ _ => False
section
variable {K : PySem.W.Frag} {A : Addr → Prop} {M M1 : List Addr} {H H1 : Hp} {μ μ1 μ' : Mu} {cs : Mu}
mutual
theorem vr_cut {Hv H0 : Hp} {n : Nat} (hn : M.length = n) : ∀ {w : W} {v v0 : V}, VR K Hv M1 v w → VR K H0 M v0 w → VR K Hv (M1.take n) v w
  | .d x, _, _, h, _ => by cases h with | d h => exact .d h
  | .m k, _, _, h, g => by
    cases h with
    | m h =>
      cases g with
      | m g =>
        refine .m ?_
        rw [List.getElem?_take, if_pos (by rw [← hn]; exact (List.getElem?_eq_some_iff.mp g).1)]
        exact h
  | .t ws, _, _, h, g => by
    cases h with
    | t h1 h2 =>
      cases g with
      | t g1 g2 => exact .t h1 (vrs_cutM hn h2 g2)
  | .f ws, _, _, h, g => by
    cases h with
    | f h1 h2 =>
      cases g with
      | f g1 g2 => exact .f h1 (vrs_cutM hn h2 g2)
  | .k v, _, _, h, _ => by cases h with | k => exact .k _
theorem vrs_cutM {Hv H0 : Hp} {n : Nat} (hn : M.length = n) : ∀ {ws : List W} {vs vs0 : List V}, VRs K Hv M1 vs ws → VRs K H0 M vs0 ws → VRs K Hv (M1.take n) vs ws
  | [], _, _, h, _ => by cases h with | nil => exact .nil
  | w :: ws, _, _, h, g => by
    cases h with
    | cons h1 h2 =>
      cases g with
      | cons g1 g2 => exact .cons (vr_cut hn h1 g1) (vrs_cutM hn h2 g2)
end
theorem vrs_dataM {Hv : Hp} {M M' : List Addr} {vs : List V} {xs : List PyData} (h : VRs K Hv M vs (xs.map W.d)) : VRs K Hv M' vs (xs.map W.d) := VRs.of_dp h.dp
theorem hid_cut {n : Nat} (hl : μ'.length = n) (h1 : μ1 = μ' ++ cs) {a : Addr} (h : hid A (M1.take n) μ' a) : hid A M1 μ1 a := by
  rcases h with z | ⟨k, c, e1, e2⟩
  · exact .inl z
  · have hk : k < n := by
      have := (List.getElem?_eq_some_iff.mp e2).1
      omega
    rw [List.getElem?_take, if_pos hk] at e1
    exact .inr ⟨k, c, e1, by rw [h1, List.getElem?_append_left (by omega)]; exact e2⟩
mutual
theorem rn_dq {n : Nat} (mo1 : MOk K A M1 H1 μ1) (hl : μ'.length = n) (h1 : μ1 = μ' ++ cs) : ∀ {w : W} {d : PyData} {v : V}, Rn n μ1 w d → VR K (vw A M1 μ1 H1) M1 v w → DQ K (vw A (M1.take n) μ' H1) v d
  | _, _, _, .d x, h => by
    cases h with
    | d h => exact dp_mono (fun a o q => vw_of (fun z => (vw_some q).1 (hid_cut hl h1 z)) (vw_some q).2 (vw_nt q)) h
  | _, _, _, .m hk hc hs, h => by
    obtain ⟨a, vs, rfl, hm, e, ru⟩ := cell_get mo1 h hc
    refine .lst (vw_of (fun z => ?_) e) (rns_dq mo1 hl h1 hs ru)
    rcases z with z | ⟨j, c, e1, e2⟩
    · exact mo1.nA a (List.mem_of_getElem? hm) z
    · have hj : j < n := by
        have := (List.getElem?_eq_some_iff.mp e2).1
        omega
      rw [List.getElem?_take, if_pos hj] at e1
      have l1 := List.getElem?_eq_some_iff.mp hm
      have l2 := List.getElem?_eq_some_iff.mp e1
      have := (List.getElem_inj mo1.nd).mp (l1.2.trans l2.2.symm)
      omega
  | _, _, _, .t hs, h => by
    cases h with
    | t g1 g2 => exact .tup (Evl.ex_t (fun a o q => vw_of (fun z => (vw_some q).1 (hid_cut hl h1 z)) (vw_some q).2 (vw_nt q)) g1) (rns_dq mo1 hl h1 hs g2)
theorem rns_dq {n : Nat} (mo1 : MOk K A M1 H1 μ1) (hl : μ'.length = n) (h1 : μ1 = μ' ++ cs) : ∀ {ws : List W} {ds : List PyData} {vs : List V}, Rns n μ1 ws ds → VRs K (vw A M1 μ1 H1) M1 vs ws → DQs K (vw A (M1.take n) μ' H1) vs ds
  | _, _, _, .nil, h => by cases h; exact .nil
  | _, _, _, .cons g1 g2, h => by
    cases h with
    | cons h1' h2' => exact .cons (rn_dq mo1 hl h1 g1 h1') (rns_dq mo1 hl h1 g2 h2')
end
/-- what is changed of the cells that were there is plain data -/
theorem krs_cut {κ : Type} {Hv H0 : Hp} {n : Nat} (hn : M.length = n) : ∀ {us us0 : List (κ × V)} {kvs : List (κ × W)}, KRs K Hv M1 us kvs → KRs K H0 M us0 kvs → KRs K Hv (M1.take n) us kvs
  | [], _, [], _, _ => trivial
  | _ :: _, _ :: _, _ :: _, h, g => ⟨h.1, vr_cut hn h.2.1 g.2.1, krs_cut hn h.2.2 g.2.2⟩
  | _ :: _, [], _ :: _, _, g => g.elim
  | [], _, _ :: _, h, _ => h.elim
  | _ :: _, _, [], h, _ => h.elim
def Keeps (μ μ' : Mu) : Prop := ∀ (j : Nat) c, μ'[j]? = some (some c) → μ[j]? = some (some c) ∨ DataC c
theorem Keeps.refl (μ : Mu) : Keeps μ μ := fun _ _ h => .inl h
theorem Keeps.set {μ : Mu} {k : Nat} {xs : List PyData} {ws : List W} (e : ws = xs.map W.d := by first | rfl | simp) : Keeps μ (μ.set k (some (.lst ws))) := fun j c h => by
  by_cases hj : k = j
  · subst hj
    rw [List.getElem?_set, if_pos rfl] at h
    split at h
    · have : C.lst ws = c := by simpa using h
      subst this
      exact .inr ⟨xs, e⟩
    · cases h
  · rw [List.getElem?_set, if_neg hj] at h
    exact .inl h
theorem fz_core {v : V} {w : W} {d : PyData} (mo0 : MOk K A M H μ) (mo1 : MOk K A M1 H1 μ1) (e : Eff A M μ H M1 μ1 H1) (h1 : μ1 = μ' ++ cs) (hl : μ'.length = μ.length) (hc : Keeps μ μ') (r : VR K (vw A M1 μ1 H1) M1 v w) (hr : Rn μ.length μ1 w d) :
    ∃ M2, MOk K A M2 H1 μ' ∧ Eff A M μ H M2 μ' H1 ∧ VR K (vw A M2 μ' H1) M2 v (.d d) ∧ M2 = M1.take μ.length := by
  have vx : Ex (vw A M1 μ1 H1) (vw A (M1.take μ.length) μ' H1) := fun a o q => vw_of (fun z => (vw_some q).1 (hid_cut hl h1 z)) (vw_some q).2 (vw_nt q)
  have hM1 : M1.length = μ'.length + cs.length := by rw [mo1.len, h1, List.length_append]
  refine ⟨M1.take μ.length, ⟨by rw [List.length_take]; omega, mo1.nd.sublist (List.take_sublist _ _), fun a m => mo1.nA a (List.mem_of_mem_take m), fun a m => mo1.al a (List.mem_of_mem_take m), mo1.aA, mo1.tb, fun a o m => mo1.aT a o (m.imp id List.mem_of_mem_take), fun k a c e1 e2 => ?_⟩, ⟨fun k a e1 => ?_, e.own, e.ex.trans vx⟩, .d (rn_dq mo1 hl h1 hr r), rfl⟩
  · have hk : k < μ.length := by
      have := (List.getElem?_eq_some_iff.mp e2).1
      omega
    rw [List.getElem?_take, if_pos hk] at e1
    obtain ⟨o, q1, q2⟩ := mo1.ct k a c e1 (by rw [h1, List.getElem?_append_left (by omega)]; exact e2)
    refine ⟨o, q1, ?_⟩
    cases c with
    | lst ws =>
      obtain ⟨vs, rfl, rv⟩ := q2
      refine ⟨vs, rfl, ?_⟩
      rcases hc k _ e2 with z | ⟨xs, rfl⟩
      · have ha : M[k]? = some (M[k]'(by rw [mo0.len]; exact hk)) := List.getElem?_eq_getElem _
        obtain ⟨o0, p1, vs0, rfl, rv0⟩ := mo0.ct k _ _ ha z
        exact (vrs_cutM (n := μ.length) mo0.len rv rv0).mono vx (Pre.refl _)
      · exact vrs_dataM (rv.mono vx (Pre.refl _))
    | xd d w =>
      obtain ⟨q0, v, rfl, rv⟩ := q2
      refine ⟨q0, v, rfl, ?_⟩
      rcases hc k _ e2 with z | z
      · have ha : M[k]? = some (M[k]'(by rw [mo0.len]; exact hk)) := List.getElem?_eq_getElem _
        obtain ⟨o0, p1, _, v0, rfl, rv0⟩ := mo0.ct k _ _ ha z
        exact (vr_cut (n := μ.length) mo0.len rv rv0).mono vx (Pre.refl _)
      · exact z.elim
    | er x d => exact q2
    | dk kvs =>
      obtain ⟨us, rfl, rv⟩ := q2
      refine ⟨us, rfl, ?_⟩
      rcases hc k _ e2 with z | z
      · have ha : M[k]? = some (M[k]'(by rw [mo0.len]; exact hk)) := List.getElem?_eq_getElem _
        obtain ⟨o0, p1, us0, rfl, rv0⟩ := mo0.ct k _ _ ha z
        exact (krs_cut (n := μ.length) mo0.len rv rv0).mono vx (Pre.refl _)
      · exact z.elim
    | fk od us kvs =>
      obtain ⟨rfl, rv⟩ := q2
      refine ⟨rfl, ?_⟩
      rcases hc k _ e2 with z | z
      · have ha : M[k]? = some (M[k]'(by rw [mo0.len]; exact hk)) := List.getElem?_eq_getElem _
        obtain ⟨o0, p1, rfl, rv0⟩ := mo0.ct k _ _ ha z
        exact (krs_cut (n := μ.length) mo0.len rv rv0).mono vx (Pre.refl _)
      · exact z.elim
    | ob x fs =>
      obtain ⟨C, dx, vs, g1, rfl, rv⟩ := q2
      rcases hc k _ e2 with z | z
      · have ha : M[k]? = some (M[k]'(by rw [mo0.len]; exact hk)) := List.getElem?_eq_getElem _
        obtain ⟨o0, p1, C0, dx0, vs0, f1, rfl, rv0⟩ := mo0.ct k _ _ ha z
        exact ⟨C, dx, vs, g1, rfl, (krs_cut (n := μ.length) mo0.len rv rv0).mono vx (Pre.refl _)⟩
      · exact z.elim
  · have hk : k < μ.length := by
      rw [← mo0.len]
      exact (List.getElem?_eq_some_iff.mp e1).1
    rw [List.getElem?_take, if_pos hk]
    exact e.pre k a e1
end
/-- w, with the cells μ1, is data; the cells that were there ahead (μ) come to μ' -/
def Fz (μ : Mu) (w : W) (μ1 : Mu) (R : W → Mu → Prop) : Prop := ∃ μ' cs d, μ1 = μ' ++ cs ∧ μ'.length = μ.length ∧ Keeps μ μ' ∧ Rn μ.length μ1 w d ∧ R (.d d) μ'
theorem Fz.same {μ : Mu} {cs : Mu} {w : W} {d : PyData} {R : W → Mu → Prop} (hr : Rn μ.length (μ ++ cs) w d) (q : R (.d d) μ) : Fz μ w (μ ++ cs) R := ⟨μ, cs, d, rfl, rfl, Keeps.refl μ, hr, q⟩
theorem Fz.id {μ : Mu} {d : PyData} {R : W → Mu → Prop} (q : R (.d d) μ) : Fz μ (.d d) μ R := ⟨μ, [], d, by simp, rfl, Keeps.refl μ, .d d, q⟩
theorem ax_fz {K : PySem.W.Frag} {Γ : G} {μ : Mu} {te : TE} {R : W → Mu → Prop} (h : AX K te Γ μ fun w μ1 => Fz μ w μ1 R) : AX K te Γ μ R := fun A M σ H c Q q =>
  h A M σ H c Q fun M1 H1 v w μ1 mo1 e1 r1 ⟨μ', cs, d, a1, a2, a3, a4, hR⟩ => by
    obtain ⟨M2, mo2, e2, r2, _⟩ := fz_core c.mo mo1 e1 a1 a2 a3 r1 a4
    exact q M2 H1 v _ μ' mo2 e2 r2 hR
theorem as_fz {K : PySem.W.Frag} {Γ : G} {μ : Mu} {t : TS} {R : W → Mu → Prop} (h : AS K t { nx := fun _ μ1 => Fz μ (.d .none) μ1 R, rt := fun w μ1 => Fz μ w μ1 R } Γ μ) : AS K t { nx := fun _ μ1 => R (.d .none) μ1, rt := R } Γ μ := fun A M σ H c E hE => by
  have hn : ∀ M1 σ1 H1 Γ1 μ1, Cn K A M1 σ1 H1 Γ1 μ1 → Eff A M μ H M1 μ1 H1 → Fz μ (.d .none) μ1 R → E.nx σ1 H1 := fun M1 σ1 H1 Γ1 μ1 c1 e1 ⟨μ', cs, d, a1, a2, a3, a4, hR⟩ => by
    have a4' : Rn μ.length μ1 (.d .none) d := a4
    cases a4'
    obtain ⟨M2, mo2, e2, r2, _⟩ := fz_core c.mo c1.mo e1 a1 a2 a3 (.d .non : VR K (vw A M1 μ1 H1) M1 .non (.d .none)) (.d .none)
    refine hE.nx M2 σ1 H1 (List.replicate σ1.length none) μ' ⟨mo2, by simp, fun i w hw => ?_⟩ e2 hR
    rw [List.getElem?_replicate] at hw
    split at hw <;> cases hw
  exact h A M σ H c E ⟨hn, fun M1 H1 v w μ1 mo1 e1 r1 ⟨μ', cs, d, a1, a2, a3, a4, hR⟩ => by
    obtain ⟨M2, mo2, e2, r2, _⟩ := fz_core c.mo mo1 e1 a1 a2 a3 r1 a4
    exact hE.rt M2 H1 v _ μ' mo2 e2 r2 hR, fun M1 σ1 H1 Γ1 μ1 c1 e1 z => z.elim, fun M1 σ1 H1 Γ1 μ1 c1 e1 z => z.elim, fun _ _ _ _ _ _ _ _ _ _ _ _ z => z.elim⟩
/-! cells by number -/
theorem mu_set {μ : Mu} {k : Nat} {c c' : Option C} (h : μ[k]? = some c) : (μ.set k c')[k]? = some c' := by
  rw [List.getElem?_set, if_pos rfl, if_pos (List.getElem?_eq_some_iff.mp h).1]
theorem mu_ne {μ : Mu} {k j : Nat} {c' : Option C} (h : k ≠ j) : (μ.set k c')[j]? = μ[j]? := by rw [List.getElem?_set, if_neg h]
theorem mu_end {μ : Mu} {c : Option C} : (μ ++ [c])[μ.length]? = some c := by rw [List.getElem?_append_right (Nat.le_refl _)]; simp
theorem mu_setEnd {μ : Mu} {c c' : Option C} : (μ ++ [c]).set μ.length c' = μ ++ [c'] := by rw [List.set_append_right _ _ (Nat.le_refl _)]; simp
theorem mu_app {μ ν : Mu} {k : Nat} {c : Option C} (h : μ[k]? = some c) : (μ ++ ν)[k]? = some c := by rw [List.getElem?_append_left (List.getElem?_eq_some_iff.mp h).1]; exact h
theorem mu_setApp {μ ν : Mu} {k : Nat} {c c' : Option C} (h : μ[k]? = some c) : (μ ++ ν).set k c' = μ.set k c' ++ ν := List.set_append_left _ _ (List.getElem?_eq_some_iff.mp h).1
abbrev wInts (ns : List Int) : List W := ns.map fun n => W.d (.int n)
abbrev dInts (ns : List Int) : PyData := .list (ns.map PyData.int)
theorem ints_d (ns : List Int) : wInts ns = (ns.map PyData.int).map W.d := by simp [wInts]
theorem lw_ints (μ : Mu) (ns : List Int) : LW μ (.d (dInts ns)) (wInts ns) := by
  rw [ints_d]
  exact .d _
theorem ln_ints (μ : Mu) (ns : List Int) : LN μ (.d (dInts ns)) (wInts ns) := by
  rw [ints_d]
  exact .d _
theorem rss_ints {μ : Mu} (ns : List Int) : Rss μ (wInts ns) (ns.map PyData.int) := by
  rw [ints_d]
  exact Rss.ds _
theorem rns_ints {n : Nat} {μ : Mu} (ns : List Int) : Rns n μ (wInts ns) (ns.map PyData.int) := by
  rw [ints_d]
  exact Rns.ds _
theorem eqvAll_ints : ∀ xs ys : List Int, PyData.eqvAll (xs.map PyData.int) (ys.map PyData.int) = decide (xs = ys)
  | [], [] => rfl
  | [], _ :: _ => rfl
  | _ :: _, [] => rfl
  | x :: xs, y :: ys => by
    rw [List.map_cons, List.map_cons, PyData.eqvAll, eqvAll_ints xs ys, PyData.eqv]
    by_cases h : x = y
    · subst h
      by_cases h2 : xs = ys
      · subst h2; simp
      · simp [h2]
    · simp [h]
theorem eqv_ints (xs ys : List Int) : PyData.eqv (dInts xs) (dInts ys) = decide (xs = ys) := eqvAll_ints xs ys
theorem canLayAll_ints : ∀ xs : List Int, PyData.canLayAll0 (xs.map PyData.int) = true
  | [] => rfl
  | x :: xs => by rw [List.map_cons, PyData.canLayAll0, canLayAll_ints xs]; rfl
theorem depthAll_ints : ∀ xs : List Int, PyData.depthAll (xs.map PyData.int) ≤ 1
  | [] => by simp [PyData.depthAll]
  | x :: xs => by
    rw [List.map_cons, PyData.depthAll]
    have := depthAll_ints xs
    simp only [PyData.depth]
    omega
theorem shaped_ints (xs : List Int) : SeqAt.shaped (dInts xs) = true := by
  unfold SeqAt.shaped
  have h1 : PyData.canLay0 (dInts xs) = true := canLayAll_ints xs
  have h2 : PyData.depth (dInts xs) ≤ 64 := by
    have := depthAll_ints xs
    simp only [dInts, PyData.depth]
    omega
  rw [h1, decide_eq_true h2]
  rfl
end Pd

namespace Pd
open PySem L2
theorem pow_ok {i j : Int} {a : Nat} (hj : 0 ≤ j) (ha : i.natAbs < 2 ^ a) (h : (a : Int) * j ≤ 2 ^ 27) : COp i j :=
  ⟨hj, Int.le_trans (Int.mul_le_mul_of_nonneg_right (Int.ofNat_le.mpr (PyProof.Rows.intBits_le ha)) hj) h⟩
theorem sz_ok {n : Nat} (h : n ≤ 100000) : n ≤ sizeLine := Nat.le_trans h (by decide)
theorem sz_lt {n : Nat} (h : n < 100000) : n < sizeLine := Nat.lt_of_lt_of_le h (by decide)
theorem atI_get {α : Type} {xs : List α} {i : Nat} {x : α} (h : xs[i]? = some x) : atI xs (i : Int) = some x := by
  unfold atI ixN
  have hi := (List.getElem?_eq_some_iff.mp h).1
  rw [if_pos (by omega), if_pos (by omega)]
  simpa using h
theorem atI_end {α : Type} {xs : List α} {x : α} : atI (xs ++ [x]) (-1) = some x := by
  unfold atI ixN
  rw [if_neg (by omega), if_pos (by simp; omega)]
  have e : ((-1 : Int) + ((xs ++ [x]).length : Int)).toNat = xs.length := by simp; omega
  rw [e]
  simp
theorem atI_int {ns : List Int} {i : Int} {x : Int} (h : atI ns i = some x) : atI (wInts ns) i = some (.d (.int x)) := by
  unfold atI at h ⊢
  rw [show (wInts ns).length = ns.length by simp]
  cases e : ixN ns.length i with
  | none => rw [e] at h; cases h
  | some j =>
    rw [e] at h
    have h' : ns[j]? = some x := h
    show (wInts ns)[j]? = _
    rw [List.getElem?_map, h']
    rfl
theorem ite_t {c : Bool} {A B : Prop} (hc : c = true) (h : A) : if c = true then A else B := by rw [if_pos hc]; exact h
theorem ite_f {c : Bool} {A B : Prop} (hc : c = false) (h : B) : if c = true then A else B := by rw [hc]; rw [if_neg (by decide)]; exact h
theorem ite_b {c : Bool} {A B : Prop} (h1 : c = true → A) (h2 : c = false → B) : if c = true then A else B := by
  cases c with
  | true => rw [if_pos rfl]; exact h1 rfl
  | false => rw [if_neg (by decide)]; exact h2 rfl
/-- a cell that was found: the cells as they are are it -/
theorem cut_int {ns : List Int} {lo hi : Option Int} : cutW (wInts ns) lo hi = wInts ((ns.drop (HT.sIx ns.length 0 lo)).take (HT.sIx ns.length ns.length hi - HT.sIx ns.length 0 lo)) := by
  unfold cutW wInts
  rw [List.length_map, List.map_take, List.map_drop]
end Pd
namespace Pd
open PySem L2
section
variable {μ : Mu} {R : W → Mu → Prop}
theorem NL.d0 (h : R (.d (.list [])) μ) : NL [] μ R := NL.d (xs := []) h rfl
theorem NL.d1 {a : PyData} (h : R (.d (.list [a])) μ) : NL [W.d a] μ R := NL.d (xs := [a]) h rfl
theorem NL.d2 {a b : PyData} (h : R (.d (.list [a, b])) μ) : NL [W.d a, W.d b] μ R := NL.d (xs := [a, b]) h rfl
theorem NL.d3 {a b c : PyData} (h : R (.d (.list [a, b, c])) μ) : NL [W.d a, W.d b, W.d c] μ R := NL.d (xs := [a, b, c]) h rfl
theorem NL.di {ns : List Int} (h : R (.d (dInts ns)) μ) : NL (wInts ns) μ R := NL.d (xs := ns.map PyData.int) h (ints_d ns)
theorem NT.d1 {a : PyData} (h : R (.d (.tuple [a])) μ) : NT [W.d a] μ R := NT.d (xs := [a]) h rfl
theorem NT.d2 {a b : PyData} (h : R (.d (.tuple [a, b])) μ) : NT [W.d a, W.d b] μ R := NT.d (xs := [a, b]) h rfl
theorem NT.d3 {a b c : PyData} (h : R (.d (.tuple [a, b, c])) μ) : NT [W.d a, W.d b, W.d c] μ R := NT.d (xs := [a, b, c]) h rfl
end
theorem eqv_nil (ns : List Int) : PyData.eqv (dInts ns) (.list []) = decide (ns = []) := eqv_ints ns []
theorem mu_set2 {μ : Mu} {k : Nat} {a b : Option C} : (μ.set k a).set k b = μ.set k b := List.set_set ..
end Pd
namespace Pd
open PySem L2
theorem TW.d1 {a : PyData} : TW (.d (.tuple [a])) [.d a] := .d [a]
theorem TW.d2 {a b : PyData} : TW (.d (.tuple [a, b])) [.d a, .d b] := .d [a, b]
theorem TW.d3 {a b c : PyData} : TW (.d (.tuple [a, b, c])) [.d a, .d b, .d c] := .d [a, b, c]
theorem TW.d4 {a b c e : PyData} : TW (.d (.tuple [a, b, c, e])) [.d a, .d b, .d c, .d e] := .d [a, b, c, e]
theorem TW.d5 {a b c e f : PyData} : TW (.d (.tuple [a, b, c, e, f])) [.d a, .d b, .d c, .d e, .d f] := .d [a, b, c, e, f]
end Pd
namespace Pd
open PySem L2
theorem tyw_l {μ : Mu} {xs : List PyData} : TyW μ (.d (.list xs)) "list" := .d (.list xs)
theorem tyw_t {μ : Mu} {xs : List PyData} : TyW μ (.d (.tuple xs)) "tuple" := .d (.tuple xs)
theorem tyw_b {μ : Mu} {x : Bool} : TyW μ (.d (.bool x)) "bool" := .d (.bool x)
theorem tyw_i {μ : Mu} {x : Int} : TyW μ (.d (.int x)) "int" := .d (.int x)
theorem tyw_s {μ : Mu} {x : Str} : TyW μ (.d (.str x)) "str" := .d (.str x)
theorem tyw_n {μ : Mu} : TyW μ (.d .none) "NoneType" := .d .none
end Pd
namespace Pd
open PySem L2
theorem kb_NoneType_list : kitB "NoneType" "list" = some false := by decide +kernel
theorem kb_NoneType_tuple : kitB "NoneType" "tuple" = some false := by decide +kernel
theorem kb_NoneType_bool : kitB "NoneType" "bool" = some false := by decide +kernel
theorem kb_NoneType_int : kitB "NoneType" "int" = some false := by decide +kernel
theorem kb_NoneType_str : kitB "NoneType" "str" = some false := by decide +kernel
theorem kb_bool_list : kitB "bool" "list" = some false := by decide +kernel
theorem kb_bool_tuple : kitB "bool" "tuple" = some false := by decide +kernel
theorem kb_bool_bool : kitB "bool" "bool" = some true := by decide +kernel
theorem kb_bool_int : kitB "bool" "int" = some true := by decide +kernel
theorem kb_bool_str : kitB "bool" "str" = some false := by decide +kernel
theorem kb_int_list : kitB "int" "list" = some false := by decide +kernel
theorem kb_int_tuple : kitB "int" "tuple" = some false := by decide +kernel
theorem kb_int_bool : kitB "int" "bool" = some false := by decide +kernel
theorem kb_int_int : kitB "int" "int" = some true := by decide +kernel
theorem kb_int_str : kitB "int" "str" = some false := by decide +kernel
theorem kb_str_list : kitB "str" "list" = some false := by decide +kernel
theorem kb_str_tuple : kitB "str" "tuple" = some false := by decide +kernel
theorem kb_str_bool : kitB "str" "bool" = some false := by decide +kernel
theorem kb_str_int : kitB "str" "int" = some false := by decide +kernel
theorem kb_str_str : kitB "str" "str" = some true := by decide +kernel
theorem kb_list_list : kitB "list" "list" = some true := by decide +kernel
theorem kb_list_tuple : kitB "list" "tuple" = some false := by decide +kernel
theorem kb_list_bool : kitB "list" "bool" = some false := by decide +kernel
theorem kb_list_int : kitB "list" "int" = some false := by decide +kernel
theorem kb_list_str : kitB "list" "str" = some false := by decide +kernel
theorem kb_tuple_list : kitB "tuple" "list" = some false := by decide +kernel
theorem kb_tuple_tuple : kitB "tuple" "tuple" = some true := by decide +kernel
theorem kb_tuple_bool : kitB "tuple" "bool" = some false := by decide +kernel
theorem kb_tuple_int : kitB "tuple" "int" = some false := by decide +kernel
theorem kb_tuple_str : kitB "tuple" "str" = some false := by decide +kernel
end Pd

/-! Err: own error classes whose base's __init__ says super().__init__(word) and self.value = value. -/
namespace PySem
namespace OwnErr
open PySem.W PySem.Calls PyProof.Rows PySem.HandSPX
abbrev eA (p1 p2 : Pos) : Arguments := { posonlyargs := [], args := [{ arg := "self", annotation := none, pos := p1 }, { arg := "value", annotation := none, pos := p2 }], vararg := none, kwonlyargs := [], kw_defaults := [], kwarg := none, defaults := [] }
abbrev eB (wd : Str) (i : Nat) (q : Nat → Pos) : List Stmt :=
  [.Expr (.Call (.Attribute (.Call (.Name "super" (q 0)) [] [] (q 1)) "__init__" (q 2)) [.Constant (.str wd) i (q 3)] [] (q 4)) (q 5), .Assign [.Attribute (.Name "self" (q 6)) "value" (q 7)] (.Name "value" (q 8)) (q 9)]
abbrev eS : Scope := { kind := .function, names := [(PySem.Str.ofString "self", .local), (PySem.Str.ofString "value", .local), (PySem.Str.ofString "__class__", .free), (PySem.Str.ofString "super", .globalImplicit)], isGenerator := false, isCoroutine := false, more := [] }
/-- what the written part says of the base D and of its __init__ at fI -/
structure Bse (P : Program) (K : Frag) (D fI : Addr) : Prop where
  fn : ∃ (oc kV doc pm ct ccl cl : Value) (od an cdd cld : Option Addr) (cda cc : Addr) (osl ccs csl : Array (Option Value)) (vs : Array Value) (file : Str) (tf : Tok) (p1 p2 : Pos) (wd : Str) (i : Nat) (q : Nat → Pos),
    K.lookup fI = some ⟨oc, od, .func (ksFn "__init__" "WindowError.__init__" (eA p1 p2) (eB wd i q) eS .none kV doc pm an (.ref cda) ct cc), osl⟩ ∧ codeIn K (.ref cda) "WindowError.__init__" = true ∧
    K.lookup cda = some ⟨ccl, cdd, .fields vs, ccs⟩ ∧ vs[2]? = some (.str file tf) ∧ ((P.main.file : Str) == file) = true ∧ K.lookup cc = some ⟨cl, cld, .cell (some (.ref D)), csl⟩ ∧
    ∀ env : Env, ∃ pl : Sem Bool, eval (.Call (.Attribute (.Call (.Name "super" (q 0)) [] [] (q 1)) "__init__" (q 2)) [.Constant (.str wd) i (q 3)] [] (q 4)) env = (do
      let ov ← attributeBase (.Call (.Name "super" (q 0)) [] [] (q 1)) "__init__" env (eval (.Call (.Name "super" (q 0)) [] [] (q 1)) env)
      standAt (q 2).atName
      let (f, first) ← holding [ov] (getMethod ov "__init__" pl)
      callWith (q 4) f first (backTo (q 4) (starEach [.Constant (.str wd) i (q 3)] env)) [])
  dc : ∃ cd, clsIn K D = some cd
  top : (P.main.scope.names.lookup ("super" : Str)).isSome = false
  any : nsIn K cStatics "thirdparty.any" = some none
  ty : typeIn K (.ref fI) = some (.type "function")
/-- .. of a class C below it -/
structure Sub (K : Frag) (C D fI : Addr) : Prop where
  ox : L2.OexC K C
  xf : L2.XfC K C
  noN : findIn K (.ref C) "value" = some none
  iC : findIn K (.ref C) "__init__" = some (some (.ref fI))
  below : mroIn K C (.ref D) = some true
  sup : ks_superIn K C D "__init__" = some (some (.builtin "ValueError.__init__"))
  ve : subIn K (.ref C) (.type "ValueError") = some true
structure Glb (mg : Str → Option Value) (h : Heap) : Prop where
  g : h.Ns mainGlobals mg
  b : ∃ mb, h.Ns builtinsNs mb ∧ ∀ x : Str, x ≠ "__name__" → mb x = bootBuiltins x
theorem Glb.keeps {mg : Str → Option Value} {h h' : Heap} (G : Glb mg h) (k : ∀ b o, h.get? b = some o → h'.get? b = some o) : Glb mg h' :=
  ⟨G.g.keeps k, let ⟨mb, a, b⟩ := G.b; ⟨mb, a.keeps k, b⟩⟩
/-- what is made: the error at e, its dict at d -/
structure Made (h h' : Heap) (e C d : Addr) (v : Value) : Prop where
  keep : ∀ b o, h.get? b = some o → h'.get? b = some o
  new : h.objs.size ≤ e
  obj : ∃ oe vs, h'.get? e = some oe ∧ oe.cls = .ref C ∧ oe.dict = some d ∧ oe.data = .fields vs ∧ vs[1]? = some .none
  dbig : h.objs.size ≤ d
  dne : d ≠ e
  ns : h'.Ns1 d (fun y => if y = "value" then some v else none)
section
variable {prog : Program} {w : World} {A : Around} {E : Value → Shared → Prop} {R : Result → Shared → Prop} {s : Shared} {K : Frag} {mg : Str → Option Value} {C D fI : Addr}
/-- ValueError.__init__ bound to the error, called -/
theorem call_mw {nm q : Str} {N : Addr} {bs bm : List Value} {hdct : Bool} {sn : List Str} {sub : List Value} {ab : Bool} {col : Option Bool} {dd : Option Addr} {k0 k1 k2 k3 k5 : Option Value} {u e t0 : Addr} {rest : List Value} {Q : Value → Shared → Prop}
    (hC : s.heap.get? C = some (excClassObj nm q C N bs bm hdct sn sub ab col dd k0 k1 k2 k3 k5 "ValueError.__new__")) (he : s.heap.get? e = some (excO C t0)) (hu : s.heap.get? u = some (kxs_mw "ValueError.__init__" e)) (hz : rest.length ≤ sizeLine)
    (fin : ∀ h' t1, (∀ b o, b ≠ e → s.heap.get? b = some o → h'.get? b = some o) → h'.get? e = some (excO C t1) → Q .none { s with heap := h' }) :
    wpAny (model prog w) A (call (.ref u) rest) Q E s := by
  obtain ⟨hh, g, d, tk, os⟩ := s
  have FB := F.excBase_ValueError
  refine wpAny_call (codeAny_of_tree (?_ : wpAny _ A.in1 (callAny (.ref u) ⟨rest, []⟩) _ _ _))
  rw [callAny]
  refine wpAny_bind (wpAny_load hu ?_)
  have tt : (Value.type "method-wrapper" == Value.type "method" || Value.type "method-wrapper" == Value.type "builtin_function_or_method" || Value.type "method-wrapper" == Value.type "method-wrapper") = true := by decide
  simp only [tt, if_true]
  refine KFB.if_so (by decide) (wpAny_bind (check_bound_init FB.toExcCallFacts hC he rfl (wpAny_bind (wpAny_pure (wpAny_pure ?_)))))
  refine ⟨plainId_quiet FB.init.plain _, codeAny_builtin FB.initEntry ?_⟩
  exact exc_init_tree (cls := .ref C) (t0 := t0) (dv := none) (c2 := .none) (c3 := .none) (b4 := .bool false) he hz fun h' k x _ => fin h' _ k x

theorem err_init (B : Bse prog K D fI) (T : Sub K C D fI) {x t0 : Addr} {v : Value} (X : K.In s.heap) (G : Glb mg s.heap) (hsup : mg "super" = none) (hlim : s.heap.NoLimit) (hx : s.heap.get? x = some (excO C t0)) (hnx : K.lookup x = none) (hroom : A.depth < recursionLimit)
    (hq : ∀ h' tk dx t1, (∀ b o, b ≠ x → s.heap.get? b = some o → h'.get? b = some o) → h'.get? x = some { cls := .ref C, dict := some dx, data := .fields #[.ref t1, .none, .none, .none, .bool false, .none] } → s.heap.objs.size ≤ dx → dx ≠ x →
      h'.Ns1 dx (fun y => if y = "value" then some v else none) → R (.ok (.ret .none)) { s with heap := h', toks := tk }) :
    codeAny (model prog w) A (.call (.ref fI) ⟨[.ref x, v], []⟩) R s := by
  obtain ⟨oc, kV, doc, pm, ct, ccl, cl, od, an, cdd, cld, cda, cc, osl, ccs, csl, vs, file, tf, p1, p2, wd, ix, q, ho, hcd, hco, hvs, hfile, hcell, hev⟩ := B.fn
  obtain ⟨cdD, hD⟩ := B.dc
  obtain ⟨nm, qn, N, bs, bm, sn, sub, ab, col, dd, k0, k1, k2, k3, k5, hC, hbm⟩ := T.ox.cls
  have hcl : clsIn K C = some { name := nm, bases := bs, mro := .ref C :: bm, ns := N, qualname := qn, hasDict := true, slotNames := sn, subclasses := sub, abstract := ab, collection := col, hasDel := false } := by unfold clsIn; rw [hC] <;> rfl
  refine ks_codeAny_call_defAt (fd := ksFn "__init__" "WindowError.__init__" (eA p1 p2) (eB wd ix q) eS .none kV doc pm an (.ref cda) ct cc) (body := eB wd ix q) (binds := [("self", .ref x), ("value", v)]) hroom (X _ _ ho) rfl hlim (codeRec_of X hcd) rfl (BindsTo.of_eq (by first | rfl | with_unfolding_all rfl)) (show ∀ y ∈ eS.names, y.2 ≠ .cell by decide) (locs rfl) (fun h₁ hns k => ?_) rfl rfl rfl
  have hxL : s.heap.objs.size ≠ x := Nat.ne_of_gt (Heap.lt_size hx)
  have X₁ : K.In h₁ := X.keeps k
  have hx₁ := k _ _ hx
  have G₁ := G.keeps k
  obtain ⟨mb, hmb, hmb2⟩ := G₁.b
  have hn : h₁.Ns s.heap.objs.size (fun y => ([("self", .ref x), ("value", v)] : List (Str × Value)).reverse.lookup y) := hns
  obtain ⟨oD, hD1, hD2⟩ : ∃ oD, h₁.get? D = some oD ∧ oD.data = .cls cdD := by
    unfold clsIn at hD
    split at hD
    · rename_i c d cd' sl ho
      cases hD
      exact ⟨_, X₁ _ _ ho, rfl⟩
    · cases hD
  have I : InstAt h₁ x (excO C t0) C none := ⟨hx₁, rfl, rfl, trivial⟩
  obtain ⟨h0, g, dr, tk, os⟩ := s
  show _root_.PySem.wpAt (model prog w) (A.deeper (ksEnv "WindowError.__init__" eS h0.objs.size fI (.ref cda) cc)) (.func (eB wd ix q) (ksEnv "WindowError.__init__" eS h0.objs.size fI (.ref cda) cc)) (execs (eB wd ix q) (ksEnv "WindowError.__init__" eS h0.objs.size fI (.ref cda) cc)) _ _ _
  obtain ⟨pl, hpl⟩ := hev (ksEnv "WindowError.__init__" eS h0.objs.size fI (.ref cda) cc)
  refine ks_wpAt_execs_cons (ks_wpAt_Expr_any (ks_wpAt_MethodCall (pl := pl) ?_ hpl))
  refine ks_wpAt_super_base (env := ksEnv "WindowError.__init__" eS h0.objs.size fI (.ref cda) cc) rfl rfl (by decide) rfl (X₁ _ _ ho) rfl rfl rfl (X₁ _ _ hco) rfl hvs hfile B.top ?_
  refine ks_loadName_global rfl rfl (loadGlobal_builtin (env := ksEnv "WindowError.__init__" eS h0.objs.size fI (.ref cda) cc) G₁.g hsup hmb ((hmb2 _ (by decide)).trans (by first | boot_by_name | rfl | kernel_rfl)) ⟨rfl, ?_⟩)
  refine wpAny_loadName_free rfl rfl rfl ⟨_, X₁ _ _ hcell, rfl⟩ ?_
  refine wpAny_loadName_local rfl rfl hn (show _ = some (.ref x) from rfl) ?_
  refine ks_wpAny_isType_cls hD1 hD2 ⟨rfl, ?_⟩
  refine ks_wpAny_call_super hD1 hD2 hx₁ rfl (fun c e => ?_) (looks_mroIn X₁ T.below) (fun h2 e2 k2 => ?_)
  · cases e
  have X₂ : K.In h2 := X₁.keeps k2
  refine kxs_getMethod kxs_ValueError e2 (looks_opaque X₂ B.any) (l₀ := .ref C :: bm) ((looks_clsIn X₂ hcl).andThen .now) rfl X₂ ?_ ?_ ?_ (by decide) ?_
  · have z := T.sup
    unfold ks_superIn at z
    rw [hcl] at z
    exact z
  · exact (I.type (M := model prog w)).keeps k2 |>.andThen (looks_subIn X₂ T.ve)
  · have I2 : InstAt h2 x (excO C t0) C none := ⟨k2 _ _ hx₁, rfl, rfl, trivial⟩
    exact ks_ne X₂ I2 hcl
  refine kxs_callWith (i := "ValueError.__init__") (x := x) rfl (evalArgs_plain ?_)
  refine Calls.spliced_cons (Calls.Constant_str (k := ix) (pos := q 3) (Calls.spliced_nil ⟨?_, ?_⟩))
  · exact Heap.get?_push_size _ rfl
  refine call_mw (C := C) (t0 := t0) (X₂.keeps (fun b o e => Heap.get?_push_of_some _ e) _ _ hC) (Heap.get?_push_of_some _ (k2 _ _ hx₁)) (Heap.get?_push_size _ rfl) (by rw [sizeLine_eq]; exact (by decide : 1 ≤ 16777216)) fun h3 t1 k3 e3 => ?_
  have up : ∀ b o, b ≠ x → h₁.get? b = some o → h3.get? b = some o := fun b o hb e => k3 b o hb (Heap.get?_push_of_some _ (k2 b o e))
  have X₃ : K.In h3 := fun b o e => up b o (fun z => by rw [z, hnx] at e; cases e) (X₁ b o e)
  have hn3 : h3.Ns h0.objs.size (fun y => ([("self", .ref x), ("value", v)] : List (Str × Value)).reverse.lookup y) := by
    obtain ⟨o, es, ep, e, r⟩ := hn
    exact ⟨o, es, ep, up _ _ hxL e, r⟩
  refine ks_wpAt_execs_cons (wpAt_of_wpAny (plainObj_wpAny_Assign_Attribute ?_))
  refine wpAny_Name (wpAny_loadName_local rfl rfl hn3 (show _ = some v from rfl) ?_) (by decide)
  refine wpAny_Name (wpAny_loadName_local rfl rfl hn3 (show _ = some (.ref x) from rfl) ?_) (by decide)
  refine set_plain X₃ (ox := excO C t1) (od := none) ⟨e3, rfl, rfl, trivial⟩ T.ox.sa ?_
  refine exc_osa X₃ e3 hcl (show refsVE (.ref C :: bm) = true from hbm) rfl T.noN (fun h4 tk4 dx k4 dn dne hx4 hn4 => ?_)
  have z : h0.objs.size < h3.objs.size := hn3.lt
  exact wpAt_of_wpAny (wpAny_execs_nil (hq h4 tk4 dx t1 (fun b o hb e => k4 b o hb (up b o hb (k b o e))) hx4 (Nat.le_of_lt (Nat.lt_of_lt_of_le z dn)) dne hn4))
theorem err_made (B : Bse prog K D fI) (T : Sub K C D fI) {v : Value} (X : K.In s.heap) (G : Glb mg s.heap) (hsup : mg "super" = none) (hlim : s.heap.NoLimit) (hroom : A.depth + 1 < recursionLimit)
    (hq : ∀ h' tk e d, Made s.heap h' e C d v → R (.ok (.ret (.ref e))) { s with heap := h', toks := tk }) :
    codeAny (model prog w) A (.call (.ref C) ⟨[v], []⟩) R s := by
  obtain ⟨nm, q, N, bs, bm, sn, sub, ab, col, dd, k0, k1, k2, k3, k5, hC, hbm⟩ := T.ox.cls
  obtain ⟨hp, g, dr, tk, os⟩ := s
  have up : ∀ b o, hp.get? b = some o → ((hp.push (kdv_tup [v])).push (excO C hp.objs.size)).get? b = some o := fun b o e => Heap.get?_push_of_some _ (Heap.get?_push_of_some _ e)
  have hx : ((hp.push (kdv_tup [v])).push (excO C hp.objs.size)).get? (hp.objs.size + 1) = some (excO C hp.objs.size) := by heap_get
  have hnx : K.lookup (hp.objs.size + 1) = none := by
    cases e : K.lookup (hp.objs.size + 1) with
    | none => rfl
    | some o =>
      have z := Heap.lt_size (X _ _ e)
      exact absurd (Nat.lt_of_succ_lt z) (Nat.lt_irrefl _)
  refine call_own F.excBase_ValueError (fun Y => refsVE_contains Y bm hbm) (X _ _ hC) (looks_findIn X T.iC) (fun self => bind_fn X self B.ty) (by rw [sizeLine_eq]; exact (by decide : 1 ≤ 16777216)) ?_
  refine err_init (s := ⟨(hp.push (kdv_tup [v])).push (excO C hp.objs.size), g, dr, tk, os⟩) B T (X.keeps up) (G.keeps up) hsup (hlim.keeps up) hx hnx (show A.depth + 1 < recursionLimit from hroom) fun h' tk' dx t1 k' ex dn dne hns => ?_
  have old : ∀ b o, hp.get? b = some o → h'.get? b = some o := fun b o e => k' b o (Nat.ne_of_lt (Nat.lt_succ_of_lt (Heap.lt_size e))) (up b o e)
  have z : hp.objs.size + 1 + 1 ≤ dx := by simpa only [Heap.size_push] using dn
  exact ⟨rfl, hq h' tk' _ dx ⟨old, Nat.le_succ _, ⟨_, _, ex, rfl, rfl, rfl, rfl⟩, (show hp.objs.size ≤ dx by omega), dne, hns⟩⟩
end
end OwnErr
end PySem
namespace L2
open PySem PySem.Spec PyProof.Rows
theorem relO_value {v : V} {u : Value} (r : RelV v u) (f : Str) : RelO (List.lookup f [(("value" : Str), v)]) (if f = "value" then some u else none) := by
  by_cases e : f = "value"
  · subst e
    rw [if_pos rfl, show List.lookup ("value" : Str) [(("value" : Str), v)] = some v from by simp [List.lookup]]
    exact r
  · have q : (f == ("value" : Str)) = false := by simpa using e
    rw [if_neg e, show List.lookup f [(("value" : Str), v)] = none from by simp [List.lookup, q]]
    trivial
/-- C(e): its class and a new dict with the field value -/
def tMkErr (C : Addr) (ta : TA) : St → Hp → XK → Prop := fun σ H Q => ta σ H fun vs H1 => ∃ v, vs = [v] ∧ ∀ d, H1 d = none → Q (.ref C) (some d) (upd H1 d (.xd [(("value" : Str), v)]))
/-- a class of errors, as the text's top leaves it -/
structure Err (P : Program) (K : PySem.W.Frag) (mg : Str → Option Value) (x : Str) (C : Addr) : Prop where
  ex : ∃ D fI : Addr, PySem.OwnErr.Bse P K D fI ∧ PySem.OwnErr.Sub K C D fI
  gC : mg x = some (.ref C)
  sup : mg "super" = none
theorem pmk_err {X : Cx} {C : Addr} {x : Str} {a : Expr} {ta : TA} {p pos : Pos} {k : Nat} (T : Err X.prog X.K X.mg x C) (hr : Room k X.A) (ha : PA X [a] ta) (hg : Gl X x := by rfl) (hdb : (x == ("__debug__" : Str)) = false := by decide)
    (he : starEach (a :: []) X.env = (false, eval a X.env) :: starEach [] X.env := by rfl) (hpl : (backTo pos (starEach [] X.env)).any (·.1) = false := by rfl) :
    PMk X (.Call (.Name x p) [a] [] pos) (tMkErr C ta) := by
  obtain ⟨D, fI, B, S⟩ := T.ex
  intro pins s σ H Q I h
  refine wpAny_Call_Name_kw (ld_glob I hg T.gC ?_ hdb)
  refine PySem.W.callWith_K (h₀ := X.base) I.ok.mod.kin S.ox.kC (thn (ha.run pos pins s σ H _ I h) fun us s1 ⟨vs, H1, I1, r1, v, ev, q1⟩ => ⟨I1.kIn, ?_⟩) he hpl
  subst ev
  cases r1 with
  | @cons _ v' _ us' rv rn =>
    cases rn
    show wpAny _ _ (call (.ref C) [v']) _ _ _
    have G : PySem.OwnErr.Glb X.mg s1.heap := ⟨I1.mod.glob.keeps I1.bk, let ⟨mb, a, b⟩ := I1.mod.blt; ⟨mb, a.keeps I1.bk, b⟩⟩
    have hlim := I1.nolimit
    obtain ⟨hp, g, dr, tk, os⟩ := s1
    refine wpAny_call (PySem.OwnErr.err_made B S I1.kIn G T.sup hlim (by have := hr.dp; omega) fun h' tk' e d M => ?_)
    show MkP X pins σ Q (.ref e) ⟨h', g, dr, tk', os⟩
    obtain ⟨oe, fv, hoe, hc, hd, hdat, h1⟩ := M.obj
    obtain ⟨G', g1, g2⟩ := restrict h' fun b => decide (b ≠ e)
    have gk : ∀ b, b ≠ e → G'.get? b = h'.get? b := fun b hb => g1 b (decide_eq_true hb)
    have ge : G'.get? e = none := g2 e (by simp)
    have J : Inv X pins σ (upd H1 d (.xd [(("value" : Str), v)])) ⟨G', g, dr, tk', os⟩ :=
      I1.laid (t' := tk') (fun b o q => (gk b (Nat.ne_of_lt (Nat.lt_of_lt_of_le (Heap.lt_size q) M.new))).trans (M.keep b o q)) M.dbig ⟨_, M.ns.at (fun o q => (gk d M.dne).trans q), fun f => relO_value rv f⟩
    have sub : ∀ b o, G'.get? b = some o → h'.get? b = some o := fun b o q => by
      by_cases hb : b = e
      · rw [hb, ge] at q
        cases q
      · exact (gk b hb).symm.trans q
    have ne : (upd H1 d (.xd [(("value" : Str), v)])) e = none := (upd_ne (Ne.symm M.dne)).trans (I1.hok.fresh M.new)
    exact ⟨e, oe, fv, ⟨G', g, dr, tk', os⟩, _, .ref C, some d, rfl, J, sub, ge, hoe, ⟨hc, hd⟩, hdat, h1, ne, rfl, I1.bare, raises_own S.ox.exC S.ox.tyC, q1 d (I1.hok.fresh M.dbig)⟩
end L2

/-! Pd8: defs that raise, try. An error's dict stands as a cell of its own. -/
namespace Pd
open PySem L2
open Evl (Ex)
open PyProof.Rows
variable {K : PySem.W.Frag}
/-! ### an error's dict goes out of sight: values do not hang on it -/
def ExL (H H' : Hp) : Prop := ∀ a o, H a = some o → (∀ fs, o ≠ .xd fs) → H' a = some o
theorem rdL {H H' : Hp} {a : Addr} {o : HO} (e : ExL H H') (ho : ∀ fs, o ≠ .xd fs) (h : Rd H a o) : Rd H' a o := by
  rcases h with h | ⟨o', h⟩
  · exact .inl (e _ _ h ho)
  · exact .inr ⟨o', e _ _ h fun fs z => by cases z⟩
theorem lstL {H H' : Hp} {a : Addr} {xs : List V} (e : ExL H H') (h : SqL K H a xs) : SqL K H' a xs := by
  rcases h with h | h
  · exact .inl (rdL e (fun fs z => by cases z) h)
  · exact .inr h
theorem tupL {H H' : Hp} {a : Addr} {xs : List V} (e : ExL H H') (h : SqT K H a xs) : SqT K H' a xs := by
  rcases h with h | h
  · exact .inl (rdL e (fun fs z => by cases z) h)
  · exact .inr h
mutual
theorem dqL {H H' : Hp} (e : ExL H H') : ∀ {v : V} {d : PyData}, DQ K H v d → DQ K H' v d
  | _, _, .non => .non
  | _, _, .bl b => .bl b
  | _, _, .int i => .int i
  | _, _, .str x => .str x
  | _, _, .lst h1 h2 => .lst (e _ _ h1 fun fs z => by cases z) (dqsL e h2)
  | _, _, .tup h1 h2 => .tup (tupL e h1) (dqsL e h2)
theorem dqsL {H H' : Hp} (e : ExL H H') : ∀ {vs : List V} {ds : List PyData}, DQs K H vs ds → DQs K H' vs ds
  | _, _, .nil => .nil
  | _, _, .cons h1 h2 => .cons (dqL e h1) (dqsL e h2)
end
mutual
theorem vrL {H H' : Hp} {M M' : List Addr} (e : ExL H H') (p : Pre M M') : ∀ {v : V} {w : W}, VR K H M v w → VR K H' M' v w
  | _, _, .d h => .d (dqL e h)
  | _, _, .m h => .m (p _ _ h)
  | _, _, .t h1 h2 => .t (tupL e h1) (vrsL e p h2)
  | _, _, .f h1 h2 => .f (lstL e h1) (vrsL e p h2)
  | _, _, .k v => .k v
theorem vrsL {H H' : Hp} {M M' : List Addr} (e : ExL H H') (p : Pre M M') : ∀ {vs : List V} {ws : List W}, VRs K H M vs ws → VRs K H' M' vs ws
  | _, _, .nil => .nil
  | _, _, .cons h1 h2 => .cons (vrL e p h1) (vrsL e p h2)
end
theorem krsL {κ : Type} {H H' : Hp} {M M' : List Addr} (e : ExL H H') (p : Pre M M') : ∀ {us : List (κ × V)} {kvs : List (κ × W)}, KRs K H M us kvs → KRs K H' M' us kvs
  | [], [], _ => trivial
  | _ :: _, _ :: _, h => ⟨h.1, vrL e p h.2.1, krsL e p h.2.2⟩
  | [], _ :: _, h => h.elim
  | _ :: _, [], h => h.elim
section
variable {A : Addr → Prop} {M : List Addr} {H : Hp} {μ : Mu} {d : Addr} {v : V} {w : W}
theorem hideL (hl : M.length = μ.length) (hv : vw A M μ H d = some (.xd [(("value" : PySem.Str), v)])) : ExL (vw A M μ H) (vw A (M ++ [d]) (μ ++ [some (.xd d w)]) H) := fun a o h ho => by
  obtain ⟨h1, h2⟩ := vw_some h
  refine vw_of (fun z => ?_) h2 (vw_nt h)
  rcases (hid_new hl).mp z with z | z
  · exact h1 z
  · subst z
    rw [hv] at h
    exact ho _ (Option.some.inj h).symm
/-- the error's dict becomes a cell -/
theorem MOk.hide (mo : MOk K A M H μ) (nm : d ∉ M) (hv : vw A M μ H d = some (.xd [(("value" : PySem.Str), v)])) (r : VR K (vw A M μ H) M v w) : MOk K A (M ++ [d]) H (μ ++ [some (.xd d w)]) := by
  obtain ⟨nh, hd⟩ := vw_some hv
  have e := hideL (w := w) mo.len hv
  refine ⟨by simp [mo.len], ?_, fun a m => ?_, fun a m => ?_, mo.aA, mo.tb, fun a o m z => ?_, fun j b c h1 h2 => ?_⟩
  · rw [List.nodup_append]
    refine ⟨mo.nd, by simp, fun a m b mb z => ?_⟩
    have : b = d := by simpa using mb
    subst this
    subst z
    exact nm m
  · rcases List.mem_append.mp m with m | m
    · exact mo.nA a m
    · have : a = d := by simpa using m
      subst this
      exact fun z => nh (.inl z)
  · rcases List.mem_append.mp m with m | m
    · exact mo.al a m
    · have : a = d := by simpa using m
      subst this
      rw [hd]
      intro z
      cases z
  · by_cases w : a = d
    · subst w
      rw [hd] at z
      cases z
      exact ⟨fun _ z => (by cases z), fun _ _ z => (by cases z)⟩
    · refine mo.aT a o (m.imp id fun m => ?_) z
      rcases List.mem_append.mp m with m | m
      · exact m
      · exact absurd (by simpa using m) w
  · by_cases hj : j < M.length
    · rw [List.getElem?_append_left hj] at h1
      rw [List.getElem?_append_left (by have := mo.len; omega)] at h2
      obtain ⟨u, q1, q2⟩ := mo.ct j b c h1 h2
      refine ⟨u, q1, ?_⟩
      cases c with
      | lst ws =>
        obtain ⟨vs, g1, g2⟩ := q2
        exact ⟨vs, g1, vrsL e pre_snoc g2⟩
      | xd d' w' =>
        obtain ⟨g0, v', g1, g2⟩ := q2
        exact ⟨g0, v', g1, vrL e pre_snoc g2⟩
      | er x' d' => exact q2
      | dk kvs =>
        obtain ⟨us, g1, g2⟩ := q2
        exact ⟨us, g1, krsL e pre_snoc g2⟩
      | fk od us kvs => exact ⟨q2.1, krsL e pre_snoc q2.2⟩
      | ob y fs =>
        obtain ⟨C, dx, vs, g1, g3, g4⟩ := q2
        exact ⟨C, dx, vs, g1, g3, krsL e pre_snoc g4⟩
    · have hj2 : j = M.length := by
        have := (List.getElem?_eq_some_iff.mp h1).1
        simp at this
        omega
      subst hj2
      rw [List.getElem?_append_right (Nat.le_refl _)] at h1
      rw [mo.len, List.getElem?_append_right (Nat.le_refl _)] at h2
      simp at h1 h2
      subst h1 h2
      exact ⟨_, hd, rfl, v, rfl, vrL e pre_snoc r⟩
end
/-- an error's value, the cells (its own dict's last): as data; the cells that were there (μ) come to μ' -/
def FzX (μ : Mu) (x : PySem.Str) (w : W) (μ1 : Mu) (S : PySem.Str → W → Mu → Prop) : Prop := ∃ μ' cs d, μ1 = μ' ++ cs ∧ μ'.length = μ.length ∧ Keeps μ μ' ∧ Rn μ.length μ1 w d ∧ S x (.d d) μ'
mutual
theorem Rn.app {n : Nat} {μ ν : Mu} : ∀ {w : W} {x : PyData}, Rn n μ w x → Rn n (μ ++ ν) w x
  | _, _, .d x => .d x
  | _, _, .m a b c => .m a (mu_app b) (Rns.app c)
  | _, _, .t a => .t (Rns.app a)
theorem Rns.app {n : Nat} {μ ν : Mu} : ∀ {ws : List W} {xs : List PyData}, Rns n μ ws xs → Rns n (μ ++ ν) ws xs
  | _, _, .nil => .nil
  | _, _, .cons a b => .cons (Rn.app a) (Rns.app b)
end
theorem last_get {M : List Addr} {d : Addr} {μ : Mu} (h : (M ++ [d]).length = μ.length + 1) : (M ++ [d])[μ.length]? = some d := by
  have : M.length = μ.length := by simpa using h
  rw [← this, List.getElem?_append_right (Nat.le_refl _)]
  simp
theorem fzx_core {A : Addr → Prop} {M M1 : List Addr} {H H1 : Hp} {μ μ1 : Mu} {d : Addr} {w : W} {x : PySem.Str} {S : PySem.Str → W → Mu → Prop} (mo0 : MOk K A M H μ) (mo1 : MOk K A (M1 ++ [d]) H1 (μ1 ++ [some (.xd d w)])) (e : Eff A M μ H (M1 ++ [d]) (μ1 ++ [some (.xd d w)]) H1) (hz : FzX μ x w μ1 S) :
    ∃ M2 μ2 u, MOk K A (M2 ++ [d]) H1 (μ2 ++ [some (.xd d u)]) ∧ Eff A M μ H (M2 ++ [d]) (μ2 ++ [some (.xd d u)]) H1 ∧ S x u μ2 := by
  obtain ⟨μ', cs, dt, h1, hl, hk, hr, hS⟩ := hz
  have hlen : (M1 ++ [d]).length = μ1.length + 1 := by rw [mo1.len]; simp
  obtain ⟨o, ho, _, v, hv, rv⟩ := mo1.ct μ1.length d (.xd d w) (last_get hlen) (by rw [List.getElem?_append_right (Nat.le_refl _)]; simp)
  subst hv
  have h1' : μ1 ++ [some (.xd d w)] = μ' ++ (cs ++ [some (.xd d w)]) := by rw [h1, List.append_assoc]
  obtain ⟨M2, mo2, e2, r2, hM2⟩ := fz_core mo0 mo1 e h1' hl hk rv hr.app
  have hle : μ.length ≤ μ1.length := by rw [h1, List.length_append]; omega
  have hM1 : M1.length = μ1.length := by simpa using hlen
  have nm : d ∉ M2 := fun m => by
    rw [hM2, List.take_append_of_le_length (by omega)] at m
    have := mo1.nd
    rw [List.nodup_append] at this
    exact this.2.2 d (List.mem_of_mem_take m) d (by simp) rfl
  have hvis : vw A M2 μ' H1 d = some (.xd [(("value" : PySem.Str), v)]) := vw_of (fun z => by
    rcases z with z | ⟨k, c, q1, _⟩
    · exact mo1.nA d (by simp) z
    · exact nm (List.mem_of_getElem? q1)) ho
  refine ⟨M2, μ', .d dt, mo2.hide nm hvis r2, ⟨e2.pre.trans pre_snoc, e2.own, fun a o' q => ?_⟩, hS⟩
  obtain ⟨n1, q1⟩ := vw_some (e2.ex a o' q)
  refine vw_of (fun z => ?_) q1 (vw_nt q)
  rcases (hid_new mo2.len).mp z with z | z
  · exact n1 z
  · subst z
    have z2 := (vw_some (e.ex a o' q)).1
    exact z2 (.inr ⟨μ1.length, .xd a w, last_get hlen, by rw [List.getElem?_append_right (Nat.le_refl _)]; simp⟩)
/-! ### defs that raise: by values -/
abbrev FX := List W → Mu → (W → Mu → Prop) → (PySem.Str → W → Mu → Prop) → Prop
def spX (K : PySem.W.Frag) (F : FX) : Sp := fun vs H Q E => ∃ (A : Addr → Prop) (M : List Addr) (μ : Mu) (ws : List W) (R : W → Mu → Prop) (S : PySem.Str → W → Mu → Prop), MOk K A M H μ ∧ VRs K (vw A M μ H) M vs ws ∧ F ws μ R S ∧
  (∀ M' H' v w μ', MOk K A M' H' μ' → Eff A M μ H M' μ' H' → VR K (vw A M' μ' H') M' v w → R w μ' → Q v H') ∧
  (∀ M' H' x a d w μ', clA K x a → MOk K A (M' ++ [d]) H' (μ' ++ [some (.xd d w)]) → Eff A M μ H (M' ++ [d]) (μ' ++ [some (.xd d w)]) H' → S x w μ' → E (.ref a) (some d) H')
abbrev NoX : PySem.Str → W → Mu → Prop := fun _ _ _ => False
/-- an expression that may raise -/
def AXx (K : PySem.W.Frag) (xw : L2.WX) (xc : PySem.Str → W → G → Mu → Prop) (te : TE) (Γ : G) (μ : Mu) (R : W → Mu → Prop) : Prop := ∀ (A : Addr → Prop) (M : List Addr) (σ : L2.St) (H : Hp), Cn K A M σ H Γ μ → XW K A M μ H xw xc → ∀ Q : VK,
  (∀ M' H' v w μ', MOk K A M' H' μ' → Eff A M μ H M' μ' H' → VR K (vw A M' μ' H') M' v w → R w μ' → Q v H') → te σ H Q
section
variable {Γ : G} {μ : Mu} {R : W → Mu → Prop} {ta tk : TA} {te : TE} {D : AEn} {xw : L2.WX} {xc : PySem.Str → W → G → Mu → Prop}
theorem axx_of (h : AX K te Γ μ R) : AXx K xw xc te Γ μ R := fun A M σ H c _ Q q => h A M σ H c Q q
/-- called where it does not raise -/
theorem ax_callX {F : FX} {E : XK} (h : AXA K ta Γ μ fun ws μ1 => F ws μ1 R NoX) : AX K (tCall (spX K F) [] E ta) Γ μ R := fun A M σ H c Q q =>
  h A M σ H c _ fun M1 H1 vs ws μ1 mo1 e1 r1 h1 => by
    show spX K F (vs ++ []) H1 Q E
    rw [List.append_nil]
    exact ⟨A, M1, μ1, ws, R, NoX, mo1, r1, h1, fun M' H' v w μ' mo' e' r' hR => q M' H' v w μ' mo' (e1.trans e') r' hR, fun _ _ _ _ _ _ _ _ _ _ z => z.elim⟩
theorem ax_callXN {F : FX} {E : XK} {n m : Nat} {ix : List Nat} (h : AXA K ta Γ μ fun ws μ1 => ws.length = n ∧ AXA K tk Γ μ1 fun us μ2 => us.length = m ∧ F (perm ix (ws ++ us)) μ2 R NoX) : AX K (tCallN n m (spX K F) (fun vs zs => perm ix (vs ++ zs)) E ta tk) Γ μ R := fun A M σ H c Q q =>
  h A M σ H c _ fun M1 H1 vs ws μ1 mo1 e1 r1 ⟨l1, h1⟩ => h1 A M1 σ H1 (c.eff e1 mo1) _ fun M2 H2 zs us μ2 mo2 e2 r2 ⟨l2, h2⟩ =>
    ⟨r1.length.trans l1, r2.length.trans l2, A, M2, μ2, _, R, NoX, mo2, vrs_perm ((r1.mono e2.ex e2.pre).append r2) ix, h2, fun M' H' v w μ' mo' e' r' hR => q M' H' v w μ' mo' ((e1.trans e2).trans e') r' hR, fun _ _ _ _ _ _ _ _ _ _ z => z.elim⟩
/-- called where it may raise -/
theorem axx_call {F : FX} (h : AXA K ta Γ μ fun ws μ1 => F ws μ1 R fun x w μ2 => xc x w Γ μ2) : AXx K xw xc (tCallS (spX K F) (WE xw) ta) Γ μ R := fun A M σ H c x Q q =>
  h A M σ H c _ fun M1 H1 vs ws μ1 mo1 e1 r1 h1 =>
    ⟨A, M1, μ1, ws, R, _, mo1, r1, h1, fun M' H' v w μ' mo' e' r' hR => q M' H' v w μ' mo' (e1.trans e') r' hR, fun M' H' n a d w μ' hc mo' e' hS => x M' σ H' Γ n a d w μ' hc (c.eff (e1.trans e') mo') (e1.trans e') hS⟩
theorem as_asgX {g : TG} (h : AXx K D.xw D.xc te Γ μ fun w μ1 => AG K g w Γ μ1 D.nx) : AS K (tAsg te g) D Γ μ := fun A M σ H cn E hd =>
  h A M σ H cn hd.xx _ fun M1 H1 v w μ1 mo1 e1 r1 h1 => h1 A M1 σ H1 v (cn.eff e1 mo1) r1 _ fun M2 σ2 H2 Γ2 μ2 c2 e2 h2 => hd.nx M2 σ2 H2 Γ2 μ2 c2 (e1.trans e2) h2
theorem as_dropX (h : AXx K D.xw D.xc te Γ μ fun _ μ1 => D.nx Γ μ1) : AS K (tDrop te) D Γ μ := fun A M σ H cn E hd =>
  h A M σ H cn hd.xx _ fun M1 H1 v w μ1 mo1 e1 r1 h1 => hd.nx M1 σ H1 Γ μ1 (cn.eff e1 mo1) e1 h1
theorem as_retX (h : AXx K D.xw D.xc te Γ μ D.rt) : AS K (tRet te) D Γ μ := fun A M σ H cn E hd => h A M σ H cn hd.xx _ fun M1 H1 v w μ1 mo1 e1 r1 h1 => hd.rt M1 H1 v w μ1 mo1 e1 r1 h1
/-- raise x(e) -/
def tRaiseE (K : PySem.W.Frag) (x : PySem.Str) (xw : L2.WX) (ta : TA) : TS := fun _ σ H => ∀ C, clA K x C → tMkErr C ta σ H fun cls d H' => xw cls d σ H'
theorem as_raise {x : PySem.Str} (h : AXA K ta Γ μ fun ws μ1 => ∃ w, ws = [w] ∧ D.xc x w Γ μ1) : AS K (tRaiseE K x D.xw ta) D Γ μ := fun A M σ H cn E hd C hC =>
  h A M σ H cn _ fun M1 H1 vs ws μ1 mo1 e1 r1 ⟨w, ew, hx⟩ => by
    subst ew
    cases r1 with
    | @cons v _ vs' _ rv rn =>
      cases rn
      refine ⟨v, rfl, fun d hd0 => ?_⟩
      have mo2 : MOk K A (M1 ++ [d]) (upd H1 d (.xd [(("value" : PySem.Str), v)])) (μ1 ++ [some (.xd d w)]) := mo1.new hd0 ⟨rfl, v, rfl, rv⟩
      have e2 : Eff A M1 μ1 H1 (M1 ++ [d]) (μ1 ++ [some (.xd d w)]) (upd H1 d (.xd [(("value" : PySem.Str), v)])) := Eff.new mo1 hd0
      exact hd.xx M1 σ _ Γ x C d w μ1 hC (cn.eff (e1.trans e2) mo2) (e1.trans e2) hx
/-- a def that raises: its own cells are left behind -/
theorem as_fzX {t : TS} {xk : L2.XK} {S : PySem.Str → W → Mu → Prop} (h : AS K t { nx := fun _ μ1 => Fz μ (.d .none) μ1 R, rt := fun w μ1 => Fz μ w μ1 R, xw := fun c d _ H => xk c d H, xc := fun x w _ μ1 => FzX μ x w μ1 S } Γ μ) :
    AS K t { nx := fun _ μ1 => R (.d .none) μ1, rt := R, xw := fun c d _ H => xk c d H, xc := fun x w _ μ1 => S x w μ1 } Γ μ := fun A M σ H c E hE => by
  refine h A M σ H c E ⟨fun M1 σ1 H1 Γ1 μ1 c1 e1 ⟨μ', cs, d, a1, a2, a3, a4, hR⟩ => ?_, fun M1 H1 v w μ1 mo1 e1 r1 ⟨μ', cs, d, a1, a2, a3, a4, hR⟩ => ?_, fun M1 σ1 H1 Γ1 μ1 c1 e1 z => z.elim, fun M1 σ1 H1 Γ1 μ1 c1 e1 z => z.elim, fun M1 σ1 H1 Γ1 x a d w μ1 hc c1 e1 hz => ?_⟩
  · have a4' : Rn μ.length μ1 (.d .none) d := a4
    cases a4'
    obtain ⟨M2, mo2, e2, r2, _⟩ := fz_core c.mo c1.mo e1 a1 a2 a3 (.d .non : VR K (vw A M1 μ1 H1) M1 .non (.d .none)) (.d .none)
    refine hE.nx M2 σ1 H1 (List.replicate σ1.length none) μ' ⟨mo2, by simp, fun i w hw => ?_⟩ e2 hR
    rw [List.getElem?_replicate] at hw
    split at hw <;> cases hw
  · obtain ⟨M2, mo2, e2, r2, _⟩ := fz_core c.mo mo1 e1 a1 a2 a3 r1 a4
    exact hE.rt M2 H1 v _ μ' mo2 e2 r2 hR
  · obtain ⟨M2, μ2, u, mo2, e2, hS⟩ := fzx_core c.mo c1.mo e1 hz
    refine hE.xx M2 σ1 H1 (List.replicate σ1.length none) x a d u μ2 hc ⟨mo2, by simp, fun i w hw => ?_⟩ e2 hS
    rw [List.getElem?_replicate] at hw
    split at hw <;> cases hw
end
/-- THE RULE for a def that raises -/
theorem fn_okX {P : PySem.Program} {w : PySem.World} {mg : PySem.Str → Option PySem.Value} {base : PySem.Heap} {x qual : PySem.Str} {st : PySem.Stmt} {f : Addr} {fd : PySem.FuncData} {N ps : List PySem.Str} {k : Nat} {F : FX} (Fu : Fun K x qual st f fd) (S : FnScope N ps (defScope st)) (len : ∀ ws μ R S, F ws μ R S → ws.length = ps.length)
    (hbody : ∀ (cdv : PySem.Value) (A : PySem.Around) (outer : List PySem.Env) (s : PySem.Shared) (H : Hp) (E : XK), Room k (A.deeper (PyProof.Rows.envOfC qual (defScope st) s.heap.objs.size f cdv)) →
      ∃ t, PSs (cxOf (L2.CX P w) P w K mg base N qual (defScope st) f cdv A outer s H E) (defBody st) t ∧ ∀ ws μ R S, F ws μ R S → AS K t { nx := fun _ μ' => R (.d .none) μ', rt := R, xw := fun c d _ H => E c d H, xc := fun x w _ μ' => S x w μ' } (stG N ws) μ) : FnOk P w K mg base (L2.CX P w) (k + 1) f fd ps (spX K F) := by
  refine Fu.okX S (fun vs H Q E h => ?_) (fun cdv A outer s H vs Q E hr h => ?_)
  · obtain ⟨A, M, μ, ws, R, S, mo, r, h, _⟩ := h
    rw [r.length]
    exact len ws μ R S h
  · obtain ⟨t, ht, hs⟩ := hbody cdv A outer s H E hr
    obtain ⟨A, M, μ, ws, R, S, mo, r, h, q, qx⟩ := h
    exact ⟨t, ht, hs ws μ R S h A M _ H ⟨mo, gr_start r⟩ _ ⟨fun M' σ' H' Γ' μ' c e h => q M' H' _ _ μ' c.mo e (.d .non) h, fun M' H' v w μ' mo' e' r' h => q M' H' v w μ' mo' e' r' h, fun _ _ _ _ _ _ _ h => h.elim, fun _ _ _ _ _ _ _ h => h.elim,
      fun M' σ' H' Γ' x a d w μ' hc c e h => qx M' H' x a d w μ' hc c.mo e h⟩⟩
end Pd

/-! Pd9: try with several clauses, each with a name or without; e.value; the walk's rules for defs that raise. -/
namespace L2
open PySem PySem.Spec PyProof.Rows
/-- a clause: the class, the slot of its name, its suite -/
structure Cl where
  c : Value
  i : Option Nat
  ts : Addr → Value → Option Addr → TS
def Cl.ends (h : Cl) (D : Ends) : Ends := match h.i with
  | none => D
  | some i => { nx := fun σ H => D.nx (σ.set i none) H, rt := D.rt, bk := fun σ H => D.bk (σ.set i none) H, ct := fun σ H => D.ct (σ.set i none) H }
def Cl.st (h : Cl) (a : Addr) (σ : St) : St := match h.i with
  | none => σ
  | some i => σ.set i (some (.ref a))
/-- what the clauses wish of an error of the body -/
def wCls (K : PySem.W.Frag) (out : WX) (D : Ends) : List Cl → WX
  | [] => out
  | h :: r => fun cls d σ H => ∃ b, PySem.W.exmOne K cls h.c = some b ∧ (b = true → ∀ a, H a = none → h.ts a cls d (h.ends D) (h.st a σ) H) ∧ (b = false → wCls K out D r cls d σ H)
inductive ClsOk (X : Cx) : List ExceptHandler → List Cl → Prop
  | nil : ClsOk X [] []
  | anon {x : Str} {c : Value} {ts : Addr → Value → Option Addr → TS} {b₀ : Stmt} {suite : List Stmt} {np pos' : Pos} {hds : List ExceptHandler} {l : List Cl} (hc : Names X x c)
      (hsu : ∀ (a : Addr) (oe : Obj) (cls : Value) (d : Option Addr) (pn : List (Addr × Obj)), Zc cls d oe → (∃ vs, oe.data = .fields vs) → PSs (X.suite a ((a, oe) :: pn)) (b₀ :: suite) (ts a cls d)) (r : ClsOk X hds l) :
      ClsOk X (.ExceptHandler (some (.Name x np)) none (b₀ :: suite) pos' :: hds) (⟨c, none, ts⟩ :: l)
  | named {x n : Str} {i : Nat} {c : Value} {ts : Addr → Value → Option Addr → TS} {b₀ : Stmt} {suite : List Stmt} {np pos' : Pos} {hds : List ExceptHandler} {l : List Cl} (hc : Names X x c) (hN : X.N.Nodup) (hi : X.N[i]? = some n) (hln : X.env.kindOf n = some .local)
      (hsu : ∀ (a : Addr) (oe : Obj) (cls : Value) (d : Option Addr) (pn : List (Addr × Obj)), Zc cls d oe → (∃ vs, oe.data = .fields vs) → PSs (X.suite a ((a, oe) :: pn)) (b₀ :: suite) (ts a cls d)) (r : ClsOk X hds l) :
      ClsOk X (.ExceptHandler (some (.Name x np)) (some n) (b₀ :: suite) pos' :: hds) (⟨c, some i, ts⟩ :: l)
section
variable {X : Cx} {body : List Stmt} {h₀ : ExceptHandler} {hds : List ExceptHandler} {l : List Cl} {pos : Pos} {tb : WX → TS} {out : WX}
theorem ps_tryA (hs : X.stack = X.env :: X.outer) (hf : X.env.frame = some X.env.locals) (tk : Takes X out)
    (hb : ∀ (W : WX) (pn : List (Addr × Obj)) (xe : Value → Shared → Prop), Takes (X.tr pn xe) W → PassesOwn (model X.prog X.w) X.A X.env xe → PSs (X.tr pn xe) body (tb W))
    (hh : ClsOk X (h₀ :: hds) l) : PS X (.Try body (h₀ :: hds) [] [] pos) (fun D σ H => tb (wCls X.K out D l) D σ H) := by
  refine ⟨fun pins s σ H D I h => ?_⟩
  have ok := I.ok
  have afr : X.A.frames = some (X.env :: X.outer) := ok.frames.trans (by rw [hs])
  refine wpAny_Try_except (wpAny_mono ((hb (wCls X.K out D l) (X.pn ++ pins) (fun e s₁ => wpAny (model X.prog X.w) X.A (noteFrame e X.env)
    (fun _ s₂ => wpAny (model X.prog X.w) X.A (setFlight e none) (fun _ s₃ => wpAny (model X.prog X.w) X.A (handleBy e X.env (h₀ :: hds)) (SP X pins D) X.xe s₃) X.xe s₂) X.xe s₁) (fun u s' xx => ?_) PassesOwn.looking).run [] s σ H D (I.toTry _) h)
    (fun f s1 hsp => ?_) (fun e s1 he => he))
  · obtain ⟨a, B, sI, pins', σ', H', cls, d, rfl, J', nb, up, sky, na, os, ag, w⟩ := xx
    have J : Inv X pins σ' H' sI := J'.ofTry ok
    rw [show (X.tr (X.pn ++ pins) _).stack = X.env :: X.outer from hs] at sky
    refine (Sky.land Zc.steady afr hf sky fun h3 fl3 up3 => ?_ : wpAny (model X.prog X.w) X.A (noteFrame (.ref a) X.env) _ _ _)
    have J3 : Inv X pins σ' H' { s' with heap := h3 } := J.landed nb fl3.1 (up.trans up3) os ag
    obtain ⟨oe3, vs3, he3, hz3, hd3⟩ := fl3.there
    have nfr : a ∉ frs (X.env :: X.outer) := fun hm => by
      obtain ⟨_, o', e', hnf⟩ := fl3.2.2.1.mem hm
      rw [he3] at e'
      cases e'
      exact hnf _ hd3
    have nL : a ≠ X.env.locals := fun z => nfr (List.mem_filterMap.mpr ⟨X.env, .head _, by rw [hf, z]⟩)
    have nF : a ∉ X.fs := fun hm => by
      obtain ⟨e, he, q⟩ := List.mem_filterMap.mp hm
      exact nfr (List.mem_filterMap.mpr ⟨e, .tail _ he, q⟩)
    have S3 := J3.suite he3 hd3 na nL nF
    have tyE : PySem.W.Looks (model X.prog X.w) h3 (typeOf (.ref a)) cls := fun A Q E s k q => wpAny_typeOf_ref (k _ _ he3) (by rw [hz3.1]; exact q)
    have asked : ∀ {x : Str} {np : Pos} {c : Value} {Q : Value → Shared → Prop} {E : Value → Shared → Prop}, Names X x c → Q c { s' with heap := h3 } → wpAny (model X.prog X.w) (X.A.mark (some (.ref a))) (eval (.Name x np) X.env) Q E { s' with heap := h3 } := by
      intro x np c Q E hc q
      obtain ⟨hg, hdbg, hm | ⟨hm, hv, hnn⟩⟩ := hc
      · exact ld_glob (X := X.suite a ((a, oe3) :: (X.pn ++ pins))) S3 hg hm q hdbg
      · exact ld_blt (X := X.suite a ((a, oe3) :: (X.pn ++ pins))) S3 hg hm hv q hnn hdbg
    have land4 : ∀ h4, HandSPX.FlyingZ B (X.env :: X.outer) a (Zc cls d) h4 → Heap.UpToSlots h3 h4 → ∃ oe4, (∃ vs, oe4.data = .fields vs) ∧ Zc cls d oe4 ∧ Inv (X.suite a ((a, oe4) :: (X.pn ++ pins))) [] σ' H' { s' with heap := h4 } := fun h4 fl4 up4 => by
      obtain ⟨oe4, vs4, he4, hz4, hd4⟩ := fl4.there
      exact ⟨oe4, ⟨_, hd4⟩, hz4, (J.landed nb fl4.1 ((up.trans up3).trans up4) os ag : Inv X pins σ' H' { s' with heap := h4 }).suite he4 hd4 na nL nF⟩
    have go : ∀ {hds' : List ExceptHandler} {l' : List Cl}, ClsOk X hds' l' → wCls X.K out D l' cls d σ' H' → wpAny (model X.prog X.w) X.A (handleBy (.ref a) X.env hds') (SP X pins D) X.xe { s' with heap := h3 } := by
      intro hds' l' hk
      induction hk with
      | nil =>
        intro w
        refine wpAny_handleBy_nil ?_
        obtain ⟨_, _, _, oe, vs, T, _, _, he, _, hd, h1, _⟩ := id fl3
        have thrown : wpAny (model X.prog X.w) X.A (setFlight (.ref a) X.env.frame) (fun _ s4 => wpAny (model X.prog X.w) X.A (throw (.ref a) : Sem Flow) (SP X pins D) X.xe s4) X.xe { s' with heap := h3 } := by
          rw [hf]
          exact HandSPX.setFlight_upZ fl3 fun h4 hh4 up4 => wpAny_throw (tk _ _ ⟨a, B, sI, pins, σ', H', cls, d, rfl, J, nb, (up.trans up3).trans up4, .inr (.inr (by rw [hs]; exact hh4)), na, os, ag, w⟩)
        unfold PySem.passOn
        refine wpAny_bind (wpAny_field he hd h1 ?_)
        rw [if_neg (show ¬ ((Value.ref T == Value.none) = true) by simp)]
        first
          | exact wpAny_bind (wpAny_pure (wpAny_bind thrown))
          | exact wpAny_bind thrown
      | @anon x c ts b₀ suite np pos' hds2 l2 hc hsu r ih =>
        intro ⟨b, hb1, hyes, hno⟩
        refine wpAny_handleBy_cons (codeAny_handlers_test (asked hc ((PySem.W.exm_one (M := model X.prog X.w) J3.kIn tyE hb1).here ?_))) (by intro q; cases q)
        cases b with
        | false => exact (ih (hno rfl) : wpAny _ X.A (handleBy (.ref a) X.env hds2) _ _ _)
        | true =>
          refine codeAny_handlers_suite (HandSPX.lands_againZ fl3 fun h4 fl4 up4 => ?_)
          obtain ⟨oe4, hd4, hz4, S4⟩ := land4 h4 fl4 up4
          refine wpAny_mono ((hsu a oe4 cls d (X.pn ++ pins) hz4 hd4).run [] _ _ H' _ S4 (hyes rfl a na)) (fun f s6 hsp => ?_) (fun _ _ z => z.elim)
          match f, hsp with
          | .next, ⟨_, _, S6, q6⟩ => exact ⟨_, _, S6.unsuite ok, q6⟩
          | .brk, ⟨_, _, S6, q6⟩ => exact ⟨_, _, S6.unsuite ok, q6⟩
          | .cont, ⟨_, _, S6, q6⟩ => exact ⟨_, _, S6.unsuite ok, q6⟩
          | .ret u, ⟨_, _, _, S6, r6, q6⟩ => exact ⟨_, _, _, S6.unsuite ok, r6, q6⟩
      | @named x n i c ts b₀ suite np pos' hds2 l2 hc hN hi hln hsu r ih =>
        intro ⟨b, hb1, hyes, hno⟩
        refine wpAny_handleBy_cons (codeAny_handlers_test (asked hc ((PySem.W.exm_one (M := model X.prog X.w) J3.kIn tyE hb1).here ?_))) (by intro q; cases q)
        cases b with
        | false => exact (ih (hno rfl) : wpAny _ X.A (handleBy (.ref a) X.env hds2) _ _ _)
        | true =>
          refine codeAny_handlers_suite_as (HandSPX.lands_againZ fl3 fun h4 fl4 up4 => ?_)
          obtain ⟨oe4, hd4, hz4, S4⟩ := land4 h4 fl4 up4
          refine store_ok (X := X.suite a ((a, oe4) :: (X.pn ++ pins))) (v := .ref a) S4 hN hi (.inl hln) rfl (fun s5 S5 => ?_) (.inr hln)
          refine wpAny_mono ((hsu a oe4 cls d (X.pn ++ pins) hz4 hd4).run [] s5 _ H' _ S5 (hyes rfl a na)) (fun f s6 hsp => ?_) (fun _ _ z => z.elim)
          have goes : ∀ {σ6 : St} {H6 : Hp} {Q : Shared → Prop}, Inv (X.suite a ((a, oe4) :: (X.pn ++ pins))) [] σ6 H6 s6 → (∀ s7, Inv X pins (σ6.set i none) H6 s7 → Q s7) →
              wpAny (model X.prog X.w) X.A (do bindName X.env n .none; unbindBehindTheSuite X.env n pos') (fun _ s7 => Q s7) X.xe s6 := fun {σ6 H6 Q} S6 hq => gone_ok (S6.unsuite ok) hN hi hln hq
          match f, hsp with
          | .next, ⟨_, _, S6, q6⟩ => exact goes S6 fun s7 J7 => ⟨_, _, J7, q6⟩
          | .brk, ⟨_, _, S6, q6⟩ => exact goes S6 fun s7 J7 => ⟨_, _, J7, q6⟩
          | .cont, ⟨_, _, S6, q6⟩ => exact goes S6 fun s7 J7 => ⟨_, _, J7, q6⟩
          | .ret u, ⟨_, _, _, S6, r6, q6⟩ => exact goes S6 fun s7 J7 => ⟨_, _, _, J7, r6, q6⟩
    exact go hh w
  · match f, hsp with
    | .next, ⟨σ', H', J', q⟩ => exact wpAny_execs_nil ⟨σ', H', J'.ofTry ok, q⟩
    | .brk, ⟨σ', H', J', q⟩ => exact ⟨σ', H', J'.ofTry ok, q⟩
    | .cont, ⟨σ', H', J', q⟩ => exact ⟨σ', H', J'.ofTry ok, q⟩
    | .ret u, ⟨v, σ', H', J', r, q⟩ => exact ⟨v, σ', H', J'.ofTry ok, r, q⟩
end
end L2
namespace Pd
open PySem L2
open Evl (Ex)
open PyProof.Rows
variable {K : PySem.W.Frag}
/-- what stands for x in an except clause -/
def ClV (K : PySem.W.Frag) (x : PySem.Str) (c : PySem.Value) : Prop := PySem.W.nsIn K PySem.mainGlobals x = some (some c) ∨ (PySem.W.nsIn K PySem.mainGlobals x = some none ∧ bootBuiltins x = some c)
/-- an error that the text calls x is one that the clause for y takes (or not) -/
def SubIs (K : PySem.W.Frag) (x y : PySem.Str) (b : Bool) : Prop := ∀ a c, clA K x a → ClV K y c → PySem.W.exmOne K (.ref a) c = some b
structure Hn where
  x : PySem.Str
  i : Option Nat
  ts : Addr → PySem.Value → Option Addr → TS
def CsOk (K : PySem.W.Frag) : List Hn → List Cl → Prop
  | [], [] => True
  | h :: r, c :: s => (ClV K h.x c.c ∧ c.i = h.i ∧ c.ts = h.ts) ∧ CsOk K r s
  | _, _ => False
def tTry (K : PySem.W.Frag) (hs : List Hn) (tb : L2.WX → TS) (out : L2.WX) : TS := fun D σ H => ∀ l, CsOk K hs l → tb (wCls K out D l) D σ H
def Hn.ends (h : Hn) (D : AEn) : AEn := match h.i with
  | none => D
  | some i => { D with nx := fun g m => D.nx (g.set i none) m, bk := fun g m => D.bk (g.set i none) m, ct := fun g m => D.ct (g.set i none) m }
def Hn.sl (h : Hn) (a : Addr) (Γ : G) : G := match h.i with
  | none => Γ
  | some i => Γ.set i (some (.k (.ref a)))
/-- what is wished of an error of the body: by its name and value, clause by clause. Its suite leaves no error in turn. -/
def hX (K : PySem.W.Frag) (D : AEn) : List Hn → PySem.Str → W → G → Mu → Prop
  | [] => D.xc
  | h :: r => fun x w Γ μ => ∃ b, SubIs K x h.x b ∧ (b = true → ∀ a C d, clA K x C → AS K (h.ts a (.ref C) (some d)) (h.ends D) (h.sl a Γ) (μ ++ [some (.xd d w)])) ∧ (b = false → hX K D r x w Γ μ)
section
variable {Γ : G} {μ : Mu} {R : W → Mu → Prop} {ta : TA} {te : TE} {D : AEn}
theorem as_try {hs : List Hn} {tb : L2.WX → TS} (h : ∀ xw : L2.WX, AS K (tb xw) { D with xw := xw, xc := hX K D hs } Γ μ) : AS K (tTry K hs tb D.xw) D Γ μ := fun A M σ H cn E hE l hl => by
  refine h (wCls K D.xw E l) A M σ H cn E ⟨hE.nx, hE.rt, hE.bk, hE.ct, fun M' σ' H' Γ' x a d w μ' hc c' e' hx => ?_⟩
  show wCls K D.xw E l (.ref a) (some d) σ' H'
  have hx' : hX K D hs x w Γ' μ' := hx
  clear hx h
  induction hs generalizing l with
  | nil =>
    cases l with
    | nil => exact hE.xx M' σ' H' Γ' x a d w μ' hc c' e' hx'
    | cons _ _ => exact hl.elim
  | cons h r ih =>
    cases l with
    | nil => exact hl.elim
    | cons c s =>
      obtain ⟨⟨h1, h2, h3⟩, hr⟩ := hl
      obtain ⟨b, hb, hy, hn⟩ := hx'
      refine ⟨b, hb a c.c hc h1, fun e a0 _ => ?_, fun e => ih s hr (hn e)⟩
      have q := hy e a0 a d hc
      obtain ⟨cc, ci, cts⟩ := c
      obtain ⟨hx0, hi, hts⟩ := h
      dsimp only at h2 h3
      subst h2 h3
      have hd' : Hd K A (M' ++ [d]) (μ' ++ [some (.xd d w)]) H' D E := hE.after e'
      cases ci with
      | none => exact q A _ σ' H' c' E hd'
      | some i =>
        refine q A _ _ H' ⟨c'.mo, c'.gr.set (.k _)⟩ _ ⟨fun M4 σ4 H4 Γ4 μ4 c4 e4 h4 => ?_, hd'.rt, fun M4 σ4 H4 Γ4 μ4 c4 e4 h4 => ?_, fun M4 σ4 H4 Γ4 μ4 c4 e4 h4 => ?_, hd'.xx⟩
        · exact hd'.nx M4 _ H4 _ μ4 ⟨c4.mo, c4.gr.drop⟩ e4 h4
        · exact hd'.bk M4 _ H4 _ μ4 ⟨c4.mo, c4.gr.drop⟩ e4 h4
        · exact hd'.ct M4 _ H4 _ μ4 ⟨c4.mo, c4.gr.drop⟩ e4 h4
/-- e.value, e the error that the suite holds -/
def tXv (K : PySem.W.Frag) (a : Addr) (cls : PySem.Value) (d : Option Addr) (te : TE) : TE := fun σ H Q => te σ H fun x H1 => x = .ref a ∧ ∃ C dd v, cls = .ref C ∧ XfC K C ∧ PySem.W.findIn K (.ref C) "value" = some none ∧ d = some dd ∧ H1 dd = some (.xd [(("value" : PySem.Str), v)]) ∧ Q v H1
/-- the errors that the text calls x have a value -/
def ErrV (K : PySem.W.Frag) (x : PySem.Str) : Prop := ∀ C, clA K x C → XfC K C ∧ PySem.W.findIn K (.ref C) "value" = some none
theorem ax_xv {a C d : Addr} {x : PySem.Str} {k : Nat} {w : W} (hx : ErrV K x) (hC : clA K x C) (h : AX K te Γ μ fun u μ1 => u = .k (.ref a) ∧ μ1[k]? = some (some (.xd d w)) ∧ R w μ1) : AX K (tXv K a (.ref C) (some d) te) Γ μ R := fun A M σ H c Q q =>
  h A M σ H c _ fun M1 H1 v u μ1 mo1 e1 r1 ⟨eu, hk, hR⟩ => by
    subst eu
    cases r1
    have hl : k < M1.length := by
      rw [mo1.len]
      exact (List.getElem?_eq_some_iff.mp hk).1
    obtain ⟨o, ho, ep, v, rfl, rv⟩ := mo1.ct k _ (.xd d w) (List.getElem?_eq_getElem hl) hk
    rw [ep] at ho
    exact ⟨rfl, C, d, v, rfl, (hx C hC).1, (hx C hC).2, rfl, ho, q M1 H1 v w μ1 mo1 e1 rv hR⟩
end
/-! ### the walk's rules -/
section
variable {X : Cx}
theorem pe_xv {a : Addr} {oe : Obj} {cls : Value} {d : Option Addr} {pn : List (Addr × Obj)} {e : Expr} {te : TE} {pos : Pos} (hz : Zc cls d oe) (hf : ∃ vs, oe.data = .fields vs) (he : PE (X.suite a ((a, oe) :: pn)) e te)
    (hb : attributeBase e "value" X.env (eval e X.env) = eval e X.env := by rfl) : PE (X.suite a ((a, oe) :: pn)) (.Attribute e "value" pos) (tXv X.K a cls d te) := by
  refine ⟨fun pins s σ H Q I h => attr_of hb (thn (he.run pins s σ H _ I h) fun u s1 ⟨x, H1, I1, rx, ex, C, dd, v, ec, T, hno, ed, ea, q⟩ => ?_)⟩
  subst ex ec ed
  obtain rfl : u = Value.ref a := rx
  obtain ⟨ha, _⟩ := I1.pin (a, oe) (List.mem_append_left _ (.head _))
  obtain ⟨vs, hd⟩ := hf
  obtain ⟨mA, hns, hr⟩ : ObjOk X.prog X.w H1 s1.heap dd (.xd [(("value" : PySem.Str), v)]) := I1.hok dd _ ea
  obtain ⟨od, ho, hl⟩ := lookIn_ns hns
  obtain ⟨u, hu, ru⟩ := RelO.some_of (v := v) (o := mA "value") (by have z := hr "value"; simpa [List.lookup] using z)
  have J : PySem.W.InstAt s1.heap a oe C (some od) := ⟨ha, hz.1, by unfold PySem.W.notCls; rw [hd] <;> rfl, by rw [hz.2]; exact ho⟩
  exact HandSPX.exc_get I1.kIn J T.ga T.gg T.exC (PySem.W.findObj_own T.hdC hno rfl (by rw [hl, hu])) (handed_of ru) ⟨v, H1, I1.tok _, ru, q⟩
/-- the text's x is a class of errors -/
def IsErr (P : Program) (K : PySem.W.Frag) (mg : Str → Option Value) (x : Str) : Prop := ∃ C, clA K x C ∧ Err P K mg x C
theorem ps_raiseE {x : Str} {xw : L2.WX} {a : Expr} {ta : TA} {p pos pos2 : Pos} {k : Nat} (hc : X.calm = true) (T : IsErr X.prog X.K X.mg x) (hr : Room k X.A) (tk : Takes X xw) (ha : PA X [a] ta) (hg : Gl X x := by rfl) (hdb : (x == ("__debug__" : Str)) = false := by decide)
    (he : starEach (a :: []) X.env = (false, eval a X.env) :: starEach [] X.env := by rfl) (hpl : (backTo pos (starEach [] X.env)).any (·.1) = false := by rfl) :
    PS X (.Raise (some (.Call (.Name x p) [a] [] pos)) none pos2) (tRaiseE X.K x xw ta) := by
  obtain ⟨C, hC, E⟩ := T
  exact ⟨fun pins s σ H D I h => (ps_raise hc tk (pmk_err E hr ha hg hdb he hpl)).run pins s σ H D I (h C hC)⟩
def HsOk (X : Cx) (hds : List ExceptHandler) (hs : List Hn) : Prop := ∃ l, ClsOk X hds l ∧ CsOk X.K hs l
theorem hs_nil : HsOk X [] [] := ⟨[], .nil, trivial⟩
theorem hs_named {x n : Str} {i : Nat} {ts : Addr → Value → Option Addr → TS} {b₀ : Stmt} {suite : List Stmt} {np pos' : Pos} {hds : List ExceptHandler} {hs : List Hn} (T : IsErr X.prog X.K X.mg x) (hN : X.N.Nodup)
    (hsu : ∀ (a : Addr) (oe : Obj) (cls : Value) (d : Option Addr) (pn : List (Addr × Obj)), Zc cls d oe → (∃ vs, oe.data = .fields vs) → PSs (X.suite a ((a, oe) :: pn)) (b₀ :: suite) (ts a cls d)) (r : HsOk X hds hs)
    (hg : Gl X x := by rfl) (hi : X.N[i]? = some n := by rfl) (hln : X.env.kindOf n = some .local := by rfl) (hdb : (x == ("__debug__" : Str)) = false := by decide) :
    HsOk X (.ExceptHandler (some (.Name x np)) (some n) (b₀ :: suite) pos' :: hds) (⟨x, some i, ts⟩ :: hs) := by
  obtain ⟨l, h1, h2⟩ := r
  obtain ⟨C, hC, E⟩ := T
  exact ⟨⟨.ref C, some i, ts⟩ :: l, .named ⟨hg, hdb, .inl E.gC⟩ hN hi hln hsu h1, ⟨.inl hC, rfl, rfl⟩, h2⟩
theorem hs_anon {x : Str} {ts : Addr → Value → Option Addr → TS} {b₀ : Stmt} {suite : List Stmt} {np pos' : Pos} {hds : List ExceptHandler} {hs : List Hn} (T : IsErr X.prog X.K X.mg x)
    (hsu : ∀ (a : Addr) (oe : Obj) (cls : Value) (d : Option Addr) (pn : List (Addr × Obj)), Zc cls d oe → (∃ vs, oe.data = .fields vs) → PSs (X.suite a ((a, oe) :: pn)) (b₀ :: suite) (ts a cls d)) (r : HsOk X hds hs)
    (hg : Gl X x := by rfl) (hdb : (x == ("__debug__" : Str)) = false := by decide) :
    HsOk X (.ExceptHandler (some (.Name x np)) none (b₀ :: suite) pos' :: hds) (⟨x, none, ts⟩ :: hs) := by
  obtain ⟨l, h1, h2⟩ := r
  obtain ⟨C, hC, E⟩ := T
  exact ⟨⟨.ref C, none, ts⟩ :: l, .anon ⟨hg, hdb, .inl E.gC⟩ hsu h1, ⟨.inl hC, rfl, rfl⟩, h2⟩
theorem ps_tryN {body : List Stmt} {h₀ : ExceptHandler} {hds : List ExceptHandler} {hs : List Hn} {pos : Pos} {tb : WX → TS} {out : WX} (tk : Takes X out)
    (hb : ∀ (xw : WX) (pn : List (Addr × Obj)) (xe : Value → Shared → Prop), Takes (X.tr pn xe) xw → PassesOwn (model X.prog X.w) X.A X.env xe → PSs (X.tr pn xe) body (tb xw))
    (hh : HsOk X (h₀ :: hds) hs) (hst : X.stack = X.env :: X.outer := by rfl) (hf : X.env.frame = some X.env.locals := by rfl) : PS X (.Try body (h₀ :: hds) [] [] pos) (tTry X.K hs tb out) := by
  obtain ⟨l, h1, h2⟩ := hh
  exact ⟨fun pins s σ H D I h => (ps_tryA hst hf tk hb h1).run pins s σ H D I (h l h2)⟩
/-! defs that raise, by their promises -/
def HasX (P : Program) (w : World) (K : PySem.W.Frag) (mg : Str → Option Value) (base : Heap) (x : Str) (ps : List Str) (k : Nat) (F : FX) : Prop :=
  ∃ f fd, FnOk P w K mg base (L2.CX P w) k f fd ps (spX K F) ∧ mg x = some (.ref f) ∧ PySem.W.keepIn K (.ref f) = true ∧ Binds K fd ps []
def HasXK (P : Program) (w : World) (K : PySem.W.Frag) (mg : Str → Option Value) (base : Heap) (x : Str) (ps : List Str) (k : Nat) (F : FX) (n : Nat) (ks : List Str) (ix : List Nat) : Prop :=
  ∃ f fd, FnOk P w K mg base (L2.CX P w) k f fd ps (spX K F) ∧ mg x = some (.ref f) ∧ PySem.W.keepIn K (.ref f) = true ∧ KBn K fd ps n ks (fun us ws => perm ix (us ++ ws)) (fun vs zs => perm ix (vs ++ zs))
variable {x : Str} {ps ks : List Str} {k n m : Nat} {F : FX} {e : Expr} {es : List Expr} {ta tk : TA} {p pos : Pos} {kws : List Keyword} {ix : List Nat} {xw : WX}
theorem pe_hasX (h : HasX X.prog X.w X.K X.mg X.base x ps k F) (hr : Room k X.A) (ha : PA X (e :: es) ta) (hg : Gl X x := by rfl) (hd : (x == ("__debug__" : Str)) = false := by decide)
    (he : starEach (e :: es) X.env = (false, eval e X.env) :: starEach es X.env := by rfl) (hpl : (backTo pos (starEach es X.env)).any (·.1) = false := by rfl) : PE X (.Call (.Name x p) (e :: es) [] pos) (tCall (spX X.K F) [] E0 ta) := by
  obtain ⟨f, fd, G, hmg, kp, b⟩ := h
  exact pe_call G hr hg hmg kp b .nil passL ha hd he hpl
theorem pe_hasXT (h : HasX X.prog X.w X.K X.mg X.base x ps k F) (hr : Room k X.A) (tk : Takes X xw) (ha : PA X (e :: es) ta) (hg : Gl X x := by rfl) (hd : (x == ("__debug__" : Str)) = false := by decide)
    (he : starEach (e :: es) X.env = (false, eval e X.env) :: starEach es X.env := by rfl) (hpl : (backTo pos (starEach es X.env)).any (·.1) = false := by rfl) : PE X (.Call (.Name x p) (e :: es) [] pos) (tCallS (spX X.K F) (WE xw) ta) := by
  obtain ⟨f, fd, G, hmg, kp, b⟩ := h
  exact pe_callS G hr hg hmg kp b (fun σ => passAt tk σ) ha hd he hpl
theorem pe_hasXN (h : HasXK X.prog X.w X.K X.mg X.base x ps k F n ks ix) (hr : Room k X.A) (ha : PA X (e :: es) ta) (hk : PK X kws tk) (hm : ks.length = m := by rfl) (hg : Gl X x := by rfl)
    (hall : (backToKw pos (keywordEach kws X.env)).all (·.1.isSome) = true := by rfl) (hks : (backToKw pos (keywordEach kws X.env)).filterMap (·.1) = ks := by rfl) (hdb : (x == ("__debug__" : Str)) = false := by decide)
    (he : starEach (e :: es) X.env = (false, eval e X.env) :: starEach es X.env := by rfl) (hpl : ((backTo pos (starEach (e :: es) X.env)).any (·.1) || (backToKw pos (keywordEach kws X.env)).any (·.1.isNone)) = false := by rfl) :
    PE X (.Call (.Name x p) (e :: es) kws pos) (tCallN n m (spX X.K F) (fun vs zs => perm ix (vs ++ zs)) E0 ta tk) := by
  subst hm
  obtain ⟨f, fd, G, hmg, kp, b⟩ := h
  exact pe_callN G hr hg hmg kp b passL ha hk hall hks hdb he hpl
theorem pe_hasXN0 (h : HasXK X.prog X.w X.K X.mg X.base x ps k F 0 ks ix) (hr : Room k X.A) (hk : PK X kws tk) (hm : ks.length = m := by rfl) (hg : Gl X x := by rfl)
    (hall : (backToKw pos (keywordEach kws X.env)).all (·.1.isSome) = true := by rfl) (hks : (backToKw pos (keywordEach kws X.env)).filterMap (·.1) = ks := by rfl) (hdb : (x == ("__debug__" : Str)) = false := by decide)
    (hpl : ((backTo pos (starEach [] X.env)).any (·.1) || (backToKw pos (keywordEach kws X.env)).any (·.1.isNone)) = false := by rfl) :
    PE X (.Call (.Name x p) [] kws pos) (tCallN 0 m (spX X.K F) (fun vs zs => perm ix (vs ++ zs)) E0 tNil tk) := by
  subst hm
  obtain ⟨f, fd, G, hmg, kp, b⟩ := h
  exact pe_callN0 G hr hg hmg kp b passL hk hall hks hdb hpl
end
theorem hasx_of {P : Program} {w : World} {mg : Str → Option Value} {base : Heap} {x qual : Str} {st : Stmt} {f : Addr} {fd : FuncData} {ps : List Str} {k : Nat} {F : FX} (Fu : Fun K x qual st f fd) (m : mg x = some (.ref f)) (G : FnOk P w K mg base (L2.CX P w) k f fd ps (spX K F))
    (h : ∀ (kV doc pm : Value) (an : Option Addr) (cdv ct : Value) (us : List Value), us.length = ps.length → bindArgs (PySem.W.fnOf x qual (defArgs st) (defBody st) (defScope st) .none kV doc pm an cdv ct) ⟨us, []⟩ = pure (ps.zip us)) : HasX P w K mg base x ps k F := ⟨f, fd, G, m, Fu.kp, Fu.binds h⟩
theorem hasxk_of {P : Program} {w : World} {mg : Str → Option Value} {base : Heap} {x qual : Str} {st : Stmt} {f : Addr} {fd : FuncData} {ps : List Str} {k : Nat} {F : FX} (Fu : Fun K x qual st f fd) (m : mg x = some (.ref f)) (G : FnOk P w K mg base (L2.CX P w) k f fd ps (spX K F)) (n : Nat) (ks : List Str) (ix : List Nat)
    (h : ∀ (kV doc pm : Value) (an : Option Addr) (cdv ct : Value) (us ws : List Value), us.length = n → ws.length = ks.length → bindArgs (PySem.W.fnOf x qual (defArgs st) (defBody st) (defScope st) .none kV doc pm an cdv ct) ⟨us, ks.zip ws⟩ = pure (ps.zip (perm ix (us ++ ws)))) : HasXK P w K mg base x ps k F n ks ix := by
  obtain ⟨oc, od, kV, doc, pm, an, cdv, ct, osl, rfl, lk, hcd⟩ := Fu.ex
  exact ⟨f, _, G, m, Fu.kp, fun s us ws _ h1 h2 => .of_eq (h kV doc pm an cdv ct us ws h1 h2), fun h1 h2 => vals_perm (h1.append h2) ix⟩
end Pd

/-! Pd10: promises of defs that are called where no guard stands (so repr may be asked). -/
namespace Pd
open PySem PySem.Spec L2
open Evl (Ex)
open PyProof.Rows
/-- a def's promise, where no guard stands -/
structure FnG (P : Program) (w : World) (K : PySem.W.Frag) (mg : Str → Option Value) (base : Heap) (CX : CXT) (k : Nat) (f : Addr) (fd : FuncData) (ps : List Str) (sp : Sp) : Prop where
  len : ∀ vs H Q E, sp vs H Q E → vs.length = ps.length
  go : ∀ (A : Around) (fr : List Env) (s : Shared) (H : Hp) (args : Args) (us : List Value) (vs : List V) (Q : VK) (E : XK), Room k A → A.guards = some [] → Env0 P w K mg base A fr s H → BindsTo s fd args (ps.zip us) → Vals vs us → sp vs H Q E →
    codeAny (model P w) A (.call (.ref f) args) (CR CX fr P w H s Q E) s
theorem fnG_of {CX : CXT} {P : Program} {w : World} {K : PySem.W.Frag} {mg : Str → Option Value} {base : Heap} {k : Nat} {f : Addr} {name qual : Str} {pr : Arguments} {bd : List Stmt} {sc : Scope} {dV kV doc pm cdv ct oc : Value} {an od : Option Addr}
    {osl : Array (Option Value)} {N ps : List Str} {sp : Sp} (lk : K.lookup f = some ⟨oc, od, .func (PySem.W.fnOf name qual pr bd sc dV kV doc pm an cdv ct), osl⟩) (hcd : PySem.W.codeIn K cdv qual = true) (S : FnScope N ps sc)
    (len : ∀ vs H Q E, sp vs H Q E → vs.length = ps.length)
    (hb : ∀ (A : Around) (fr : List Env) (s : Shared) (H : Hp) (vs : List V) (Q : VK) (E : XK), Room k (A.deeper (envOfC qual sc s.heap.objs.size f cdv)) → (A.deeper (envOfC qual sc s.heap.objs.size f cdv)).guards = some [] → sp vs H Q E →
      ∃ t, PSs (cxOf CX P w K mg base N qual sc f cdv A fr s H E) bd t ∧ t { nx := fun _ H' => Q .non H', rt := Q } (start N vs) H) :
    FnG P w K mg base CX (k + 1) f (PySem.W.fnOf name qual pr bd sc dV kV doc pm an cdv ct) ps sp := by
  refine ⟨len, fun A fr s H args us vs Q E hr hgd e0 hbi r hsp => ?_⟩
  have hl := len _ _ _ _ hsp
  have kb : ∀ b o, base.get? b = some o → s.heap.get? b = some o := fun b o e => (e0.bs b o e).1
  have KX : K.In s.heap := e0.mod.kin.keeps kb
  have kinds : ∀ y ∈ ps.zip us, sc.names.lookup y.1 = some .local ∨ (sc.names.lookup y.1 = some .cell ∧ ((cellsFrom (s.heap.objs.size + 1) sc.names []).lookup y.1).isSome = true) := by
    rintro ⟨n, v⟩ hy
    exact (S.par n (List.of_mem_zip hy).1).imp id fun q => ⟨q, PySem.W.cellsFrom_some _ _ _ (.inl q)⟩
  refine codeAny_call_function hr.depth (KX _ _ lk) rfl S.co S.gen rfl (PySem.W.codeRec_of KX hcd) (hbi _ _ _ _ (wpAny_newFunctionEnv_cells S.kind kinds fun env he s1 x => ?_))
  subst he
  refine ⟨(e0.mod.nolimit.keeps kb).keeps x.toInCall.keep, codeAny_func ?_⟩
  obtain ⟨t, ht, hq⟩ := hb A fr s H vs Q E (hr.deeper _) hgd hsp
  have I : Inv (cxOf CX P w K mg base N qual sc f cdv A fr s H E) [] (start N vs) H s1 := inv_start S hr.hd e0 hl r x
  refine wpAny_mono (ht.run [] s1 (start N vs) H _ I hq) (fun fl s' hs => ?_) fun e s' hs => hs
  match fl, hs with
  | .ret u, ⟨v, σ', H', J, rv, q⟩ => exact ⟨v, H', J.os, J.bare, J.base, J.hok, rv, q⟩
  | .next, ⟨σ', H', J, q⟩ => exact ⟨V.non, H', J.os, J.bare, J.base, J.hok, (rfl : RelV V.non Value.none), q⟩
  | .brk, ⟨_, _, _, q⟩ => exact q.elim
  | .cont, ⟨_, _, _, q⟩ => exact q.elim
section
variable {X : Cx} {CX : CXT} {k n : Nat} {f : Addr} {fd : FuncData} {ps ks : List Str} {sp : Sp} {E : L2.St → XK} {x : Str} {p pos : Pos} {e : Expr} {es : List Expr} {kws : List Keyword} {t tk : TA} {g : List Value → List Value → List Value} {gV : List V → List V → List V}
theorem back_of {pins : List (Addr × Obj)} {σ : L2.St} {H : Hp} {s : Shared} {Q : VK} (hx : PassesAt CX X σ (E σ)) (I : Inv X pins σ H s) {args : Args} (h : codeAny (model X.prog X.w) X.A (.call (.ref f) args) (CR CX X.stack X.prog X.w H s Q (E σ)) s) :
    codeAny (model X.prog X.w) X.A (.call (.ref f) args) (fun r s' => match r with | .ok (.ret u) => EP X pins σ Q u s' | .ok _ => False | .error e => X.xe e s') s := codeAny_mono h fun r s' hq => by
  match r, hq with
  | .error e, hq => exact hx pins H s e s' I hq
  | .ok (.ret u), hq => exact I.after hq
def tCallNS (n m : Nat) (sp : Sp) (gV : List V → List V → List V) (E : L2.St → XK) (t tk : TA) : TE := fun σ H Q => t σ H fun vs H1 => tk σ H1 fun zs H2 => vs.length = n ∧ zs.length = m ∧ sp (gV vs zs) H2 Q (E σ)
theorem pe_gS (F : FnG X.prog X.w X.K X.mg X.base CX k f fd ps sp) (hr : Room k X.A) (hd : X.A.guards = some []) (hg : Gl X x) (hm : X.mg x = some (.ref f)) (hk : PySem.W.keepIn X.K (.ref f) = true) (hb : Binds X.K fd ps []) (hx : ∀ σ, PassesAt CX X σ (E σ))
    (ha : PA X (e :: es) t) (hdb : (x == ("__debug__" : Str)) = false) (he : starEach (e :: es) X.env = (false, eval e X.env) :: starEach es X.env) (hpl : (backTo pos (starEach es X.env)).any (·.1) = false) :
    PE X (.Call (.Name x p) (e :: es) [] pos) (tCallS sp E t) := by
  refine ⟨fun pins s σ H Q I h => wpAny_Call_Name_kw (ld_glob I hg hm (PySem.W.callWith_K (h₀ := X.base) I.ok.mod.kin hk (thn (ha.run pos pins s σ H _ I h) fun us s1 ⟨vs, H1, I1, r, q⟩ => ⟨I1.kIn, ?_⟩) he hpl) hdb)⟩
  have hl : us.length = ps.length := by
    rw [← r.length]
    exact F.len _ _ _ _ q
  have b := hb s1 us I1.kIn (by rw [List.append_nil]; exact hl)
  rw [List.append_nil] at b
  have q' := back_of (hx σ) I1 (F.go X.A X.stack s1 H1 ⟨us, []⟩ us vs _ _ hr hd I1.env0 b r q)
  exact (wpAny_call q' : wpAny _ _ (call (.ref f) us) _ _ _)
theorem pe_gNS (F : FnG X.prog X.w X.K X.mg X.base CX k f fd ps sp) (hr : Room k X.A) (hd : X.A.guards = some []) (hg : Gl X x) (hm : X.mg x = some (.ref f)) (hk : PySem.W.keepIn X.K (.ref f) = true) (hb : KBn X.K fd ps n ks g gV) (hx : ∀ σ, PassesAt CX X σ (E σ))
    (ha : PA X (e :: es) t) (hkw : PK X kws tk) (hall : (backToKw pos (keywordEach kws X.env)).all (·.1.isSome) = true) (hks : (backToKw pos (keywordEach kws X.env)).filterMap (·.1) = ks)
    (hdb : (x == ("__debug__" : Str)) = false) (he : starEach (e :: es) X.env = (false, eval e X.env) :: starEach es X.env)
    (hpl : ((backTo pos (starEach (e :: es) X.env)).any (·.1) || (backToKw pos (keywordEach kws X.env)).any (·.1.isNone)) = false) :
    PE X (.Call (.Name x p) (e :: es) kws pos) (tCallNS n ks.length sp gV E t tk) := by
  refine ⟨fun pins s σ H Q I h => wpAny_Call_Name_kw (ld_glob I hg hm (PySem.W.callWith_KW (h₀ := X.base) I.ok.mod.kin hk hall (thn (ha.run pos pins s σ H _ I h) fun us s1 ⟨vs, H1, I1, r, q⟩ => ?_) hpl he) hdb)⟩
  refine thn (hkw.run pos pins s1 σ H1 _ I1 q) fun ws s2 ⟨zs, H2, I2, rz, l1, l2, q2⟩ => ⟨I2.kIn, ?_⟩
  rw [hks]
  exact wpAny_call (back_of (hx σ) I2 (F.go X.A X.stack s2 H2 ⟨us, ks.zip ws⟩ (g us ws) (gV vs zs) _ _ hr hd I2.env0 (hb.to s2 us ws I2.kIn (r.length.symm.trans l1) (rz.length.symm.trans l2)) (hb.rel r rz) q2))
theorem pe_gNS0 (F : FnG X.prog X.w X.K X.mg X.base CX k f fd ps sp) (hr : Room k X.A) (hd : X.A.guards = some []) (hg : Gl X x) (hm : X.mg x = some (.ref f)) (hk : PySem.W.keepIn X.K (.ref f) = true) (hb : KBn X.K fd ps 0 ks g gV) (hx : ∀ σ, PassesAt CX X σ (E σ))
    (hkw : PK X kws tk) (hall : (backToKw pos (keywordEach kws X.env)).all (·.1.isSome) = true) (hks : (backToKw pos (keywordEach kws X.env)).filterMap (·.1) = ks)
    (hdb : (x == ("__debug__" : Str)) = false) (hpl : ((backTo pos (starEach [] X.env)).any (·.1) || (backToKw pos (keywordEach kws X.env)).any (·.1.isNone)) = false) :
    PE X (.Call (.Name x p) [] kws pos) (tCallNS 0 ks.length sp gV E tNil tk) := by
  refine ⟨fun pins s σ H Q I h => wpAny_Call_Name_kw (ld_glob I hg hm (PySem.W.callWith_KW0 (h₀ := X.base) I.ok.mod.kin hk hall (thn (hkw.run pos pins s σ H _ I h) fun ws s2 ⟨zs, H2, I2, rz, l1, l2, q2⟩ => ⟨I2.kIn, ?_⟩) hpl) hdb)⟩
  rw [hks]
  exact wpAny_call (back_of (hx σ) I2 (F.go X.A X.stack s2 H2 ⟨[], ks.zip ws⟩ (g [] ws) (gV [] zs) _ _ hr hd I2.env0 (hb.to s2 [] ws I2.kIn l1 (rz.length.symm.trans l2)) (hb.rel .nil rz) q2))
end
/-- the module's x is a def that promises sp -/
def HasG (P : Program) (w : World) (K : PySem.W.Frag) (mg : Str → Option Value) (base : Heap) (CX : CXT) (x : Str) (ps : List Str) (k : Nat) (sp : Sp) : Prop :=
  ∃ f fd, FnG P w K mg base CX k f fd ps sp ∧ mg x = some (.ref f) ∧ PySem.W.keepIn K (.ref f) = true ∧ Binds K fd ps []
def HasGK (P : Program) (w : World) (K : PySem.W.Frag) (mg : Str → Option Value) (base : Heap) (CX : CXT) (x : Str) (ps : List Str) (k : Nat) (sp : Sp) (n : Nat) (ks : List Str) (ix : List Nat) : Prop :=
  ∃ f fd, FnG P w K mg base CX k f fd ps sp ∧ mg x = some (.ref f) ∧ PySem.W.keepIn K (.ref f) = true ∧ KBn K fd ps n ks (fun us ws => perm ix (us ++ ws)) (fun vs zs => perm ix (vs ++ zs))
abbrev Ez : L2.St → XK := fun _ => E0
theorem pz0 {X : Cx} (σ : L2.St) : PassesAt CX0 X σ (Ez σ) := fun _ _ _ _ _ _ h => h.elim
theorem pzL {X : Cx} (σ : L2.St) : PassesAt (L2.CX X.prog X.w) X σ (Ez σ) := fun pins H s e s' I c => passL pins σ H s e s' I c
section
variable {X : Cx} {CX : CXT} {k n m : Nat} {ps ks : List Str} {sp : Sp} {E : L2.St → XK} {x : Str} {p pos : Pos} {e : Expr} {es : List Expr} {kws : List Keyword} {t tk : TA} {ix : List Nat}
theorem pe_hG (h : HasG X.prog X.w X.K X.mg X.base CX x ps k sp) (hr : Room k X.A) (hgd : X.A.guards = some []) (hx : ∀ σ, PassesAt CX X σ (E σ)) (ha : PA X (e :: es) t) (hg : Gl X x := by rfl) (hd : (x == ("__debug__" : Str)) = false := by decide)
    (he : starEach (e :: es) X.env = (false, eval e X.env) :: starEach es X.env := by rfl) (hpl : (backTo pos (starEach es X.env)).any (·.1) = false := by rfl) : PE X (.Call (.Name x p) (e :: es) [] pos) (tCallS sp E t) := by
  obtain ⟨f, fd, G, hmg, kp, b⟩ := h
  exact pe_gS G hr hgd hg hmg kp b hx ha hd he hpl
theorem pe_hGN (h : HasGK X.prog X.w X.K X.mg X.base CX x ps k sp n ks ix) (hr : Room k X.A) (hgd : X.A.guards = some []) (hx : ∀ σ, PassesAt CX X σ (E σ)) (ha : PA X (e :: es) t) (hk : PK X kws tk) (hm : ks.length = m := by rfl) (hg : Gl X x := by rfl)
    (hall : (backToKw pos (keywordEach kws X.env)).all (·.1.isSome) = true := by rfl) (hks : (backToKw pos (keywordEach kws X.env)).filterMap (·.1) = ks := by rfl) (hdb : (x == ("__debug__" : Str)) = false := by decide)
    (he : starEach (e :: es) X.env = (false, eval e X.env) :: starEach es X.env := by rfl) (hpl : ((backTo pos (starEach (e :: es) X.env)).any (·.1) || (backToKw pos (keywordEach kws X.env)).any (·.1.isNone)) = false := by rfl) :
    PE X (.Call (.Name x p) (e :: es) kws pos) (tCallNS n m sp (fun vs zs => perm ix (vs ++ zs)) E t tk) := by
  subst hm
  obtain ⟨f, fd, G, hmg, kp, b⟩ := h
  exact pe_gNS G hr hgd hg hmg kp b hx ha hk hall hks hdb he hpl
theorem pe_hGN0 (h : HasGK X.prog X.w X.K X.mg X.base CX x ps k sp 0 ks ix) (hr : Room k X.A) (hgd : X.A.guards = some []) (hx : ∀ σ, PassesAt CX X σ (E σ)) (hk : PK X kws tk) (hm : ks.length = m := by rfl) (hg : Gl X x := by rfl)
    (hall : (backToKw pos (keywordEach kws X.env)).all (·.1.isSome) = true := by rfl) (hks : (backToKw pos (keywordEach kws X.env)).filterMap (·.1) = ks := by rfl) (hdb : (x == ("__debug__" : Str)) = false := by decide)
    (hpl : ((backTo pos (starEach [] X.env)).any (·.1) || (backToKw pos (keywordEach kws X.env)).any (·.1.isNone)) = false := by rfl) :
    PE X (.Call (.Name x p) [] kws pos) (tCallNS 0 m sp (fun vs zs => perm ix (vs ++ zs)) E tNil tk) := by
  subst hm
  obtain ⟨f, fd, G, hmg, kp, b⟩ := h
  exact pe_gNS0 G hr hgd hg hmg kp b hx hk hall hks hdb hpl
end
theorem hasg_of {P : Program} {w : World} {K : PySem.W.Frag} {mg : Str → Option Value} {base : Heap} {CX : CXT} {x qual : Str} {st : Stmt} {f : Addr} {fd : FuncData} {ps : List Str} {k : Nat} {sp : Sp} (Fu : Fun K x qual st f fd) (m : mg x = some (.ref f)) (G : FnG P w K mg base CX k f fd ps sp)
    (h : ∀ (kV doc pm : Value) (an : Option Addr) (cdv ct : Value) (us : List Value), us.length = ps.length → bindArgs (PySem.W.fnOf x qual (defArgs st) (defBody st) (defScope st) .none kV doc pm an cdv ct) ⟨us, []⟩ = pure (ps.zip us)) : HasG P w K mg base CX x ps k sp := ⟨f, fd, G, m, Fu.kp, Fu.binds h⟩
theorem hasgk_of {P : Program} {w : World} {K : PySem.W.Frag} {mg : Str → Option Value} {base : Heap} {CX : CXT} {x qual : Str} {st : Stmt} {f : Addr} {fd : FuncData} {ps : List Str} {k : Nat} {sp : Sp} (Fu : Fun K x qual st f fd) (m : mg x = some (.ref f)) (G : FnG P w K mg base CX k f fd ps sp) (n : Nat) (ks : List Str) (ix : List Nat)
    (h : ∀ (kV doc pm : Value) (an : Option Addr) (cdv ct : Value) (us ws : List Value), us.length = n → ws.length = ks.length → bindArgs (PySem.W.fnOf x qual (defArgs st) (defBody st) (defScope st) .none kV doc pm an cdv ct) ⟨us, ks.zip ws⟩ = pure (ps.zip (perm ix (us ++ ws)))) : HasGK P w K mg base CX x ps k sp n ks ix := by
  obtain ⟨oc, od, kV, doc, pm, an, cdv, ct, osl, rfl, lk, hcd⟩ := Fu.ex
  exact ⟨f, _, G, m, Fu.kp, fun s us ws _ h1 h2 => .of_eq (h kV doc pm an cdv ct us ws h1 h2), fun h1 h2 => vals_perm (h1.append h2) ix⟩
/-! the rules for a def, by values -/
section
variable {P : Program} {w : World} {K : PySem.W.Frag} {mg : Str → Option Value} {base : Heap} {x qual : Str} {st : Stmt} {f : Addr} {fd : FuncData} {N ps : List Str} {k : Nat}
theorem fnG_ok {F : FS} (Fu : Fun K x qual st f fd) (S : FnScope N ps (defScope st)) (len : ∀ ws μ R, F ws μ R → ws.length = ps.length)
    (hbody : ∀ (cdv : Value) (A : Around) (fr : List Env) (s : Shared) (H : Hp) (E : XK), Room k (A.deeper (envOfC qual (defScope st) s.heap.objs.size f cdv)) → (A.deeper (envOfC qual (defScope st) s.heap.objs.size f cdv)).guards = some [] →
      ∃ t, PSs (cxOf CX0 P w K mg base N qual (defScope st) f cdv A fr s H E).nox (defBody st) t ∧ ∀ ws μ R, F ws μ R → AS K t { nx := fun _ μ' => R (.d .none) μ', rt := R } (stG N ws) μ) : FnG P w K mg base CX0 (k + 1) f fd ps (spD K F) := by
  obtain ⟨oc, od, kV, doc, pm, an, cdv, ct, osl, rfl, lk, hcd⟩ := Fu.ex
  refine fnG_of lk hcd S (fun vs H Q E ⟨A, M, μ, ws, R, mo, r, h, _⟩ => by rw [r.length]; exact len ws μ R h) fun A fr s H vs Q E hr hgd ⟨A', M, μ, ws, R, mo, r, h, q⟩ => ?_
  obtain ⟨t, ht, hs⟩ := hbody cdv A fr s H E hr hgd
  exact ⟨t, ht.nox, hs ws μ R h A' M _ H ⟨mo, gr_start r⟩ _ ⟨fun M' σ' H' Γ' μ' c e h => q M' H' _ _ μ' c.mo e (.d .non) h, fun M' H' v w μ' mo' e' r' h => q M' H' v w μ' mo' e' r' h, fun _ _ _ _ _ _ _ h => h.elim, fun _ _ _ _ _ _ _ h => h.elim, fun _ _ _ _ _ _ _ _ _ _ _ _ h => h.elim⟩⟩
theorem fnG_okX {F : FX} (Fu : Fun K x qual st f fd) (S : FnScope N ps (defScope st)) (len : ∀ ws μ R S, F ws μ R S → ws.length = ps.length)
    (hbody : ∀ (cdv : Value) (A : Around) (fr : List Env) (s : Shared) (H : Hp) (E : XK), Room k (A.deeper (envOfC qual (defScope st) s.heap.objs.size f cdv)) → (A.deeper (envOfC qual (defScope st) s.heap.objs.size f cdv)).guards = some [] →
      ∃ t, PSs (cxOf (L2.CX P w) P w K mg base N qual (defScope st) f cdv A fr s H E) (defBody st) t ∧ ∀ ws μ R S, F ws μ R S → AS K t { nx := fun _ μ' => R (.d .none) μ', rt := R, xw := fun c d _ H => E c d H, xc := fun x w _ μ' => S x w μ' } (stG N ws) μ) :
    FnG P w K mg base (L2.CX P w) (k + 1) f fd ps (spX K F) := by
  obtain ⟨oc, od, kV, doc, pm, an, cdv, ct, osl, rfl, lk, hcd⟩ := Fu.ex
  refine fnG_of lk hcd S (fun vs H Q E ⟨A, M, μ, ws, R, S, mo, r, h, _⟩ => by rw [r.length]; exact len ws μ R S h) fun A fr s H vs Q E hr hgd ⟨A', M, μ, ws, R, S, mo, r, h, q, qx⟩ => ?_
  obtain ⟨t, ht, hs⟩ := hbody cdv A fr s H E hr hgd
  exact ⟨t, ht, hs ws μ R S h A' M _ H ⟨mo, gr_start r⟩ _ ⟨fun M' σ' H' Γ' μ' c e h => q M' H' _ _ μ' c.mo e (.d .non) h, fun M' H' v w μ' mo' e' r' h => q M' H' v w μ' mo' e' r' h, fun _ _ _ _ _ _ _ h => h.elim, fun _ _ _ _ _ _ _ h => h.elim,
    fun M' σ' H' Γ' x a d w μ' hc c e h => qx M' H' x a d w μ' hc c.mo e h⟩⟩
end
/-! calls by values -/
section
variable {K : PySem.W.Frag} {Γ : G} {μ : Mu} {R : W → Mu → Prop} {ta tk : TA} {E : L2.St → XK} {xw : L2.WX} {xc : Str → W → G → Mu → Prop} {n m : Nat} {ix : List Nat}
theorem ax_g {F : FS} (h : AXA K ta Γ μ fun ws μ1 => F ws μ1 R) : AX K (tCallS (spD K F) E ta) Γ μ R := fun A M σ H c Q q =>
  h A M σ H c _ fun M1 H1 vs ws μ1 mo1 e1 r1 h1 => ⟨A, M1, μ1, ws, R, mo1, r1, h1, fun M' H' v w μ' mo' e' r' hR => q M' H' v w μ' mo' (e1.trans e') r' hR⟩
theorem ax_gN {F : FS} (h : AXA K ta Γ μ fun ws μ1 => ws.length = n ∧ AXA K tk Γ μ1 fun us μ2 => us.length = m ∧ F (perm ix (ws ++ us)) μ2 R) : AX K (tCallNS n m (spD K F) (fun vs zs => perm ix (vs ++ zs)) E ta tk) Γ μ R := fun A M σ H c Q q =>
  h A M σ H c _ fun M1 H1 vs ws μ1 mo1 e1 r1 ⟨l1, h1⟩ => h1 A M1 σ H1 (c.eff e1 mo1) _ fun M2 H2 zs us μ2 mo2 e2 r2 ⟨l2, h2⟩ =>
    ⟨r1.length.trans l1, r2.length.trans l2, A, M2, μ2, _, R, mo2, vrs_perm ((r1.mono e2.ex e2.pre).append r2) ix, h2, fun M' H' v w μ' mo' e' r' hR => q M' H' v w μ' mo' ((e1.trans e2).trans e') r' hR⟩
/-- called where it does not raise -/
theorem ax_gX {F : FX} (h : AXA K ta Γ μ fun ws μ1 => F ws μ1 R NoX) : AX K (tCallS (spX K F) E ta) Γ μ R := fun A M σ H c Q q =>
  h A M σ H c _ fun M1 H1 vs ws μ1 mo1 e1 r1 h1 => ⟨A, M1, μ1, ws, R, NoX, mo1, r1, h1, fun M' H' v w μ' mo' e' r' hR => q M' H' v w μ' mo' (e1.trans e') r' hR, fun _ _ _ _ _ _ _ _ _ _ z => z.elim⟩
theorem ax_gXN {F : FX} (h : AXA K ta Γ μ fun ws μ1 => ws.length = n ∧ AXA K tk Γ μ1 fun us μ2 => us.length = m ∧ F (perm ix (ws ++ us)) μ2 R NoX) : AX K (tCallNS n m (spX K F) (fun vs zs => perm ix (vs ++ zs)) E ta tk) Γ μ R := fun A M σ H c Q q =>
  h A M σ H c _ fun M1 H1 vs ws μ1 mo1 e1 r1 ⟨l1, h1⟩ => h1 A M1 σ H1 (c.eff e1 mo1) _ fun M2 H2 zs us μ2 mo2 e2 r2 ⟨l2, h2⟩ =>
    ⟨r1.length.trans l1, r2.length.trans l2, A, M2, μ2, _, R, NoX, mo2, vrs_perm ((r1.mono e2.ex e2.pre).append r2) ix, h2, fun M' H' v w μ' mo' e' r' hR => q M' H' v w μ' mo' ((e1.trans e2).trans e') r' hR, fun _ _ _ _ _ _ _ _ _ _ z => z.elim⟩
/-- called where it may raise, by keywords -/
theorem axx_callN {F : FX} (h : AXA K ta Γ μ fun ws μ1 => ws.length = n ∧ AXA K tk Γ μ1 fun us μ2 => us.length = m ∧ F (perm ix (ws ++ us)) μ2 R fun x w μ3 => xc x w Γ μ3) : AXx K xw xc (tCallNS n m (spX K F) (fun vs zs => perm ix (vs ++ zs)) (WE xw) ta tk) Γ μ R := fun A M σ H c x Q q =>
  h A M σ H c _ fun M1 H1 vs ws μ1 mo1 e1 r1 ⟨l1, h1⟩ => h1 A M1 σ H1 (c.eff e1 mo1) _ fun M2 H2 zs us μ2 mo2 e2 r2 ⟨l2, h2⟩ =>
    ⟨r1.length.trans l1, r2.length.trans l2, A, M2, μ2, _, R, _, mo2, vrs_perm ((r1.mono e2.ex e2.pre).append r2) ix, h2, fun M' H' v w μ' mo' e' r' hR => q M' H' v w μ' mo' ((e1.trans e2).trans e') r' hR,
      fun M' H' y a d w μ' hc mo' e' hS => x M' σ H' Γ y a d w μ' hc (c.eff ((e1.trans e2).trans e') mo') ((e1.trans e2).trans e') hS⟩
end
/-! ### the law's end -/
theorem law_callG {P : Program} {w : World} {K : PySem.W.Frag} {mg mb : Str → Option Value} {CX : CXT} {k : Nat} {fa a : Addr} {fd : FuncData} {x : Str} {sp : Sp} {s₁ : Shared} {vs : List Value} {ns : List Int}
    (KX : K.In s₁.heap) (hns : s₁.heap.Ns mainGlobals mg) (hb : s₁.heap.Ns builtinsNs mb) (hbb : ∀ x : Str, x ≠ "__name__" → mb x = bootBuiltins x) (hlim : s₁.heap.NoLimit) (hg : s₁.gens = #[])
    (ha : s₁.heap.get? a = some { cls := .type "list", data := .seq vs.toArray }) (hi : IntsAre vs ns) (hl : ns.length ≤ sizeLine) (hr : Room k callerA)
    (F : ∀ base : Heap, K.In base → base.Ns mainGlobals mg → FnG P w K mg base CX k fa fd [x] sp) (hbd : ∀ (s : Shared) (u : Value), BindsTo s fd ⟨[u], []⟩ [(x, u)])
    (hsp : ∀ H : Hp, Only H → SqL K H a (ns.map V.int) → sp [.ref a] H (fun v _ => v = .bl true) fun _ _ _ => False) (hCX : ∀ H e s', CX [] H s₁ (fun _ _ _ => False) e s' → False) :
    codeAny (model P w) callerA (.call (.ref fa) ⟨[.ref a], []⟩) (fun r s' => r = .ok (.ret (.bool true)) ∧ OldK s₁.heap s'.heap ∧ s'.os = s₁.os ∧ AllBare s'.gens) s₁ := by
  have rv := vals_ints hi
  have core : ∀ H : Hp, Only H → SqL K H a (ns.map V.int) → HOk P w H s₁.heap → (∀ b, H b ≠ none → b = a) → (H a ≠ none → K.lookup a = none) →
      codeAny (model P w) callerA (.call (.ref fa) ⟨[.ref a], []⟩) (fun r s' => r = .ok (.ret (.bool true)) ∧ OldK s₁.heap s'.heap ∧ s'.os = s₁.os ∧ AllBare s'.gens) s₁ := fun H hO hS hok hA hK => by
    have isA : ∀ {b : Addr} {u : HO}, H b = some u → b = a := fun {b u} q => hA b (by rw [q]; simp)
    have noA : ∀ {b : Addr} {o : Obj} {es : Array DictEntry} {ep : Nat}, s₁.heap.get? b = some o → o.data = .dict es ep → H b = none := fun {b o es ep} e d => by
      cases q : H b with
      | none => rfl
      | some u =>
        rw [isA q, ha] at e
        cases e
        cases d
    have toK : ∀ {b : Addr} {m : Str → Option Value}, s₁.heap.Ns b m → (hidT s₁.heap H).Ns b m := fun {b m} ⟨o, es, ep, e, d, r⟩ => ⟨o, es, ep, hidT_get e (noA e d), d, r⟩
    have KB : K.In (hidT s₁.heap H) := fun b o e => hidT_get (KX b o e) (by
      cases q : H b with
      | none => rfl
      | some u =>
        have z := isA q
        subst z
        rw [hK (by rw [q]; simp)] at e
        cases e)
    have md : Mod K mg (hidT s₁.heap H) := ⟨KB, toK hns, ⟨mb, toK hb, hbb⟩, let ⟨mc, h1, h2⟩ := hlim; ⟨mc, toK h1, h2⟩⟩
    have e0 : Env0 P w K mg (hidT s₁.heap H) callerA [] s₁ H := ⟨rfl, md, fun b o e => of_hidT e, Nat.le_of_eq (hidT_size _ _), trivial, fun b hb => (by cases hb), hok, .of_eq hg⟩
    refine codeAny_mono ((F _ KB (toK hns)).go callerA [] s₁ H ⟨[.ref a], []⟩ [.ref a] [.ref a] _ _ hr rfl e0 (hbd s₁ (.ref a)) (.cons rfl .nil) (hsp H hO hS)) fun r s' h => ?_
    match r, h with
    | .error e, h => exact (hCX H e s' h).elim
    | .ok (.ret u), ⟨v, H', os, bare, un, hok', r', q⟩ =>
      have q' : v = .bl true := q
      subst q'
      obtain rfl : u = Value.bool true := r'
      refine ⟨rfl, OldK.of_keep fun b o e => ?_, os, bare⟩
      cases q : H b with
      | none => exact un.keep b o e q (fun z => by cases z) (by simp)
      | some u =>
        rcases hO b with z | ⟨ob, xs, z⟩
        · rw [q] at z
          cases z
        · have e1 := (hok b _ z).1
          have e2 := (hok' b _ (un.frzs b ob _ z)).1
          rw [e] at e1
          cases e1
          exact e2
  cases hk : K.lookup a with
  | some o =>
    have e := KX a o hk
    rw [ha] at e
    cases e
    exact core (fun _ => none) (fun _ => .inl rfl) (.inr ⟨_, vs.toArray, _, hk, rfl, rfl, rfl, by rw [List.size_toArray, hi.length]; exact hl, by simpa using rv⟩) (fun b u z => by cases z) (fun b z => (z rfl).elim) fun z => (z rfl).elim
  | none =>
    have some_of : ∀ {b : Addr} {u : HO}, (if b = a then some (HO.frz { cls := .type "list", data := .seq vs.toArray } (.lst (ns.map V.int))) else none) = some u → b = a ∧ u = .frz { cls := .type "list", data := .seq vs.toArray } (.lst (ns.map V.int)) := fun {b u} z => by
      by_cases hb : b = a
      · rw [if_pos hb] at z
        exact ⟨hb, (Option.some.inj z).symm⟩
      · rw [if_neg hb] at z
        cases z
    refine core (fun b => if b = a then some (.frz { cls := .type "list", data := .seq vs.toArray } (.lst (ns.map V.int))) else none) (fun b => ?_) (.inl (.inr ⟨{ cls := .type "list", data := .seq vs.toArray }, if_pos rfl⟩)) (fun b u z => ?_) (fun b z => ?_) fun _ => hk
    · by_cases hb : b = a
      · exact .inr ⟨_, _, if_pos hb⟩
      · exact .inl (if_neg hb)
    · obtain ⟨rfl, rfl⟩ := some_of z
      exact ⟨ha, by rw [List.length_map]; exact hl, vs, _, rv, ha⟩
    · by_cases hb : b = a
      · exact hb
      · exact (z (if_neg hb)).elim
/-- the goal that k_head leaves, from the law's promise -/
theorem walk_ofG {l : PySem.W.OpenLaw} {n k : Nat} {q : Program} {loose : List Str} {XP : (Str → Option Value) → Heap → Prop} {YP : World → Heap → Prop} {d : DefRec} {K : Params → PySem.W.Frag} {CX : World → CXT} {sp : World → Sp} {x : Str}
    (hn : l.most = some n) (hn2 : n ≤ sizeLine) (hdf : d.params.defaults = []) (hr : Room k callerA) (hY : ∀ (w : World) (h : Heap), YP w h → (K w.params).In h)
    (F : ∀ (w : World) (mg : Str → Option Value) (fa : Addr) (h : Heap), (K w.params).In h → h.Ns mainGlobals mg → mg d.name = some (.ref fa) →
      ∃ fd : FuncData, (∀ (s : Shared) (u : Value), BindsTo s fd ⟨[u], []⟩ [(x, u)]) ∧ ∀ base : Heap, (K w.params).In base → base.Ns mainGlobals mg → FnG l.prog w (K w.params) mg base (CX w) k fa fd [x] (sp w))
    (hsp : ∀ (w : World) (H : Hp) (a : Addr) (ns : List Int), ns.length ≤ n → Only H → SqL (K w.params) H a (ns.map V.int) → sp w [.ref a] H (fun v _ => v = .bl true) fun _ _ _ => False)
    (hCX : ∀ (w : World) (H : Hp) (s : Shared) (e : Value) (s' : Shared), CX w [] H s (fun _ _ _ => False) e s' → False) : PySem.W.WalkO q loose XP YP l.row.toRowW d [] (fun f vs => PySem.call f vs) :=
  Att.attach_call hn hdf fun w s₀ s₁ mg mb fa o pm cd doc a vs ns G Y ho hd hcd hmg hobj hints hlen hg => by
    have KX := hY w _ Y
    obtain ⟨fd, hb, hF⟩ := F w mg fa _ KX G.T.g hmg
    exact law_callG KX G.T.g G.T.b G.T.builtins G.T.nolimit hg hobj hints (Nat.le_trans hlen hn2) hr hF hb (fun H hO hS => hsp w H a ns hlen hO hS) fun H e s' => hCX w H s₁ e s'
end Pd

/-! Pd11: repr of data. -/
namespace Pd
open PySem PySem.Spec L2
open Evl (Ex)
open PyProof.Rows
/-- data that may be shown -/
structure Shw (d : PyData) : Prop where
  s : d.showable = true
  n : d.hasDict = false
  dp : d.depth ≤ 60
  ln : d.shown.length ≤ sizeLine
mutual
/-- integers below 10 ** 50, proper texts, no dicts -/
def bd : PyData → Prop
  | .none | .bool _ => True
  | .int i => i.natAbs < 10 ^ 50
  | .str x => ∀ c ∈ x.cps.toList, c < 16 ^ 8
  | .list xs | .tuple xs => bds xs
  | .dict _ => False
def bds : List PyData → Prop
  | [] => True
  | x :: xs => bd x ∧ bds xs
end
mutual
def nd : PyData → Nat
  | .none | .bool _ | .int _ => 1
  | .str x => x.cps.size + 1
  | .list xs | .tuple xs => nds xs + 1
  | .dict _ => 1
def nds : List PyData → Nat
  | [] => 0
  | x :: xs => nd x + nds xs
end
theorem log_of {n : Nat} (h : n < 10 ^ 50) : n.log2 < 167 := by
  by_cases z : n = 0
  · subst z
    decide
  · exact (Nat.log2_lt z).mpr (Nat.lt_trans h (by decide))
mutual
theorem bd_all : ∀ d : PyData, bd d → d.showable = true ∧ d.hasDict = false ∧ d.leavesShort 60 = true ∧ d.weight + 1 ≤ 200 * nd d
  | .none, _ => ⟨rfl, rfl, rfl, by decide⟩
  | .bool _, _ => ⟨rfl, rfl, rfl, by simp [PyData.weight, nd]⟩
  | .int i, h => by
    have h' : i.natAbs < 10 ^ 50 := h
    have l := log_of h'
    refine ⟨decide_eq_true (Nat.lt_trans l (by decide)), rfl, decide_eq_true ?_, ?_⟩
    · have e := int_text_length_le10 (a := i) (k := 50) (by decide) h'
      have e2 : (PyData.shown (.int i)).length = (toString i).length := by
        show (Str.ofString (toString i)).length = _
        exact PySem.ofString_length _
      omega
    · show (if i == 0 then 0 else i.natAbs.log2 + 1) + 1 ≤ 200 * 1
      split <;> omega
  | .str x, h => ⟨rfl, rfl, by
      have h' : ∀ c ∈ x.cps.toList, c < 16 ^ 8 := h
      show (x.cps.toList.all fun c => decide (c < 16 ^ 8)) = true
      rw [List.all_eq_true]
      exact fun c m => decide_eq_true (h' c m), by
      show x.cps.size + 1 ≤ 200 * (x.cps.size + 1)
      omega⟩
  | .list xs, h => by
    obtain ⟨a, b, c, e⟩ := bds_all xs h
    exact ⟨a, b, c, by show PyData.weightAll xs + 1 ≤ 200 * (nds xs + 1); omega⟩
  | .tuple xs, h => by
    obtain ⟨a, b, c, e⟩ := bds_all xs h
    exact ⟨a, b, c, by show PyData.weightAll xs + 1 ≤ 200 * (nds xs + 1); omega⟩
  | .dict _, h => h.elim
theorem bds_all : ∀ xs : List PyData, bds xs → PyData.showableAll xs = true ∧ PyData.hasDictAll xs = false ∧ PyData.leavesShortAll 60 xs = true ∧ PyData.weightAll xs ≤ 200 * nds xs
  | [], _ => ⟨rfl, rfl, rfl, Nat.zero_le _⟩
  | x :: xs, h => by
    obtain ⟨a, b, c, e⟩ := bd_all x h.1
    obtain ⟨a', b', c', e'⟩ := bds_all xs h.2
    refine ⟨?_, ?_, ?_, ?_⟩
    · simp [PyData.showableAll, a, a']
    · simp [PyData.hasDictAll, b, b']
    · simp [PyData.leavesShortAll, c, c']
    · show PyData.weight x + 1 + PyData.weightAll xs ≤ 200 * (nd x + nds xs)
      omega
end
theorem shw_of {d : PyData} (h : bd d) (hn : nd d ≤ 1000) (hd : d.depth ≤ 60) : Shw d := by
  obtain ⟨a, b, c, e⟩ := bd_all d h
  refine ⟨a, b, hd, ?_⟩
  have := PyData.shown_le 60 (by decide) d c
  rw [sizeLine_eq]
  omega
theorem bds_ints : ∀ {ns : List Int}, (∀ n ∈ ns, n.natAbs < 10 ^ 50) → bds (ns.map PyData.int)
  | [], _ => trivial
  | n :: ns, h => ⟨h n (.head _), bds_ints fun m k => h m (.tail _ k)⟩
theorem nds_ints : ∀ ns : List Int, nds (ns.map PyData.int) = ns.length
  | [] => rfl
  | n :: ns => by
    show 1 + nds (ns.map PyData.int) = ns.length + 1
    rw [nds_ints ns]
    omega
theorem shw_ints {ns : List Int} (h : ∀ n ∈ ns, n.natAbs < 10 ^ 50) (hl : ns.length ≤ 900) : Shw (dInts ns) :=
  shw_of (bds_ints h) (by show nds (ns.map PyData.int) + 1 ≤ 1000; rw [nds_ints]; omega) (by have := depthAll_ints ns; simp only [dInts, PyData.depth]; omega)
def rRep (K : PySem.W.Frag) : List V → Hp → VK → Prop := fun xs H Q => ∃ v d, xs = [v] ∧ Dp K H v d ∧ Shw d ∧ Q (.str d.shown) H
theorem call_rep {X : Cx} (hg : X.A.guards = some []) (hu : X.A.units + 64 < cLine) : CallR X (.builtin "repr") (rRep X.K) := by
  intro pins s σ H xs us Q I r h
  obtain ⟨v, d, rfl, hd, S, q⟩ := h
  cases r with
  | @cons _ u _ _ rv rn =>
    cases rn
    have viaRef : ∀ a : Addr, v = .ref a → wpAny (model X.prog X.w) X.A (call (.builtin "repr") [u]) (EP X pins σ Q) X.xe s := fun a e => by
      subst e
      obtain rfl : u = Value.ref a := rv
      obtain ⟨as, rd⟩ := Dp.reads I d _ _ hd rfl
      refine repr_of_reads' rd S.s (fun z => by rw [S.n] at z; cases z) hg (by have := S.dp; omega) (fun _ _ e => e) (fun h' t tk k => ⟨.str d.shown, H, ?_, ⟨_, rfl⟩, q⟩) S.ln
      exact I.kept (t' := tk) k
    cases hd with
    | non =>
      obtain rfl : u = Value.none := rv
      exact PySem.P.repr_of_none ⟨.str (PyData.shown .none), H, I.tok _, ⟨_, rfl⟩, q⟩
    | bl b =>
      obtain rfl : u = Value.bool b := rv
      exact PySem.P.repr_of_bool ⟨.str (PyData.shown (.bool b)), H, I.tok _, ⟨_, by cases b <;> rfl⟩, q⟩
    | int i =>
      obtain ⟨t, rfl⟩ := rv
      exact PySem.P.repr_of_int (of_decide_eq_true S.s) ⟨.str (PyData.shown (.int i)), H, I.tok _, ⟨_, rfl⟩, q⟩
    | str x =>
      obtain ⟨t, rfl⟩ := rv
      exact PySem.P.repr_of_str ⟨.str (PyData.shown (.str x)), H, I.tok _, ⟨_, rfl⟩, q⟩ S.ln
    | lst _ _ => exact viaRef _ rfl
    | tup _ _ => exact viaRef _ rfl
theorem c_rep {K : PySem.W.Frag} {μ : Mu} {R : W → Mu → Prop} {x : W} {d : PyData} (hx : Rs μ x d) (S : Shw d) (q : R (.d (.str d.shown)) μ) : AC K (rRep K) [x] μ R := fun A M H vs mo rs Q h => by
  cases rs with
  | cons rw rn =>
    cases rn
    exact ⟨_, d, rfl, hx.dp mo rw, S, h M H _ _ μ mo Eff.refl (.d (.str _)) q⟩
/-- the module's x is the constant v -/
def Cst (mg : Str → Option Value) (x : Str) (v : V) : Prop := ∃ u, mg x = some u ∧ RelV v u
theorem pe_con0 {X : Cx} {x : Str} {v : V} {pos : Pos} (h : Cst X.mg x v) (hg : Gl X x) (hd : (x == ("__debug__" : Str)) = false := by decide) : PE X (.Name x pos) (tC v) := by
  obtain ⟨u, hm, r⟩ := h
  exact pe_glob hg hm r hd
end Pd

/-! Pd12: shorter readings: pure comprehensions, draws, clauses. -/
namespace Pd
open PySem PySem.Spec L2
open Evl (Ex)
open PyProof.Rows
section
variable {K : PySem.W.Frag} {Γ : G} {μ : Mu} {R : W → Mu → Prop} {wi : TI} {g : TG} {te : TE} {vs : List Nat}
theorem ai_weak {RI RI' : List W → (Mu → Prop) → Mu → Prop} (h : AI K wi Γ μ RI) (k : ∀ items S μ', RI items S μ' → RI' items S μ') : AI K wi Γ μ RI' := fun A M σ H c Q q => h A M σ H c Q fun M' H' J items S μ' mo e hJ hR => q M' H' J items S μ' mo e hJ (k _ _ _ hR)
theorem ag_weak {w : W} {RG RG' : G → Mu → Prop} (h : AG K g w Γ μ RG) (k : ∀ Γ' μ', RG Γ' μ' → RG' Γ' μ') : AG K g w Γ μ RG' := fun A M σ H v c r Q q => h A M σ H v c r Q fun M' σ' H' Γ' μ' c' e hR => q M' σ' H' Γ' μ' c' e (k _ _ hR)
/-- a comprehension that changes nothing -/
theorem ax_lcP {α : Type} (f : α → W) (ns : List α) (gf : α → W) (hz : ns.length ≤ sizeLine) (hw : WipeOk g vs) (h : AI K wi Γ μ fun items S μ1 => items = ns.map f ∧ S μ ∧ μ1 = μ)
    (hs : ∀ x, x ∈ ns → AG K g (f x) (wipeG Γ vs) μ fun Γ2 μ2 => AX K te Γ2 μ2 fun w μ4 => w = gf x ∧ μ4 = μ) (q : NL (ns.map gf) μ R) : AX K (tLc wi g tYes te vs) Γ μ R := by
  refine ax_lc f ns (fun pre acc μ' => acc = pre.map gf ∧ μ' = μ) hz hw ?_ ?_ ?_
  · refine ai_weak h fun items S μ1 ⟨a, b, c⟩ => ⟨a, fun pre acc μ' e => ?_, rfl, c⟩
    rw [e.2]
    exact b
  · rintro pre x post acc μ' e hl ⟨rfl, rfl⟩
    refine ag_weak (hs x (by rw [e]; simp)) fun Γ2 μ2 h2 => at_yes ?_
    rw [if_pos rfl]
    exact ax_weak h2 fun w μ4 ⟨a, b⟩ => ⟨by rw [a]; simp, b⟩
  · rintro acc μ' ⟨rfl, rfl⟩
    exact q
theorem ax_lcI {α : Type} (f : α → W) (ns : List α) (gf : α → Int) (hz : ns.length ≤ sizeLine) (hw : WipeOk g vs) (h : AI K wi Γ μ fun items S μ1 => items = ns.map f ∧ S μ ∧ μ1 = μ)
    (hs : ∀ x, x ∈ ns → AG K g (f x) (wipeG Γ vs) μ fun Γ2 μ2 => AX K te Γ2 μ2 fun w μ4 => w = .d (.int (gf x)) ∧ μ4 = μ) (q : NL (wInts (ns.map gf)) μ R) : AX K (tLc wi g tYes te vs) Γ μ R :=
  ax_lcP f ns (fun x => .d (.int (gf x))) hz hw h hs (by
    have e : ns.map (fun x => W.d (.int (gf x))) = wInts (ns.map gf) := by simp [wInts]
    rw [e]
    exact q)
/-- all([.. for ..]) -/
theorem ax_allP {α : Type} (f : α → W) (ns : List α) (pf : α → Bool) (hz : ns.length ≤ sizeLine) (hw : WipeOk g vs) (h : AI K wi Γ μ fun items S μ1 => items = ns.map f ∧ S μ ∧ μ1 = μ)
    (hs : ∀ x, x ∈ ns → AG K g (f x) (wipeG Γ vs) μ fun Γ2 μ2 => AX K te Γ2 μ2 fun w μ4 => w = .d (.bool (pf x)) ∧ μ4 = μ) (q : R (.d (.bool (ns.all pf))) μ) : AX K (tCB (rAll K) (tCons (tLc wi g tYes te vs) tNil)) Γ μ R := by
  refine ax_cb (aa_cons (ax_lcP f ns (fun x => .d (.bool (pf x))) hz hw h hs (NL.d (xs := ns.map fun x => PyData.bool (pf x)) ?_ (by simp))))
  refine aa_nil (ac_all (bs := ns.map pf) ?_ ?_)
  · have e : (ns.map pf).map (fun n => W.d (.bool n)) = (ns.map fun x => PyData.bool (pf x)).map W.d := by simp
    rw [e]
    exact .d _
  · have e : (ns.map pf).all id = ns.all pf := by simp [List.all_map]
    rw [e]
    exact q
theorem as_raiseE {D : AEn} {ta : TA} {x : PySem.Str} {xw : L2.WX} (hx : D.xw = xw) (h : AXA K ta Γ μ fun ws μ1 => ∃ w, ws = [w] ∧ D.xc x w Γ μ1) : AS K (tRaiseE K x xw ta) D Γ μ := by
  subst hx
  exact as_raise h
end
/-- as ax_lc, the list told once the iterator is made -/
theorem ax_lcD {K : PySem.W.Frag} {Γ : G} {μ : Mu} {wi : TI} {g : TG} {tt : TT} {te : TE} {vs : List Nat} {R : W → Mu → Prop} {α : Type} (f : α → W) (hw : WipeOk g vs)
    (h : AI K wi Γ μ fun items S μ1 => ∃ (ns : List α) (I : List α → List W → Mu → Prop), items = ns.map f ∧ ns.length ≤ sizeLine ∧ (∀ pre acc μ', I pre acc μ' → S μ') ∧ I [] [] μ1 ∧
      (∀ pre x post acc μ', ns = pre ++ x :: post → acc.length ≤ pre.length → I pre acc μ' → AG K g (f x) (wipeG Γ vs) μ' fun Γ2 μ2 => AXT K tt Γ2 μ2 fun b μ3 => if b = true then AX K te Γ2 μ3 fun w μ4 => I (pre ++ [x]) (acc ++ [w]) μ4 else I (pre ++ [x]) acc μ3) ∧
      ∀ acc μ', I ns acc μ' → NL acc μ' R) : AX K (tLc wi g tt te vs) Γ μ R := fun A M σ H cn Q q =>
  h A M σ H cn _ fun M1 H1 J items S μ1 mo1 e1 hJ ⟨ns, I, hi, hz, hS, h0, hs, hd⟩ => by
    subst hi
    intro p hp
    have hA : ¬ A p := fun z => mo1.aA p z hp
    refine ⟨fun i m H' => i ≤ ns.length ∧ m = ns.length - i ∧ LcI K A M1 μ1 H1 p (fun acc μ' => acc.length ≤ i ∧ I (ns.take i) acc μ') H',
      ⟨ns.length, Nat.zero_le _, rfl, M1, μ1, [], [], upd_same, mo1.add hp, by rw [delH_upd2, delH_none hp]; exact Eff.refl, .nil, Nat.le_refl _, h0⟩, fun i m H' hW => ?_⟩
    obtain ⟨hi, rfl, M', μ', us, acc, hu, mo', e', ru, hal, hI⟩ := hW
    have hex : Ex (vw A M1 μ1 H1) (vw (addA A p) M' μ' H') := by
      rw [vw_add]
      exact e'.ex
    have hit := hJ (addA A p) M' H' μ' mo' hex e'.pre (hS _ _ _ hI) i
    by_cases hlt : i < ns.length
    · have hx : ns[i]? = some ns[i] := List.getElem?_eq_getElem hlt
      have hw' : (ns.map f)[i]? = some (f ns[i]) := by rw [List.getElem?_map, hx]; rfl
      obtain ⟨hgo, hy⟩ := hit.1 _ hw'
      refine .inr ⟨hgo, LcI K A M1 μ1 H1 p (fun acc μ' => acc.length ≤ i + 1 ∧ I (ns.take (i + 1)) acc μ'), fun H2 h2 => ⟨ns.length - (i + 1), by omega, hlt, rfl, h2⟩, fun x H2 hyld => ?_⟩
      obtain ⟨ex2, rx⟩ := hy x H2 hyld
      have eH2 : Eff (addA A p) M' μ' H' M' μ' H2 := Eff.of_ex ex2
      have c0 : GR K (vw A M1 μ1 H1) M1 (wipe σ vs) (wipeG Γ vs) := (cn.gr.mono e1.ex e1.pre).wipeG vs
      have c2 : Cn K (addA A p) M' (wipe σ vs) H2 (wipeG Γ vs) μ' := ⟨mo'.ex ex2, (c0.mono hex e'.pre).mono (vw_ex ex2) (Pre.refl _)⟩
      have hlen : (ns.take i).length = i := by rw [List.length_take]; omega
      refine hw x σ H2 _ ?_
      refine hs (ns.take i) ns[i] (ns.drop (i + 1)) acc μ' (split_at hx) (by omega) hI (addA A p) M' (wipe σ vs) H2 x c2 rx _ fun M3 σ3 H3 Γ3 μ3 c3 e3 h3 => ?_
      refine h3 (addA A p) M3 σ3 H3 c3 _ fun M4 H4 b μ4 mo4 e4 h4 => ?_
      have eA : Eff (addA A p) M' μ' H' M4 μ4 H4 := (eH2.trans e3).trans e4
      have hu4 : H4 p = some (.lst us) := eA.own p _ (.inr rfl) hu
      cases b with
      | false =>
        refine ⟨M4, μ4, us, acc, hu4, mo4, e'.trans eA.del2, ru.mono eA.ex eA.pre, by omega, ?_⟩
        rw [take_snoc hx]
        exact h4
      | true =>
        refine h4 (addA A p) M4 σ3 H4 (c3.eff e4 mo4) _ fun M5 H5 y w μ5 mo5 e5 r5 h5 => ?_
        have eB : Eff (addA A p) M' μ' H' M5 μ5 H5 := eA.trans e5
        have hu5 : H5 p = some (.lst us) := eB.own p _ (.inr rfl) hu
        have rus : VRs K (vw (addA A p) M5 μ5 H5) M5 (us ++ [y]) (acc ++ [w]) := (ru.mono eB.ex eB.pre).snoc r5
        refine ⟨us, hu5, ?_, M5, μ5, us ++ [y], acc ++ [w], upd_same, mo5.wr hu5 noTb_lst, ?_, ?_, by simp; omega, ?_⟩
        · rw [ru.length]
          omega
        · rw [delH_upd2]
          exact e'.trans eB.del2
        · rw [vw_add, delH_upd2, ← vw_add]
          exact rus
        · rw [take_snoc hx]
          exact h5
    · have hei : i = ns.length := by omega
      subst hei
      refine .inl ⟨hit.2 (by simp), ?_⟩
      rw [List.take_length] at hI
      have md := mo'.del hA hu noTb_lst
      have rd : VRs K (vw A M' μ' (delH H' p)) M' us acc := by
        rw [← vw_add]
        exact ru
      obtain ⟨M2, μ2, w, m2, e2, r2, hR⟩ := (hd acc μ' hI).use md rd (show delH H' p p = none from if_pos rfl)
      rw [delH_upd hu] at m2 e2 r2
      exact q M2 H' _ w μ2 m2 ((e1.trans e').trans e2) r2 hR
/-- as as_for, the list told once the iterator is made -/
theorem as_forD {K : PySem.W.Frag} {Γ : G} {μ : Mu} {wi : TI} {g : TG} {tb : TS} {D : AEn} {α : Type} (f : α → W)
    (h : AI K wi Γ μ fun items S μ1 => ∃ (ns : List α) (I : List α → G → Mu → Prop), items = ns.map f ∧ (∀ pre Γ' μ', I pre Γ' μ' → S μ') ∧ I [] Γ μ1 ∧
      (∀ pre x post Γ' μ', ns = pre ++ x :: post → I pre Γ' μ' → AG K g (f x) Γ' μ' fun Γ2 μ2 => AS K tb { D with nx := I (pre ++ [x]), ct := I (pre ++ [x]), bk := D.nx } Γ2 μ2) ∧
      ∀ Γ' μ', I ns Γ' μ' → D.nx Γ' μ') : AS K (tFor wi g tb) D Γ μ := fun A M σ H cn E hE =>
  h A M σ H cn _ fun M1 H1 J items S μ1 mo1 e1 hJ ⟨ns, I, hi, hS, h0, hs, hd⟩ => by
    subst hi
    refine ⟨fun i m σ' H' => ∃ M' Γ' μ', Cn K A M' σ' H' Γ' μ' ∧ Eff A M1 μ1 H1 M' μ' H' ∧ i ≤ ns.length ∧ m = ns.length - i ∧ I (ns.take i) Γ' μ',
      ⟨ns.length, M1, Γ, μ1, cn.eff e1 mo1, Eff.refl, Nat.zero_le _, rfl, h0⟩, fun i m σ' H' hW => ?_⟩
    obtain ⟨M', Γ', μ', c', e', hi, rfl, hI⟩ := hW
    have hit := hJ A M' H' μ' c'.mo e'.ex e'.pre (hS _ _ _ hI) i
    by_cases hlt : i < ns.length
    · have hx : ns[i]? = some ns[i] := List.getElem?_eq_getElem hlt
      have hw : (ns.map f)[i]? = some (f ns[i]) := by rw [List.getElem?_map, hx]; rfl
      obtain ⟨hgo, hy⟩ := hit.1 _ hw
      refine .inr ⟨hgo, fun σ2 H2 => ∃ M2 Γ2 μ2, Cn K A M2 σ2 H2 Γ2 μ2 ∧ Eff A M1 μ1 H1 M2 μ2 H2 ∧ I (ns.take (i + 1)) Γ2 μ2,
        fun σ2 H2 ⟨M2, Γ2, μ2, c2, e2, hI2⟩ => ⟨ns.length - (i + 1), by omega, M2, Γ2, μ2, c2, e2, hlt, rfl, hI2⟩, fun x H2 hyld => ?_⟩
      obtain ⟨ex2, rx⟩ := hy x H2 hyld
      have e2' : Eff A M' μ' H' M' μ' H2 := Eff.of_ex ex2
      refine hs (ns.take i) ns[i] (ns.drop (i + 1)) Γ' μ' (split_at hx) hI A M' σ' H2 x (c'.ex ex2) rx _ fun M3 σ3 H3 Γ3 μ3 c3 e3 h3 => ?_
      have e13 : Eff A M1 μ1 H1 M3 μ3 H3 := (e'.trans e2').trans e3
      refine h3 A M3 σ3 H3 c3 _ ⟨fun M4 σ4 H4 Γ4 μ4 c4 e4 h4 => ?_, fun M4 H4 v w μ4 m4 e4 r4 h4 => hE.rt M4 H4 v w μ4 m4 ((e1.trans e13).trans e4) r4 h4, fun M4 σ4 H4 Γ4 μ4 c4 e4 h4 => hE.nx M4 σ4 H4 Γ4 μ4 c4 ((e1.trans e13).trans e4) h4, fun M4 σ4 H4 Γ4 μ4 c4 e4 h4 => ?_, hE.xx.after (e1.trans e13)⟩
      · refine ⟨M4, Γ4, μ4, c4, e13.trans e4, ?_⟩
        rw [take_snoc hx]
        exact h4
      · refine ⟨M4, Γ4, μ4, c4, e13.trans e4, ?_⟩
        rw [take_snoc hx]
        exact h4
    · have hei : i = ns.length := by omega
      subst hei
      refine .inl ⟨hit.2 (by simp), ?_⟩
      rw [List.take_length] at hI
      exact hE.nx M' σ' H' Γ' μ' c' (e1.trans e') (hd Γ' μ' hI)
theorem ax_xvV {K : PySem.W.Frag} {Γ : G} {μ : Mu} {R : W → Mu → Prop} {a C d : Addr} {x : PySem.Str} {k i : Nat} {w : W} (hx : ErrV K x) (hC : clA K x C) (hi : Γ[i]? = some (some (.k (.ref a)))) (hk : μ[k]? = some (some (.xd d w))) (q : R w μ) : AX K (tXv K a (.ref C) (some d) (tVar i)) Γ μ R :=
  ax_xv hx hC (ax_var hi ⟨rfl, hk, q⟩)
theorem set_self {μ : Mu} {k : Nat} {c : Option C} (h : μ[k]? = some c) : μ.set k c = μ := by
  apply List.ext_getElem?
  intro j
  rw [List.getElem?_set]
  by_cases e : k = j
  · subst e
    rw [if_pos rfl, if_pos (List.getElem?_eq_some_iff.mp h).1, h]
  · rw [if_neg e]
theorem eqv_rs {d : PyData} (h : SeqAt.shaped d = true) : PyData.eqv d d = true := SeqAt.eqv_refl d (SeqAt.canLay_of_shaped h)
/-! ### the list that is drawn from -/
def PotOk (n : Nat) (c : Option C) : Prop := ∃ a b k : Int, c = some (.lst (wInts [a, b, k])) ∧ 0 ≤ a ∧ 0 ≤ b ∧ b < 2 ^ 200 ∧ 0 ≤ k ∧ k ≤ n
theorem PotOk.le {n m : Nat} {c : Option C} (h : PotOk n c) (e : n ≤ m) : PotOk m c := let ⟨a, b, k, h0, h1, h2, h3, h4, h5⟩ := h; ⟨a, b, k, h0, h1, h2, h3, h4, by omega⟩
def F_draw : FS := fun ws μ R => ∃ k many p n, ws = [.m k, .d (.int many)] ∧ μ[k]? = some p ∧ PotOk n p ∧ n ≤ 1000000 ∧ 0 < many ∧ many < 2 ^ 200 ∧ ∀ r p', 0 ≤ r → r < many → PotOk (n + 1) p' → R (.d (.int r)) (μ.set k p')
theorem draw_at {μ : Mu} {R : W → Mu → Prop} {k : Nat} {many : Int} {p : Option C} {n : Nat} (hk : μ[k]? = some p) (hp : PotOk n p) (hn : n ≤ 1000000) (h0 : 0 < many) (h1 : many < 2 ^ 200) (q : ∀ r p', 0 ≤ r → r < many → PotOk (n + 1) p' → R (.d (.int r)) (μ.set k p')) : F_draw [.m k, .d (.int many)] μ R := ⟨k, many, p, n, rfl, hk, hp, hn, h0, h1, q⟩
theorem Keeps.pot {μ : Mu} {k n : Nat} {p : Option C} (h : PotOk n p) : Keeps μ (μ.set k p) := by
  obtain ⟨a, b, c, rfl, _⟩ := h
  exact Keeps.set (xs := [.int a, .int b, .int c])
/-! ### what the clauses do -/
section
variable {K : PySem.W.Frag} {D : AEn} {x y : PySem.Str} {w : W} {Γ : G} {μ : Mu} {i : Nat} {ts : Addr → PySem.Value → Option Addr → TS} {r : List Hn}
theorem hX_yes (h : SubIs K x y true) (q : ∀ a C d, clA K x C → AS K (ts a (.ref C) (some d)) { D with nx := fun g m => D.nx (g.set i none) m, bk := fun g m => D.bk (g.set i none) m, ct := fun g m => D.ct (g.set i none) m } (Γ.set i (some (.k (.ref a)))) (μ ++ [some (.xd d w)])) :
    hX K D (⟨y, some i, ts⟩ :: r) x w Γ μ := ⟨true, h, fun _ a C d hc => q a C d hc, fun z => by cases z⟩
theorem hX_yesA (h : SubIs K x y true) (q : ∀ a C d, clA K x C → AS K (ts a (.ref C) (some d)) D Γ (μ ++ [some (.xd d w)])) : hX K D (⟨y, none, ts⟩ :: r) x w Γ μ := ⟨true, h, fun _ a C d hc => q a C d hc, fun z => by cases z⟩
theorem hX_no {j : Option Nat} (h : SubIs K x y false) (q : hX K D r x w Γ μ) : hX K D (⟨y, j, ts⟩ :: r) x w Γ μ := ⟨false, h, fun z => absurd z (by decide), fun _ => q⟩
end
end Pd

/-! Pd13: defs that call themselves; slices of tuples, turned tuples. -/
namespace HT
open PySem PySem.Spec PyProof.Rows PySem.Calls
section
variable {prog : Program} {w : World} {A : Around} {E : Value → Shared → Prop} {s : Shared}
theorem adjust_rev (n : Nat) : Builtin.Slice.sliceAdjust none none (-1) (n : Int) = ((n : Int) - 1, -1) := rfl
theorem places_rev (n : Nat) : Builtin.Slice.slicePlaces ((n : Int) - 1) (-1) (-1) = n := by
  unfold Builtin.Slice.slicePlaces
  have h1 : ¬ ((-1 : Int) > 0) := by omega
  simp only [h1, if_false]
  rw [show (-(-1 : Int)) = 1 from rfl, Int.ediv_one]
  split <;> omega
theorem sliceApplied_rev {sl : Addr} {vl vu vs : Value} {n : Nat} {Q : Int × Int × Nat → Shared → Prop} (hs : s.heap.IsSliceOf sl vl vu vs) (pl : IsPart vl none) (pu : IsPart vu none) (ps : IsPart vs (some (-1)))
    (h : Q ((n : Int) - 1, -1, n) s) : wpAny (model prog w) A (Builtin.Slice.sliceApplied (.ref sl) (pure (n : Int))) Q E s := by
  obtain ⟨os, hos, hcs, hds⟩ := id hs
  unfold Builtin.Slice.sliceApplied Builtin.Slice.sliceFields
  refine wpAny_bind (wpAny_bind (wpAny_field hos hds (x := vl) rfl (wpAny_bind (wpAny_field hos hds (x := vu) rfl (wpAny_bind (wpAny_field hos hds (x := vs) rfl (wpAny_pure ?_)))))))
  refine wpAny_bind (slicePart_ ps ?_)
  show wpAny _ _ (if ((-1 : Int) == 0) = true then _ else _) _ _ s
  rw [if_neg (by decide)]
  refine wpAny_bind (slicePart_ pl (wpAny_bind (slicePart_ pu (wpAny_bind (wpAny_pure ?_)))))
  show wpAny _ _ (match Builtin.Slice.sliceAdjust none none (-1) (n : Int) with | (lo, hi) => pure (lo, (-1 : Int), Builtin.Slice.slicePlaces lo hi (-1))) _ _ s
  rw [adjust_rev]
  show wpAny _ _ (pure (((n : Int) - 1), (-1 : Int), Builtin.Slice.slicePlaces ((n : Int) - 1) (-1) (-1))) _ _ s
  rw [places_rev]
  exact wpAny_pure h
theorem pick_rev (xs : Array Value) : ((List.range xs.size).filterMap fun (m : Nat) => xs[(((xs.size : Nat) : Int) - 1 + (m : Int) * (-1)).toNat]?).toArray = xs.toList.reverse.toArray := by
  have e : ((List.range xs.size).filterMap fun (m : Nat) => xs[(((xs.size : Nat) : Int) - 1 + (m : Int) * (-1)).toNat]?) = ((List.range xs.size).map fun k => xs.size - 1 - k).filterMap (xs[·]?) := by
    rw [List.filterMap_map]
    have e2 : (fun (m : Nat) => xs[(((xs.size : Nat) : Int) - 1 + (m : Int) * (-1)).toNat]?) = ((xs[·]?) ∘ fun k => xs.size - 1 - k) := by
      funext m
      show xs[_]? = xs[_]?
      rw [show (((xs.size : Nat) : Int) - 1 + (m : Int) * (-1)).toNat = xs.size - 1 - m by omega]
    rw [e2]
  rw [e, PySem.W.krv_range, List.filterMap_reverse, PySem.W.krv_all]
theorem getItem_tuple_rev {t sl : Addr} {items : Array Value} {vl vu vs : Value} {Q : Value → Shared → Prop} (ht : IsTup s.heap t items) (hs : s.heap.IsSliceOf sl vl vu vs) (pl : IsPart vl none) (pu : IsPart vu none) (ps : IsPart vs (some (-1)))
    (h : Q (.ref s.heap.objs.size) { s with heap := s.heap.push { cls := .type "tuple", data := .seq items.toList.reverse.toArray } })
    (hsz : items.size ≤ sizeLine) : wpAny (model prog w) A (getItem (.ref t) (.ref sl)) Q E s := by
  have htake : sizeOk (.seq items.toList.reverse.toArray) := by
    show items.toList.reverse.toArray.size ≤ sizeLine
    rw [List.size_toArray, List.length_reverse, Array.length_toList]
    exact hsz
  obtain ⟨os, hos, hcs, hds⟩ := id hs
  have hTs : s.TypeIs (.ref sl) "slice" := ⟨os, hos, hcs⟩
  unfold getItem
  try with_reducible refine wpAny_holding ?_
  first | refine wpAny_bind (wpAny_pure ?_) | skip
  refine wpAny_bind (wpAny_sequenceKey ht.typeIs (by decide) ?_)
  refine wpAny_bind (wpAny_callSpecial?_slot (name := Str.ofString "__getitem__") ht.typeIs PyProof.Rows.slot_tuple_getitem
    (wpAny_call_entry PyProof.Rows.slot_tuple_getitem ht.typeIs entry_tuple_getitem ?_ (args_tuple_getitem _ _)))
  show wpAny _ _ (Builtin.Tuple.tupleItemsOf (.ref t) >>= _) _ _ s
  refine wpAny_bind (tupleItemsOf_ ht ?_)
  refine wpAny_bind (wpAny_typeOf hTs ?_)
  rw [if_pos (by decide)]
  refine wpAny_bind (sliceApplied_rev hs pl pu ps ?_)
  have hno : ¬ (((((items.size : Nat) : Int) - 1) == 0 && (-1 : Int) == 1 && items.size == items.size) = true) := by
    intro q
    rw [Bool.and_eq_true, Bool.and_eq_true] at q
    exact absurd q.1.2 (by decide)
  show wpAny _ _ (if ((((items.size : Nat) : Int) - 1) == 0 && (-1 : Int) == 1 && items.size == items.size) = true then _ else _) _ _ s
  rw [if_neg hno, pick_rev]
  first
    | exact wpAny_bind (m := Builtin.Tuple.tupleExact _) (wpAny_newObj_type (wpAny_pure ⟨_, rfl, wpAny_pure h⟩) htake)
    | exact wpAny_bind (m := Builtin.Tuple.tupleExact _) (wpAny_newObj_type (wpAny_bind (wpAny_pure (wpAny_pure ⟨_, rfl, wpAny_pure h⟩))) htake)
    | exact wpAny_bind (wpAny_bind (m := Builtin.Tuple.tupleExact _) (wpAny_newObj_type (wpAny_pure (wpAny_pure ⟨_, rfl, wpAny_pure h⟩)) htake))
    | exact wpAny_bind (wpAny_bind (m := Builtin.Tuple.tupleExact _) (wpAny_newObj_type (wpAny_pure ⟨_, rfl, wpAny_pure h⟩) htake))
end
end HT
namespace L2
open PySem PySem.Spec PyProof.Rows
variable {X : Cx}
def tRevT (K : PySem.W.Frag) (te : TE) : TE := fun σ H Q => te σ H fun x H1 => ∃ a xs, x = .ref a ∧ SqT K H1 a xs ∧ ∀ p, H1 p = none → Q (.ref p) (upd H1 p (.tup xs.reverse))
theorem pe_revT {e : Expr} {te : TE} {k : Nat} {p1 p2 p3 pos : Pos} (he : PE X e te) : PE X (.Subscript e (.Slice none none (some (.UnaryOp .USub (.Constant (.int 1) k p1) p2)) p3) pos) (tRevT X.K te) := by
  refine ⟨fun pins s σ H Q I h => ?_⟩
  refine Subscript_ (thn (he.run pins s σ H _ I h) fun v s1 ⟨x, H1, I1, r1, a, xs, ex, hx, q⟩ => ?_)
  subst ex
  cases r1
  have hst : PO X (some (.UnaryOp .USub (.Constant (.int 1) k p1) p2)) (tPart (tUn (rU fun i => .int (-i)) (tC (.int 1)))) := po_some (pe_un un_neg pe_int)
  refine wpAny_Slice (thn (po_none.run pins s1 σ H1 (fun o H2 => o = none ∧ H2 = H1) I1 ⟨rfl, rfl⟩) fun vl s2 ⟨l, H2, I2, pl, el, e2⟩ => ?_)
  subst el e2
  refine thn (po_none.run pins s2 σ H2 (fun o H3 => o = none ∧ H3 = H2) I2 ⟨rfl, rfl⟩) fun vu s3 ⟨u, H3, I3, pu, eu, e3⟩ => ?_
  subst eu e3
  refine thn (hst.run pins s3 σ H3 (fun o H4 => o = some (-1) ∧ H4 = H3) I3 ⟨1, rfl, -1, rfl, rfl, rfl⟩) fun vs s4 ⟨o, H4, I4, ps, eo, e4⟩ => ?_
  subst eo e4
  have I5 : Inv X pins σ H4 { s4 with heap := s4.heap.push { cls := .type "slice", data := .fields #[vl, vu, vs] } } := I4.kept (t' := s4.toks) fun b ob q => Heap.get?_push_of_some _ q
  obtain ⟨its, r, ht, hz⟩ := I5.tuple hx
  have hlen := r.length
  show wpAny (model X.prog X.w) X.A (subscriptTail e (.Slice none none (some (.UnaryOp .USub (.Constant (.int 1) k p1) p2)) p3) (.ref a) (.ref s4.heap.objs.size)) (EP X pins σ Q) X.xe { s4 with heap := s4.heap.push { cls := .type "slice", data := .fields #[vl, vu, vs] } }
  refine tail_any (ops := [.ref a, .ref s4.heap.objs.size]) ht.typeIs (PyProof.Rows.slot_tuple_getitem.lookup) ?_ (by with_unfolding_all rfl)
  refine HT.getItem_tuple_rev ht (Heap.IsSliceOf.new _ vl vu vs) pl pu ps ?_ (by rw [List.size_toArray]; omega)
  refine ⟨.ref _, _, I5.laid (t' := s4.toks) (o := .tup xs.reverse) (fun b ob q => Heap.get?_push_of_some _ q) (Nat.le_refl _) ?_, rfl, q _ (I5.hok.fresh (Nat.le_refl _))⟩
  exact ⟨by rw [List.length_reverse]; exact hz, its.reverse, r.reverse, IsTup.new _ _⟩
end L2
namespace Pd
open PySem PySem.Spec L2
open Evl (Ex)
open PyProof.Rows
section
variable {K : PySem.W.Frag} {Γ : G} {μ : Mu} {R : W → Mu → Prop} {te : TE}
theorem ax_revT (h : AX K te Γ μ fun x μ1 => ∃ ws, TW x ws ∧ NT ws.reverse μ1 R) : AX K (tRevT K te) Γ μ R := fun A M σ H c Q q =>
  h A M σ H c _ fun M1 H1 v x μ1 mo1 e1 r1 ⟨ws, hx, hn⟩ => by
    obtain ⟨a, vs, rfl, hs, rs⟩ := hx.get r1
    refine ⟨a, vs, rfl, Evl.ex_t vw_le hs, fun p hp => ?_⟩
    obtain ⟨w, m2, e2, r2, hR⟩ := hn.use mo1 rs.reverse hp
    exact q M1 _ _ w μ1 m2 (e1.trans e2) r2 hR
theorem o_slT {x : W} {ws : List W} {lo hi : Option Int} (hx : TW x ws) (q : NT (cutW ws lo hi) μ R) : ASl K (rSlU K) x lo hi μ R := asl_r (asl_l fun A M H v mo rv Q h => by
  obtain ⟨a, vs, rfl, hs, rs⟩ := hx.get rv
  refine ⟨a, vs, rfl, Evl.ex_t vw_le hs, fun z => ?_, fun _ p hp => ?_⟩
  · have e : cutW ws lo hi = ws := by
      rw [rs.length] at z
      unfold cutW
      rw [z.1, z.2]
      simp
    rw [e] at q
    exact q.same mo hs rs h
  · obtain ⟨w, m2, e2, r2, hR⟩ := q.use mo (vrs_cut rs lo hi) hp
    exact h M _ _ w μ m2 e2 r2 hR)
end
/-! isinstance of data -/
def is_list : PyData → Bool
  | .list _ => true
  | _ => false
theorem c_is_list {K : PySem.W.Frag} {μ : Mu} {R : W → Mu → Prop} {d : PyData} (hb : bd d) (q : R (.d (.bool (is_list d))) μ) : AC K (rIsi K) [.d d, .k (.ty "list")] μ R := by
  cases d with
  | none => exact c_isi tyw_n kb_NoneType_list q
  | bool _ => exact c_isi tyw_b kb_bool_list q
  | int _ => exact c_isi tyw_i kb_int_list q
  | str _ => exact c_isi tyw_s kb_str_list q
  | list _ => exact c_isi tyw_l kb_list_list q
  | tuple _ => exact c_isi tyw_t kb_tuple_list q
  | dict _ => exact hb.elim
def is_tuple : PyData → Bool
  | .tuple _ => true
  | _ => false
theorem c_is_tuple {K : PySem.W.Frag} {μ : Mu} {R : W → Mu → Prop} {d : PyData} (hb : bd d) (q : R (.d (.bool (is_tuple d))) μ) : AC K (rIsi K) [.d d, .k (.ty "tuple")] μ R := by
  cases d with
  | none => exact c_isi tyw_n kb_NoneType_tuple q
  | bool _ => exact c_isi tyw_b kb_bool_tuple q
  | int _ => exact c_isi tyw_i kb_int_tuple q
  | str _ => exact c_isi tyw_s kb_str_tuple q
  | list _ => exact c_isi tyw_l kb_list_tuple q
  | tuple _ => exact c_isi tyw_t kb_tuple_tuple q
  | dict _ => exact hb.elim
def is_bool : PyData → Bool
  | .bool _ => true
  | _ => false
theorem c_is_bool {K : PySem.W.Frag} {μ : Mu} {R : W → Mu → Prop} {d : PyData} (hb : bd d) (q : R (.d (.bool (is_bool d))) μ) : AC K (rIsi K) [.d d, .k (.ty "bool")] μ R := by
  cases d with
  | none => exact c_isi tyw_n kb_NoneType_bool q
  | bool _ => exact c_isi tyw_b kb_bool_bool q
  | int _ => exact c_isi tyw_i kb_int_bool q
  | str _ => exact c_isi tyw_s kb_str_bool q
  | list _ => exact c_isi tyw_l kb_list_bool q
  | tuple _ => exact c_isi tyw_t kb_tuple_bool q
  | dict _ => exact hb.elim
def is_int : PyData → Bool
  | .bool _ => true
  | .int _ => true
  | _ => false
theorem c_is_int {K : PySem.W.Frag} {μ : Mu} {R : W → Mu → Prop} {d : PyData} (hb : bd d) (q : R (.d (.bool (is_int d))) μ) : AC K (rIsi K) [.d d, .k (.ty "int")] μ R := by
  cases d with
  | none => exact c_isi tyw_n kb_NoneType_int q
  | bool _ => exact c_isi tyw_b kb_bool_int q
  | int _ => exact c_isi tyw_i kb_int_int q
  | str _ => exact c_isi tyw_s kb_str_int q
  | list _ => exact c_isi tyw_l kb_list_int q
  | tuple _ => exact c_isi tyw_t kb_tuple_int q
  | dict _ => exact hb.elim
def is_str : PyData → Bool
  | .str _ => true
  | _ => false
theorem c_is_str {K : PySem.W.Frag} {μ : Mu} {R : W → Mu → Prop} {d : PyData} (hb : bd d) (q : R (.d (.bool (is_str d))) μ) : AC K (rIsi K) [.d d, .k (.ty "str")] μ R := by
  cases d with
  | none => exact c_isi tyw_n kb_NoneType_str q
  | bool _ => exact c_isi tyw_b kb_bool_str q
  | int _ => exact c_isi tyw_i kb_int_str q
  | str _ => exact c_isi tyw_s kb_str_str q
  | list _ => exact c_isi tyw_l kb_list_str q
  | tuple _ => exact c_isi tyw_t kb_tuple_str q
  | dict _ => exact hb.elim
theorem cut_d {xs : List PyData} {lo hi : Option Int} : cutW (xs.map W.d) lo hi = ((xs.drop (HT.sIx xs.length 0 lo)).take (HT.sIx xs.length xs.length hi - HT.sIx xs.length 0 lo)).map W.d := by
  unfold cutW
  rw [List.length_map, List.map_take, List.map_drop]
theorem cutD_to {xs : List PyData} {k : Nat} : cutW (xs.map W.d) none (some (k : Int)) = (xs.take k).map W.d := by
  rw [cut_d, HT.sIx_none, HT.sIx_nat, List.drop_zero, Nat.sub_zero]
  exact congrArg _ (List.take_eq_take_iff.mpr (by omega))
theorem cutD_from {xs : List PyData} {k : Nat} : cutW (xs.map W.d) (some (k : Int)) none = (xs.drop k).map W.d := by
  rw [cut_d, HT.sIx_none, HT.sIx_nat]
  refine congrArg _ ?_
  rw [List.take_of_length_le (by rw [List.length_drop]; exact Nat.le_refl _)]
  by_cases h : k ≤ xs.length
  · rw [Nat.min_eq_left h]
  · rw [Nat.min_eq_right (by omega), List.drop_of_length_le (Nat.le_refl _), List.drop_of_length_le (by omega)]
theorem NL.dd {xs : List PyData} {μ : Mu} {R : W → Mu → Prop} (h : R (.d (.list xs)) μ) : NL (xs.map W.d) μ R := NL.d h rfl
theorem NT.dd {xs : List PyData} {μ : Mu} {R : W → Mu → Prop} (h : R (.d (.tuple xs)) μ) : NT (xs.map W.d) μ R := NT.d h rfl
section
variable {K : PySem.W.Frag} {Γ : G} {μ : Mu} {R : W → Mu → Prop} {wi : TI} {g : TG} {te : TE} {vs : List Nat}
theorem ax_lcB {α : Type} (f : α → W) (ns : List α) (pf : α → Bool) (hz : ns.length ≤ sizeLine) (hw : WipeOk g vs) (h : AI K wi Γ μ fun items S μ1 => items = ns.map f ∧ S μ ∧ μ1 = μ)
    (hs : ∀ x, x ∈ ns → AG K g (f x) (wipeG Γ vs) μ fun Γ2 μ2 => AX K te Γ2 μ2 fun w μ4 => w = .d (.bool (pf x)) ∧ μ4 = μ) (q : R (.d (.list ((ns.map pf).map PyData.bool))) μ) : AX K (tLc wi g tYes te vs) Γ μ R :=
  ax_lcP f ns (fun x => .d (.bool (pf x))) hz hw h hs (NL.d q (by simp))
/-- a comprehension of data -/
theorem ax_lcD' {α : Type} (f : α → W) (ns : List α) (df : α → PyData) (hz : ns.length ≤ sizeLine) (hw : WipeOk g vs) (h : AI K wi Γ μ fun items S μ1 => items = ns.map f ∧ S μ ∧ μ1 = μ)
    (hs : ∀ x, x ∈ ns → AG K g (f x) (wipeG Γ vs) μ fun Γ2 μ2 => AX K te Γ2 μ2 fun w μ4 => w = .d (df x) ∧ μ4 = μ) (q : R (.d (.list (ns.map df))) μ) : AX K (tLc wi g tYes te vs) Γ μ R :=
  ax_lcP f ns (fun x => .d (df x)) hz hw h hs (NL.d q (by simp))
theorem c_allB {bs : List Bool} (q : R (.d (.bool (bs.all id))) μ) : AC K (rAll K) [.d (.list (bs.map PyData.bool))] μ R := by
  refine ac_all (bs := bs) ?_ q
  have e : bs.map (fun n => W.d (.bool n)) = (bs.map PyData.bool).map W.d := by simp
  rw [e]
  exact .d _
theorem c_sumI {ns : List Int} (q : R (.d (.int ns.sum)) μ) : AC K (rSum K) [.d (dInts ns)] μ R := ac_sum (lw_ints _ _) q
end
theorem NT.d0 {μ : Mu} {R : W → Mu → Prop} (h : R (.d (.tuple [])) μ) : NT [] μ R := NT.d (xs := []) h rfl
theorem NT.d4 {μ : Mu} {R : W → Mu → Prop} {a b c d : PyData} (h : R (.d (.tuple [a, b, c, d])) μ) : NT [W.d a, W.d b, W.d c, W.d d] μ R := NT.d (xs := [a, b, c, d]) h rfl
theorem NT.d5 {μ : Mu} {R : W → Mu → Prop} {a b c d e : PyData} (h : R (.d (.tuple [a, b, c, d, e])) μ) : NT [W.d a, W.d b, W.d c, W.d d, W.d e] μ R := NT.d (xs := [a, b, c, d, e]) h rfl
theorem NT.d6 {μ : Mu} {R : W → Mu → Prop} {a b c d e f : PyData} (h : R (.d (.tuple [a, b, c, d, e, f])) μ) : NT [W.d a, W.d b, W.d c, W.d d, W.d e, W.d f] μ R := NT.d (xs := [a, b, c, d, e, f]) h rfl
theorem NL.d4 {μ : Mu} {R : W → Mu → Prop} {a b c d : PyData} (h : R (.d (.list [a, b, c, d])) μ) : NL [W.d a, W.d b, W.d c, W.d d] μ R := NL.d (xs := [a, b, c, d]) h rfl
theorem NL.d5 {μ : Mu} {R : W → Mu → Prop} {a b c d e : PyData} (h : R (.d (.list [a, b, c, d, e])) μ) : NL [W.d a, W.d b, W.d c, W.d d, W.d e] μ R := NL.d (xs := [a, b, c, d, e]) h rfl
theorem NL.d6 {μ : Mu} {R : W → Mu → Prop} {a b c d e f : PyData} (h : R (.d (.list [a, b, c, d, e, f])) μ) : NL [W.d a, W.d b, W.d c, W.d d, W.d e, W.d f] μ R := NL.d (xs := [a, b, c, d, e, f]) h rfl
theorem NL.d7 {μ : Mu} {R : W → Mu → Prop} {a b c d e f g : PyData} (h : R (.d (.list [a, b, c, d, e, f, g])) μ) : NL [W.d a, W.d b, W.d c, W.d d, W.d e, W.d f, W.d g] μ R := NL.d (xs := [a, b, c, d, e, f, g]) h rfl
/-- data of such a size -/
def Gd (y : PyData) (a b : Nat) : Prop := bd y ∧ nd y ≤ a ∧ y.depth ≤ b
def Gds (ys : List PyData) (a b : Nat) : Prop := bds ys ∧ nds ys ≤ a ∧ PyData.depthAll ys ≤ b
theorem Gd.le {y : PyData} {a b c d : Nat} (h : Gd y a b) (h1 : a ≤ c) (h2 : b ≤ d) : Gd y c d := ⟨h.1, Nat.le_trans h.2.1 h1, Nat.le_trans h.2.2 h2⟩
theorem Gds.nil : Gds [] 0 0 := ⟨trivial, Nat.le_refl _, Nat.le_refl _⟩
theorem Gds.cons {y : PyData} {ys : List PyData} {a b c d : Nat} (h : Gd y a b) (k : Gds ys c d) : Gds (y :: ys) (a + c) (max b d) := ⟨⟨h.1, k.1⟩, Nat.add_le_add h.2.1 k.2.1, by
  have := h.2.2
  have := k.2.2
  simp only [PyData.depthAll]
  omega⟩
theorem Gd.cons_ {y : PyData} {ys : List PyData} {a b c d : Nat} (h : Gd y a b) (k : Gds ys c d) : Gds (y :: ys) (a + c) (max b d) := Gds.cons h k
theorem Gds.tup {ys : List PyData} {a b : Nat} (h : Gds ys a b) : Gd (.tuple ys) (a + 1) (b + 1) := ⟨h.1, Nat.add_le_add_right h.2.1 1, by
  have := h.2.2
  simp only [PyData.depth]
  omega⟩
theorem Gds.lst {ys : List PyData} {a b : Nat} (h : Gds ys a b) : Gd (.list ys) (a + 1) (b + 1) := ⟨h.1, Nat.add_le_add_right h.2.1 1, by
  have := h.2.2
  simp only [PyData.depth]
  omega⟩
theorem Gd.cons' {a b c d e : PyData} {A B C D E A' B' C' D' E' : Nat} (ha : Gd a A A') (hb : Gd b B B') (hc : Gd c C C') (hd : Gd d D D') (he : Gd e E E') : Gd (.tuple [a, b, c, d, e]) (A + (B + (C + (D + (E + 0)))) + 1) (max A' (max B' (max C' (max D' (max E' 0)))) + 1) := (ha.cons_ (hb.cons_ (hc.cons_ (hd.cons_ (he.cons_ Gds.nil))))).tup
theorem gd_none : Gd .none 1 0 := ⟨trivial, Nat.le_refl _, Nat.le_refl _⟩
theorem gd_bool (b : Bool) : Gd (.bool b) 1 0 := ⟨trivial, Nat.le_refl _, Nat.le_refl _⟩
theorem gd_int {i : Int} (h : i.natAbs ≤ 1000000000000000000000000000000) : Gd (.int i) 1 0 := ⟨by
  have h5 : (1000000000000000000000000000000 : Nat) < 10 ^ 50 := by decide
  show i.natAbs < 10 ^ 50
  omega, Nat.le_refl _, Nat.le_refl _⟩
theorem Gd.shw {y : PyData} {a b : Nat} (h : Gd y a b) (h1 : a ≤ 1000) (h2 : b ≤ 60) : Shw y := shw_of h.1 (Nat.le_trans h.2.1 h1) (Nat.le_trans h.2.2 h2)
theorem mu_endS {μ : Mu} {k : Nat} {p c : Option C} : (μ.set k p ++ [c])[μ.length]? = some c := by
  have := mu_end (μ := μ.set k p) (c := c)
  rwa [List.length_set] at this
theorem mu_setEndS {μ : Mu} {k : Nat} {p c c' : Option C} : (μ.set k p ++ [c]).set μ.length c' = μ.set k p ++ [c'] := by
  have := mu_setEnd (μ := μ.set k p) (c := c) (c' := c')
  rwa [List.length_set] at this
theorem mu_setK {μ ν : Mu} {k : Nat} {p p' c : Option C} (h : μ[k]? = some c) : (μ.set k p ++ ν).set k p' = μ.set k p' ++ ν := by rw [mu_setApp (mu_set h), mu_set2]
theorem fz_pot {μ : Mu} {k n : Nat} {p : Option C} {d : PyData} {R : W → Mu → Prop} (hp : PotOk n p) (q : R (.d d) (μ.set k p)) : Fz μ (.d d) (μ.set k p) R := ⟨_, [], d, by simp, by simp, Keeps.pot hp, .d d, q⟩
theorem fz_potC {μ cs : Mu} {k n : Nat} {p : Option C} {d : PyData} {R : W → Mu → Prop} (hp : PotOk n p) (q : R (.d d) (μ.set k p)) : Fz μ (.d d) (μ.set k p ++ cs) R := ⟨_, cs, d, rfl, by simp, Keeps.pot hp, .d d, q⟩
theorem fz_potI {μ : Mu} {k n : Nat} {p : Option C} {xs : List Int} {R : W → Mu → Prop} (hp : PotOk n p) (q : R (.d (dInts xs)) (μ.set k p)) : Fz μ (.m (μ.set k p).length) (μ.set k p ++ [some (.lst (wInts xs))]) R :=
  ⟨_, [some (.lst (wInts xs))], dInts xs, rfl, by simp, Keeps.pot hp, .m (by simp) mu_end (rns_ints xs), q⟩
theorem enum_d (vs : List PyData) : (vs.map W.d).mapIdx (fun i z => pairW (.d (.int (i : Nat))) z) = vs.zipIdx.map fun p => W.d (.tuple [.int (p.2 : Nat), p.1]) := by
  apply List.ext_getElem?
  intro i
  rw [List.getElem?_mapIdx, List.getElem?_map, List.getElem?_map, List.getElem?_zipIdx]
  cases vs[i]? with
  | none => rfl
  | some x => simp [pairW]
theorem fnG_none {P : Program} {w : World} {K : PySem.W.Frag} {mg : Str → Option Value} {base : Heap} {k : Nat} {f : Addr} {fd : FuncData} {ps : List Str} {F : FS} (h : ∀ ws μ R, ¬ F ws μ R) : FnG P w K mg base CX0 k f fd ps (spD K F) :=
  ⟨fun vs H Q E ⟨_, _, _, _, _, _, _, z, _⟩ => (h _ _ _ z).elim, fun A fr s H args us vs Q E _ _ _ _ _ ⟨_, _, _, _, _, _, _, z, _⟩ => (h _ _ _ z).elim⟩
theorem FnG.lv {P : Program} {w : World} {K : PySem.W.Frag} {mg : Str → Option Value} {base : Heap} {CX : CXT} {k k' : Nat} {f : Addr} {fd : FuncData} {ps : List Str} {sp : Sp} (F : FnG P w K mg base CX k f fd ps sp) (h : k = k') : FnG P w K mg base CX k' f fd ps sp := h ▸ F
end Pd

/-! Pd14: isinstance of a caught error that has a dict; more of texts. -/
namespace PySem.OwnErr
open PySem PySem.W PySem.Spec PySem.Calls PyProof.Rows
variable {prog : Program} {w : World} {A : Around} {E : Value → Shared → Prop} {s : Shared} {K : Frag} {x D : Addr} {ox : Obj} {od : Option Obj}
theorem found_data {C : Addr} {nm : Str} {u v : Value} (h0 : (clsIn K C).isSome = true) (h1 : findIn K (.ref C) nm = some (some u)) (h2 : specialIn K u "__get__" = some (some v)) (h3 : takesIn K u = some true) :
    findObj K C od nm = some (.bind v u) := by
  obtain ⟨c, hc⟩ := Option.isSome_iff_exists.mp h0
  unfold findObj
  rw [hc, Option.bind_some, h1, Option.bind_some]
  simp [h2, h3]
/-- the error's class, asked by its name -/
theorem cls_of_err {Q : Option Value → Shared → Prop} (T : L2.ExcC K D) (X : K.In s.heap) (I : InstAt s.heap x ox D od) (h : Q (some (.ref D)) { s with toks := s.toks + 1 }) : wpAny (model prog w) A (getAttr? (.ref x) "__class__") Q E s := by
  obtain ⟨cD, hcD, _⟩ := any_some T.hd
  have hf : findObj K D od "__class__" = some (.bind (.builtin "getset_descriptor.__get__") (.builtin "object.__class__")) := found_data (by rw [hcD]; rfl) T.ha T.hn T.ht
  obtain ⟨hp, g, dr, t, os⟩ := s
  have K0 := I.type (M := model prog w)
  have K1 := looks_findIn (M := model prog w) X T.hg
  have K2 := looks_findIn (M := model prog w) X T.hk
  have K3 := looks_find (M := model prog w) X I hf
  have isE : Looks (model prog w) hp (isInstance (.ref x) (.type "BaseException")) true := K0.andThen (looks_subIn X T.hs)
  have z0 : (false && onTheHeap (Value.builtin "BaseException.__getattribute__")) = false := rfl
  have z2 : (onTheHeap (Value.ref D) && Value.builtin "BaseException.__getattribute__" == Value.builtin "object.__getattribute__") = false := by
    have e : (Value.builtin "BaseException.__getattribute__" == Value.builtin "object.__getattribute__") = false := by decide +kernel
    rw [e]
    rfl
  unfold getAttr? getAttrBy? getAttrBy
  refine wpAny_bind (wpAny_mkText (wpAny_bind (wpAny_attempt (wpAny_holding (wpAny_bind (K0.at (wpAny_bind (K1.at ?_))))))))
  show wpAny _ _ (if (onTheHeap (Value.ref D) && Value.builtin "BaseException.__getattribute__" == Value.builtin "object.__getattribute__") = true
    then _ else _) _ _ _
  rw [z2, if_neg Bool.false_ne_true]
  unfold getAttrByItsOwn hookBefore
  refine wpAny_bind ?_
  have hz : onTheHeap (Value.ref D) = true := rfl
  rw [if_pos hz]
  refine K2.at (wpAny_bind (wpAny_attempt (wpAny_holding ?_)))
  unfold callGetattribute
  rw [z0, if_neg Bool.false_ne_true]
  unfold boundAndCalled
  rw [PySem.F.excAttr_ValueError.ga.bind (.ref x)]
  refine wpAny_bind (wpAny_pure ?_)
  show wpAny _ _ (call (.builtin "BaseException.__getattribute__")
    [.ref x, .str "__class__" t]) _ _ _
  refine wpAny_call (codeAny_call_builtin PySem.F.excAttr_ValueError.ga.plain PySem.F.entry_bexc_ga (@check_slot (model prog w) _ _ ⟨hp, g, dr, t + 1, os⟩ "BaseException.__getattribute__" "BaseException" "__getattribute__" (.ref x)
    [.str "__class__" t] [] _ (by decide +kernel) (by decide +kernel) isE (PySem.F.args_bexc_ga (.ref x) (.str "__class__" t)) ?_))
  unfold Builtin.«object.__getattribute__»
  refine wpAny_bind (wpAny_of_eq (a := ((Value.ref x : Value), [Value.str "__class__" t])) (by first
    | rfl
    | (simp only [slotArgs]; rfl)) ?_)
  refine wpAny_bind (wpAny_pure (wpAny_bind (K0.at (wpAny_bind (K3.at ?_)))))
  show wpAny _ _ (holding [Value.builtin "object.__class__"]
    (call (.builtin "getset_descriptor.__get__") [.builtin "object.__class__", .ref x, .ref D]) >>= ret) _ _ _
  refine wpAny_bind (wpAny_holding (wpAny_call (class_get (s := ⟨hp, g, dr, t + 1, os⟩) (ox := ox) (od := od) X I T.hm (wpAny_pure ?_))))
  show wpAny _ _ (handedOut (.ref D)) _ _ _
  rw [handedOut_of (v := .ref D) rfl]
  first
    | exact wpAny_pure (wpAny_pure h)
    | exact wpAny_pure h
    | exact wpAny_pure (wpAny_bind (wpAny_pure (wpAny_pure h)))
theorem kitx_err (T : L2.ExcC K D) : KitX K (.ref x) (.ref D) (fun h => InstAt h x ox D od) := by
  obtain ⟨cD, hcD, _⟩ := any_some T.hd
  obtain ⟨oc, oo, sl, ho⟩ : ∃ oc oo sl, K.lookup D = some ⟨oc, oo, .cls cD, sl⟩ := by
    unfold clsIn at hcD
    split at hcD
    · rename_i a b c d e
      cases hcD
      exact ⟨_, _, _, e⟩
    · cases hcD
  refine ⟨fun _ _ _ I => I.type, fun _ _ X _ A' Q' E' s' k q => ?_, fun h tp dd its n sl X htp => Bool.eq_false_iff.mpr fun q => ?_, fun X I k => cls_of_err T X I k⟩
  · unfold isType loadHead
    exact wpAny_bind (wpAny_loadPart (k _ _ (X _ _ ho)) (wpAny_pure q))
  · obtain rfl : D = tp := Value.ref.inj (beq_iff_eq.mp q)
    have z := (X _ _ ho).symm.trans htp
    cases z
end PySem.OwnErr
namespace L2
open PySem PySem.Spec PyProof.Rows PySem.Builtin PySem.Builtin.Str
open Pd (rLeI rGtI rGeI rMulU orR op_leU op_gtU op_geU op_mulU)
variable {X : Cx}
/-! ### texts -/
def rLeS : R2 := fun x y H Q => ∃ i j, x = .str i ∧ y = .str j ∧ Q (.bl (!decide (j.cps.toList < i.cps.toList))) H
def rGtS : R2 := fun x y H Q => ∃ i j, x = .str i ∧ y = .str j ∧ Q (.bl (decide (j.cps.toList < i.cps.toList))) H
def rGeS : R2 := fun x y H Q => ∃ i j, x = .str i ∧ y = .str j ∧ Q (.bl (!decide (i.cps.toList < j.cps.toList))) H
/-- a text some times -/
def repS (x : Str) (n : Nat) : Str := ⟨(List.replicate n x.cps.toList).flatten.toArray⟩
def rMulS : R2 := fun x y H Q => ∃ i n, x = .str i ∧ y = .int n ∧ 0 ≤ n ∧ n ≤ 1000 ∧ i.length ≤ 1000 ∧ Q (.str (repS i n.toNat)) H
theorem foldl_arr : ∀ (n : Nat) (x a : Array Nat), (List.replicate n x).foldl (· ++ ·) a = a ++ (List.replicate n x.toList).flatten.toArray
  | 0, x, a => by simp
  | n + 1, x, a => by
    rw [List.replicate_succ, List.foldl_cons, foldl_arr n x (a ++ x), List.replicate_succ, List.flatten_cons]
    apply Array.ext'
    simp
theorem op_mulS : OpR X (binaryOp .Mult) rMulS := by
  intro pins s σ H x y v u Q I rx ry h
  obtain ⟨i, n, rfl, rfl, n0, n1, hl, q⟩ := h
  obtain ⟨t, rfl⟩ := rx
  obtain ⟨t', rfl⟩ := ry
  have h1 : (decide (n < -(2 ^ 63 : Int)) || decide (n ≥ 2 ^ 63)) = false := by
    rw [decide_eq_false (by omega), decide_eq_false (by omega)]
    rfl
  have h2 : ¬ n < 1 → (n == 1 || i.length == 0) = false → ¬ ((i.length : Int) > (2 ^ 63 - 1) / n) := fun a _ z => by
    have : (1000 : Int) ≤ (2 ^ 63 - 1) / n := (Int.le_ediv_iff_mul_le (by omega)).mpr (by omega)
    omega
  have h3 : i.length * n.toNat ≤ 1000 * 1000 := Nat.mul_le_mul hl (by omega)
  have h4 : ¬ n < 1 → (n == 1 || i.length == 0) = false → tooLong (i.length * n.toNat) = false := fun _ _ => by
    unfold tooLong
    rw [sizeLine_eq]
    exact decide_eq_false (by omega)
  have ans : ∀ z : Str, z = repS i n.toNat → ∀ t k, EP X pins σ Q (.str z t) { s with toks := k } := fun z e t k => ⟨.str z, H, I.tok _, ⟨t, rfl⟩, by rw [e]; exact q⟩
  refine PySem.P.mul_str h1 h2 h4 ?_
  split
  · refine ⟨by decide, ans _ ?_ _ _⟩
    have : n.toNat = 0 := by omega
    rw [this]
    rfl
  · split
    · rename_i a b
      rw [Bool.or_eq_true] at b
      have := ans i ?_ t s.toks
      · exact this
      · rcases b with b | b
        · have : n = 1 := eq_of_beq b
          subst this
          show i = repS i 1
          unfold repS
          rw [List.replicate_succ, List.replicate_zero, List.flatten_cons, List.flatten_nil, List.append_nil]
        · have e : i.cps.toList = [] := List.length_eq_zero_iff.mp (eq_of_beq b)
          have e2 : i = ⟨i.cps.toList.toArray⟩ := rfl
          unfold repS
          rw [e2, e]
          simp
    · have e : (⟨(List.replicate n.toNat i.cps).foldl (· ++ ·) #[]⟩ : Str) = repS i n.toNat := by
        rw [foldl_arr]
        simp [repS]
      rw [e]
      refine ⟨?_, ans _ rfl _ _⟩
      show (repS i n.toNat).length ≤ _
      have l : (repS i n.toNat).length = n.toNat * i.length := by
        unfold repS
        show (List.replicate n.toNat i.cps.toList).flatten.toArray.size = _
        simp
        rfl
      rw [l, sizeLine_eq, Nat.mul_comm]
      omega
/-- a union of what compares numbers and texts -/
def rLeV : R2 := fun x y H Q => rLeI x y H Q ∨ rLeS x y H Q
def rGtV : R2 := fun x y H Q => rGtI x y H Q ∨ rGtS x y H Q
def rGeV : R2 := fun x y H Q => rGeI x y H Q ∨ rGeS x y H Q
def rMulV : R2 := fun x y H Q => rMulU x y H Q ∨ rMulS x y H Q
theorem op_leV : OpR X (compareOp .LtE) rLeV := orR op_leU op_le_str
theorem op_gtV : OpR X (compareOp .Gt) rGtV := orR op_gtU op_gt_str
theorem op_geV : OpR X (compareOp .GtE) rGeV := orR op_geU op_ge_str
theorem op_mulV : OpR X (binaryOp .Mult) rMulV := orR op_mulU op_mulS
def rSindex : V → List V → Hp → VK → Prop := fun x xs H Q => ∃ (a b : Str) (i : Nat) (rest : List Nat), x = .str a ∧ xs = [.str b] ∧ Builtin.Str.occurrences a b 0 a.length 1 = i :: rest ∧ Q (.int (i : Nat)) H
theorem mt_sindexU : MtR X "str.index" rSindex := mt_sindex
/-! ### isinstance(e, y) -/
def tIsE (K : PySem.W.Frag) (a : Addr) (cls : Value) (d : Option Addr) (y : Str) (te : TE) : TE := fun σ H Q => ∀ C0, Pd.clA K y C0 → te σ H fun x H1 => V.ref C0 = V.ref C0 ∧ x = .ref a ∧ ∃ C dd fs b, cls = .ref C ∧ d = some dd ∧ H1 dd = some (.xd fs) ∧ ExcC K C ∧
  PySem.W.kitOne K (.ref C) (.ref C0) = some b ∧ Q (.bl b) H1
theorem pe_isE {y : Str} {a : Addr} {oe : Obj} {cls : Value} {d : Option Addr} {pn : List (Addr × Obj)} {e : Expr} {te : TE} {p py pos : Pos} (hz : Zc cls d oe) (hf : ∃ vs, oe.data = .fields vs) (T : Pd.IsErr X.prog X.K X.mg y) (hm : X.mg "isinstance" = none) (he : PE (X.suite a ((a, oe) :: pn)) e te)
    (hg : Gl X "isinstance" := by rfl) (hgy : Gl X y := by rfl) (hdb : (y == ("__debug__" : Str)) = false := by decide)
    (hst : starEach [e, .Name y py] X.env = (false, eval e X.env) :: starEach [.Name y py] X.env := by rfl) (hst2 : starEach [.Name y py] X.env = (false, eval (.Name y py) X.env) :: starEach [] X.env := by rfl) (hpl : (backTo pos (starEach [.Name y py] X.env)).any (·.1) = false := by rfl) :
    PE (X.suite a ((a, oe) :: pn)) (.Call (.Name "isinstance" p) [e, .Name y py] [] pos) (tIsE X.K a cls d y te) := by
  obtain ⟨C0, hC0, E0⟩ := T
  have hgl : PE (X.suite a ((a, oe) :: pn)) (.Name y py) (tC (.ref C0)) := pe_glob (X := X.suite a ((a, oe) :: pn)) hgy E0.gC rfl hdb
  refine ⟨fun pins s σ H Q I h => ?_⟩
  refine wpAny_Call_Name_kw (ld_blt (X := X.suite a ((a, oe) :: pn)) I hg hm (show bootBuiltins "isinstance" = some (.builtin "isinstance") by decide +kernel) ?_ (by decide) (by decide))
  have ha : PA (X.suite a ((a, oe) :: pn)) [e, .Name y py] (tCons te (tCons (tC (.ref C0)) tNil)) := pa_cons he (pa_cons hgl pa_nil (hs := hst2)) (hs := hst)
  let Q' : List V → Hp → Prop := fun vs H1 => match vs with
    | [x, c] => c = V.ref C0 ∧ x = .ref a ∧ ∃ C dd fs b, cls = .ref C ∧ d = some dd ∧ H1 dd = some (.xd fs) ∧ ExcC X.K C ∧ PySem.W.kitOne X.K (.ref C) (.ref C0) = some b ∧ Q (.bl b) H1
    | _ => False
  exact PyProof.Rows.callWith_builtin1 (thn (ha.run pos pins s σ H Q' I (h C0 hC0)) fun us s1 ⟨vs, H1, I1, r1, q1⟩ => by
    match vs, q1, r1 with
    | [x, c], ⟨ec, ex, C, dd, fs, b, ecl, ed, hdd, TE, hk, q⟩, r1 =>
      subst ec ex ecl ed
      cases r1 with
      | cons rx rr =>
        cases rr with
        | cons ry rr =>
          cases rr
          cases rx
          cases ry
          obtain ⟨hget, _⟩ := I1.pin (a, oe) (List.mem_append.mpr (.inl List.mem_cons_self))
          obtain ⟨vs, hv⟩ := hf
          obtain ⟨mA, hns, hr⟩ : ObjOk X.prog X.w H1 s1.heap dd (.xd fs) := I1.hok dd _ hdd
          obtain ⟨ob, hob, _⟩ := lookIn_ns hns
          have J : PySem.W.InstAt s1.heap a oe C (some ob) := ⟨hget, hz.1, by unfold PySem.W.notCls; rw [hv] <;> rfl, by rw [hz.2]; exact hob⟩
          exact PySem.W.kia_one (PySem.OwnErr.kitx_err TE) I1.kIn J hk (fun z => nomatch z) fun tk => ⟨.bl b, H1, I1.kept (t' := tk) fun _ _ z => z, rfl, q⟩) hst hpl
end L2
namespace Pd
open PySem PySem.Spec L2
open Evl (Ex)
open PyProof.Rows
section
variable {K : PySem.W.Frag} {Γ : G} {μ : Mu} {R : W → Mu → Prop}
/-- isinstance asks the errors that the text calls x rightly -/
def ErrI (K : PySem.W.Frag) (x : Str) : Prop := ∀ C, clA K x C → ExcC K C
/-- an error that the text calls x is one of the class y -/
def IsOf (K : PySem.W.Frag) (x y : Str) (b : Bool) : Prop := ∀ a c, clA K x a → clA K y c → PySem.W.kitOne K (.ref a) (.ref c) = some b
theorem ax_isE {a C d : Addr} {x y : Str} {k i : Nat} {w : W} {b : Bool} (hx : ErrI K x) (hy : IsOf K x y b) (hC : clA K x C) (hi : Γ[i]? = some (some (.k (.ref a)))) (hk : μ[k]? = some (some (.xd d w))) (q : R (.d (.bool b)) μ) :
    AX K (tIsE K a (.ref C) (some d) y (tVar i)) Γ μ R := fun A M σ H c Q q0 C0 hC0 =>
  ax_var (R := fun u μ1 => u = .k (.ref a) ∧ μ1 = μ) hi ⟨rfl, rfl⟩ A M σ H c _ fun M1 H1 v u μ1 mo1 e1 r1 ⟨eu, em⟩ => by
    subst eu em
    cases r1
    have hl : k < M1.length := by
      rw [mo1.len]
      exact (List.getElem?_eq_some_iff.mp hk).1
    obtain ⟨o, ho, ep, v, rfl, rv⟩ := mo1.ct k _ (.xd d w) (List.getElem?_eq_getElem hl) hk
    rw [ep] at ho
    exact ⟨rfl, rfl, C, d, _, b, rfl, rfl, ho, hx C hC, hy C C0 hC hC0, q0 M1 H1 _ _ μ1 mo1 e1 (.d (.bl b)) q⟩
theorem ao_leS {x y : Str} (k : R (.d (.bool (!decide (y.cps.toList < x.cps.toList)))) μ) : AO K rLeS (.d (.str x)) (.d (.str y)) μ R := fun A M H v u mo rv ru Q h => by
  rw [vr_str rv, vr_str ru]
  exact ⟨x, y, rfl, rfl, h M H _ _ μ mo Eff.refl (.d (.bl _)) k⟩
theorem ao_gtS {x y : Str} (k : R (.d (.bool (decide (y.cps.toList < x.cps.toList)))) μ) : AO K rGtS (.d (.str x)) (.d (.str y)) μ R := fun A M H v u mo rv ru Q h => by
  rw [vr_str rv, vr_str ru]
  exact ⟨x, y, rfl, rfl, h M H _ _ μ mo Eff.refl (.d (.bl _)) k⟩
theorem ao_geS {x y : Str} (k : R (.d (.bool (!decide (x.cps.toList < y.cps.toList)))) μ) : AO K rGeS (.d (.str x)) (.d (.str y)) μ R := fun A M H v u mo rv ru Q h => by
  rw [vr_str rv, vr_str ru]
  exact ⟨x, y, rfl, rfl, h M H _ _ μ mo Eff.refl (.d (.bl _)) k⟩
theorem ao_ltS {x y : Str} (k : R (.d (.bool (decide (x.cps.toList < y.cps.toList)))) μ) : AO K rLtS (.d (.str x)) (.d (.str y)) μ R := fun A M H v u mo rv ru Q h => by
  rw [vr_str rv, vr_str ru]
  exact ⟨x, y, rfl, rfl, h M H _ _ μ mo Eff.refl (.d (.bl _)) k⟩
theorem o_ltS {x y : Str} (k : R (.d (.bool (decide (x.cps.toList < y.cps.toList)))) μ) : AO K rLtU (.d (.str x)) (.d (.str y)) μ R := ao_r (ao_ltS k)
theorem o_leS {x y : Str} (k : R (.d (.bool (!decide (y.cps.toList < x.cps.toList)))) μ) : AO K rLeV (.d (.str x)) (.d (.str y)) μ R := ao_r (ao_leS k)
theorem o_gtS {x y : Str} (k : R (.d (.bool (decide (y.cps.toList < x.cps.toList)))) μ) : AO K rGtV (.d (.str x)) (.d (.str y)) μ R := ao_r (ao_gtS k)
theorem o_geS {x y : Str} (k : R (.d (.bool (!decide (x.cps.toList < y.cps.toList)))) μ) : AO K rGeV (.d (.str x)) (.d (.str y)) μ R := ao_r (ao_geS k)
theorem o_leV {i j : Int} (k : R (.d (.bool (decide (i ≤ j)))) μ) : AO K rLeV (.d (.int i)) (.d (.int j)) μ R := ao_l (o_leI k)
theorem o_gtV {i j : Int} (k : R (.d (.bool (decide (j < i)))) μ) : AO K rGtV (.d (.int i)) (.d (.int j)) μ R := ao_l (o_gtI k)
theorem o_geV {i j : Int} (k : R (.d (.bool (decide (j ≤ i)))) μ) : AO K rGeV (.d (.int i)) (.d (.int j)) μ R := ao_l (o_geI k)
theorem ao_mulS {x : Str} {n : Int} (h0 : 0 ≤ n) (h1 : n ≤ 1000) (hl : x.length ≤ 1000) (k : R (.d (.str (repS x n.toNat))) μ) : AO K rMulS (.d (.str x)) (.d (.int n)) μ R := fun A M H v u mo rv ru Q h => by
  rw [vr_str rv, vr_int ru]
  exact ⟨x, n, rfl, rfl, h0, h1, hl, h M H _ _ μ mo Eff.refl (.d (.str _)) k⟩
theorem o_mulS {x : Str} {n : Int} (h0 : 0 ≤ n) (h1 : n ≤ 1000) (hl : x.length ≤ 1000) (k : R (.d (.str (repS x n.toNat))) μ) : AO K rMulV (.d (.str x)) (.d (.int n)) μ R := ao_r (ao_mulS h0 h1 hl k)
theorem o_mulV {i j : Int} (hc : CMul i j) (k : R (.d (.int (i * j))) μ) : AO K rMulV (.d (.int i)) (.d (.int j)) μ R := ao_l (o_mulI hc k)
theorem ao_inS {x y : Str} {neg : Bool} (k : R (.d (.bool (if neg then !(!(Builtin.Str.occurrences y x 0 y.length 1).isEmpty) else !(Builtin.Str.occurrences y x 0 y.length 1).isEmpty))) μ) : AO K (rInS neg) (.d (.str x)) (.d (.str y)) μ R := fun A M H v u mo rv ru Q h => by
  rw [vr_str rv, vr_str ru]
  exact ⟨x, y, rfl, rfl, h M H _ _ μ mo Eff.refl (.d (.bl _)) k⟩
theorem o_inS {x y : Str} {neg : Bool} (k : R (.d (.bool (if neg then !(!(Builtin.Str.occurrences y x 0 y.length 1).isEmpty) else !(Builtin.Str.occurrences y x 0 y.length 1).isEmpty))) μ) : AO K (rInU K neg) (.d (.str x)) (.d (.str y)) μ R := ao_r (ao_inS k)
theorem am_sindex {x y : Str} {i : Nat} {rest : List Nat} (h : Builtin.Str.occurrences x y 0 x.length 1 = i :: rest) (k : R (.d (.int i)) μ) : AM K rSindex (.d (.str x)) [.d (.str y)] μ R := fun A M H v vs mo rv rs Q q => by
  rw [vr_str rv]
  cases rs with
  | cons ry rn =>
    cases rn
    rw [vr_str ry]
    exact ⟨x, y, i, rest, rfl, rfl, h, q M H _ _ μ mo Eff.refl (.d (.int _)) k⟩
end
theorem kit_ref {K : PySem.W.Frag} {C D : Addr} {b : Bool} (h2 : PySem.W.hasDictIn K D = true) (h3 : PySem.W.typeIn K (.ref D) = some (.type "type")) (h4 : PySem.W.subIn K (.ref C) (.ref D) = some b) (hb : C = D → b = true) : PySem.W.kitOne K (.ref C) (.ref D) = some b := by
  obtain ⟨cd, hc, _⟩ := PySem.W.any_some h2
  unfold PySem.W.kitOne
  by_cases e : C = D
  · rw [if_pos (by rw [e]; exact beq_self_eq_true _), hb e]
  · rw [if_neg (by simpa using e)]
    have z : ((PySem.W.clsIn K D).isSome && PySem.W.typeIn K (.ref D) == some (.type "type")) = true := by rw [hc, h3] <;> rfl
    show (if ((PySem.W.clsIn K D).isSome && PySem.W.typeIn K (.ref D) == some (.type "type")) = true
      then PySem.W.subIn K (.ref C) (.ref D) else none) = some b
    rw [if_pos z]
    exact h4
end Pd

/-! Pd15: errors that outlive their clause. -/
namespace L2
open PySem PySem.Spec PyProof.Rows
theorem Inv.track {X : Cx} {pins : List (Addr × Obj)} {σ : St} {H : Hp} {s : Shared} {a C d : Addr} (I : Inv X pins σ H s) (ho : ∃ oe vs, s.heap.get? a = some oe ∧ oe.cls = .ref C ∧ oe.dict = some d ∧ oe.data = .fields vs) (na : H a = none) (nL : a ≠ X.env.locals) (nF : a ∉ X.fs)
    (noS : ∀ o, X.s_0.heap.get? a = some o → X.H_0 a = none → a ∉ X.ex → False) (noP : ∀ p ∈ X.pn ++ pins, p.1 ≠ a) : Inv X pins σ (upd H a (Pd.exk a C d)) s := by
  obtain ⟨ok, os, bare, base, loc, cell, free, freeC, pin, hok, len⟩ := I
  have old : ∀ {b : Addr} {u : HO}, H b = some u → upd H a (Pd.exk a C d) b = some u := fun {b u} q => by rw [upd_ne (ne_of_none q na)]; exact q
  have nC : ∀ x c, X.env.cells.lookup x = some c → c ≠ a := fun x c h e => by
    obtain ⟨v, hv⟩ := cell x c h
    obtain ⟨oe, vs, h1, _, _, h4⟩ := ho
    subst e
    obtain ⟨oc, hc1, hc2⟩ := hv
    rw [h1] at hc1
    cases hc1
    rw [h4] at hc2
    cases hc2
  refine ⟨ok, os, bare, ⟨base.keep, base.slot, fun b o h1 h2 h3 => ?_, base.there, fun b xs h => old (base.tups b xs h), fun b o u h => old (base.frzs b o u h), fun b ps h => ?_⟩, loc, cell, ?_, fun x c h => ?_, fun p hp => ?_, fun b u e => ?_, len⟩
  · by_cases e : b = a
    · subst e
      exact (noS o h1 h2 h3).elim
    · rw [upd_ne e]
      exact base.free b o h1 h2 h3
  · obtain ⟨more, e⟩ := base.tbls b ps h
    exact ⟨more, old e⟩
  · rw [upd_ne (Ne.symm nL)]
    exact free
  · rw [upd_ne (nC x c h)]
    exact freeC x c h
  · obtain ⟨q1, q2, q3⟩ := pin p hp
    exact ⟨q1, by rw [upd_ne (noP p hp)]; exact q2, q3⟩
  · by_cases hb : b = a
    · subst hb
      rw [upd_same] at e
      cases e
      refine ⟨ho, ?_, fun h1 h2 ⟨oe, vs, a1, a2, a3, a4⟩ k => ⟨oe, vs, k _ a1, a2, a3, a4⟩⟩
      obtain ⟨oe, _, h1, _⟩ := ho
      exact ⟨oe, h1⟩
    · rw [upd_ne hb] at e
      exact (hok b u e).stay (fun c v _ q => q) (fun c q => old q) fun c xs q => old q
def Cl.endsK (h : Cl) (a : Addr) (cls : Value) (d : Option Addr) (D : Ends) : Ends := match h.i with
  | none => D
  | some i => { nx := fun σ H => ∃ C dd, cls = .ref C ∧ d = some dd ∧ (H a = none → D.nx (σ.set i none) (upd H a (Pd.exk a C dd))), rt := D.rt, bk := fun σ H => D.bk (σ.set i none) H, ct := fun σ H => D.ct (σ.set i none) H }
/-- what the clauses wish of an error of the body; it is kept -/
def wClsK (K : PySem.W.Frag) (out : WX) (D : Ends) : List Cl → WX
  | [] => out
  | h :: r => fun cls d σ H => ∃ b, PySem.W.exmOne K cls h.c = some b ∧ (b = true → ∀ a, H a = none → h.ts a cls d (h.endsK a cls d D) (h.st a σ) H) ∧ (b = false → wClsK K out D r cls d σ H)
section
variable {X : Cx} {body : List Stmt} {h₀ : ExceptHandler} {hds : List ExceptHandler} {l : List Cl} {pos : Pos} {tb : WX → TS} {out : WX}
theorem ps_tryK (hs : X.stack = X.env :: X.outer) (hf : X.env.frame = some X.env.locals) (tk : Takes X out)
    (hb : ∀ (W : WX) (pn : List (Addr × Obj)) (xe : Value → Shared → Prop), Takes (X.tr pn xe) W → PassesOwn (model X.prog X.w) X.A X.env xe → PSs (X.tr pn xe) body (tb W))
    (hh : ClsOk X (h₀ :: hds) l) : PS X (.Try body (h₀ :: hds) [] [] pos) (fun D σ H => tb (wClsK X.K out D l) D σ H) := by
  refine ⟨fun pins s σ H D I h => ?_⟩
  have ok := I.ok
  have afr : X.A.frames = some (X.env :: X.outer) := ok.frames.trans (by rw [hs])
  refine wpAny_Try_except (wpAny_mono ((hb (wClsK X.K out D l) (X.pn ++ pins) (fun e s₁ => wpAny (model X.prog X.w) X.A (noteFrame e X.env)
    (fun _ s₂ => wpAny (model X.prog X.w) X.A (setFlight e none) (fun _ s₃ => wpAny (model X.prog X.w) X.A (handleBy e X.env (h₀ :: hds)) (SP X pins D) X.xe s₃) X.xe s₂) X.xe s₁) (fun u s' xx => ?_) PassesOwn.looking).run [] s σ H D (I.toTry _) h)
    (fun f s1 hsp => ?_) (fun e s1 he => he))
  · obtain ⟨a, B, sI, pins', σ', H', cls, d, rfl, J', nb, up, sky, na, os, ag, w⟩ := xx
    have J : Inv X pins σ' H' sI := J'.ofTry ok
    rw [show (X.tr (X.pn ++ pins) _).stack = X.env :: X.outer from hs] at sky
    refine (Sky.land Zc.steady afr hf sky fun h3 fl3 up3 => ?_ : wpAny (model X.prog X.w) X.A (noteFrame (.ref a) X.env) _ _ _)
    have J3 : Inv X pins σ' H' { s' with heap := h3 } := J.landed nb fl3.1 (up.trans up3) os ag
    obtain ⟨oe3, vs3, he3, hz3, hd3⟩ := fl3.there
    have nfr : a ∉ frs (X.env :: X.outer) := fun hm => by
      obtain ⟨_, o', e', hnf⟩ := fl3.2.2.1.mem hm
      rw [he3] at e'
      cases e'
      exact hnf _ hd3
    have nL : a ≠ X.env.locals := fun z => nfr (List.mem_filterMap.mpr ⟨X.env, .head _, by rw [hf, z]⟩)
    have nF : a ∉ X.fs := fun hm => by
      obtain ⟨e, he, q⟩ := List.mem_filterMap.mp hm
      exact nfr (List.mem_filterMap.mpr ⟨e, .tail _ he, q⟩)
    have S3 := J3.suite he3 hd3 na nL nF
    have hBa : B.get? a = none := fl3.2.1
    have hIa : sI.heap.get? a = none := by
      cases z : sI.heap.get? a with
      | none => rfl
      | some o =>
        have nfr' : a ∉ frs X.stack := by rw [hs]; exact nfr
        have z2 := nb a o z nfr'
        rw [hBa] at z2
        cases z2
    have noP : ∀ p ∈ X.pn ++ pins, p.1 ≠ a := fun p hp e => by
      have z := (J.pin p hp).1
      rw [e, hIa] at z
      cases z
    have noS : ∀ o, X.s_0.heap.get? a = some o → X.H_0 a = none → a ∉ X.ex → False := fun o h1 h2 h3 => by
      have z := J.base.keep a o h1 h2 nF h3
      rw [hIa] at z
      cases z
    have tyE : PySem.W.Looks (model X.prog X.w) h3 (typeOf (.ref a)) cls := fun A Q E s k q => wpAny_typeOf_ref (k _ _ he3) (by rw [hz3.1]; exact q)
    have asked : ∀ {x : Str} {np : Pos} {c : Value} {Q : Value → Shared → Prop} {E : Value → Shared → Prop}, Names X x c → Q c { s' with heap := h3 } → wpAny (model X.prog X.w) (X.A.mark (some (.ref a))) (eval (.Name x np) X.env) Q E { s' with heap := h3 } := by
      intro x np c Q E hc q
      obtain ⟨hg, hdbg, hm | ⟨hm, hv, hnn⟩⟩ := hc
      · exact ld_glob (X := X.suite a ((a, oe3) :: (X.pn ++ pins))) S3 hg hm q hdbg
      · exact ld_blt (X := X.suite a ((a, oe3) :: (X.pn ++ pins))) S3 hg hm hv q hnn hdbg
    have land4 : ∀ h4, HandSPX.FlyingZ B (X.env :: X.outer) a (Zc cls d) h4 → Heap.UpToSlots h3 h4 → ∃ oe4, (∃ vs, oe4.data = .fields vs) ∧ Zc cls d oe4 ∧ Inv (X.suite a ((a, oe4) :: (X.pn ++ pins))) [] σ' H' { s' with heap := h4 } := fun h4 fl4 up4 => by
      obtain ⟨oe4, vs4, he4, hz4, hd4⟩ := fl4.there
      exact ⟨oe4, ⟨_, hd4⟩, hz4, (J.landed nb fl4.1 ((up.trans up3).trans up4) os ag : Inv X pins σ' H' { s' with heap := h4 }).suite he4 hd4 na nL nF⟩
    have go : ∀ {hds' : List ExceptHandler} {l' : List Cl}, ClsOk X hds' l' → wClsK X.K out D l' cls d σ' H' → wpAny (model X.prog X.w) X.A (handleBy (.ref a) X.env hds') (SP X pins D) X.xe { s' with heap := h3 } := by
      intro hds' l' hk
      induction hk with
      | nil =>
        intro w
        refine wpAny_handleBy_nil ?_
        obtain ⟨_, _, _, oe, vs, T, _, _, he, _, hd, h1, _⟩ := id fl3
        have thrown : wpAny (model X.prog X.w) X.A (setFlight (.ref a) X.env.frame) (fun _ s4 => wpAny (model X.prog X.w) X.A (throw (.ref a) : Sem Flow) (SP X pins D) X.xe s4) X.xe { s' with heap := h3 } := by
          rw [hf]
          exact HandSPX.setFlight_upZ fl3 fun h4 hh4 up4 => wpAny_throw (tk _ _ ⟨a, B, sI, pins, σ', H', cls, d, rfl, J, nb, (up.trans up3).trans up4, .inr (.inr (by rw [hs]; exact hh4)), na, os, ag, w⟩)
        unfold PySem.passOn
        refine wpAny_bind (wpAny_field he hd h1 ?_)
        rw [if_neg (show ¬ ((Value.ref T == Value.none) = true) by simp)]
        first
          | exact wpAny_bind (wpAny_pure (wpAny_bind thrown))
          | exact wpAny_bind thrown
      | @anon x c ts b₀ suite np pos' hds2 l2 hc hsu r ih =>
        intro ⟨b, hb1, hyes, hno⟩
        refine wpAny_handleBy_cons (codeAny_handlers_test (asked hc ((PySem.W.exm_one (M := model X.prog X.w) J3.kIn tyE hb1).here ?_))) (by intro q; cases q)
        cases b with
        | false => exact (ih (hno rfl) : wpAny _ X.A (handleBy (.ref a) X.env hds2) _ _ _)
        | true =>
          refine codeAny_handlers_suite (HandSPX.lands_againZ fl3 fun h4 fl4 up4 => ?_)
          obtain ⟨oe4, hd4, hz4, S4⟩ := land4 h4 fl4 up4
          refine wpAny_mono ((hsu a oe4 cls d (X.pn ++ pins) hz4 hd4).run [] _ _ H' _ S4 (hyes rfl a na)) (fun f s6 hsp => ?_) (fun _ _ z => z.elim)
          match f, hsp with
          | .next, ⟨_, _, S6, q6⟩ => exact ⟨_, _, S6.unsuite ok, q6⟩
          | .brk, ⟨_, _, S6, q6⟩ => exact ⟨_, _, S6.unsuite ok, q6⟩
          | .cont, ⟨_, _, S6, q6⟩ => exact ⟨_, _, S6.unsuite ok, q6⟩
          | .ret u, ⟨_, _, _, S6, r6, q6⟩ => exact ⟨_, _, _, S6.unsuite ok, r6, q6⟩
      | @named x n i c ts b₀ suite np pos' hds2 l2 hc hN hi hln hsu r ih =>
        intro ⟨b, hb1, hyes, hno⟩
        refine wpAny_handleBy_cons (codeAny_handlers_test (asked hc ((PySem.W.exm_one (M := model X.prog X.w) J3.kIn tyE hb1).here ?_))) (by intro q; cases q)
        cases b with
        | false => exact (ih (hno rfl) : wpAny _ X.A (handleBy (.ref a) X.env hds2) _ _ _)
        | true =>
          refine codeAny_handlers_suite_as (HandSPX.lands_againZ fl3 fun h4 fl4 up4 => ?_)
          obtain ⟨oe4, hd4, hz4, S4⟩ := land4 h4 fl4 up4
          refine store_ok (X := X.suite a ((a, oe4) :: (X.pn ++ pins))) (v := .ref a) S4 hN hi (.inl hln) rfl (fun s5 S5 => ?_) (.inr hln)
          refine wpAny_mono ((hsu a oe4 cls d (X.pn ++ pins) hz4 hd4).run [] s5 _ H' _ S5 (hyes rfl a na)) (fun f s6 hsp => ?_) (fun _ _ z => z.elim)
          have goes : ∀ {σ6 : St} {H6 : Hp} {Q : Shared → Prop}, Inv (X.suite a ((a, oe4) :: (X.pn ++ pins))) [] σ6 H6 s6 → (∀ s7, Inv X pins (σ6.set i none) H6 s7 → Q s7) →
              wpAny (model X.prog X.w) X.A (do bindName X.env n .none; unbindBehindTheSuite X.env n pos') (fun _ s7 => Q s7) X.xe s6 := fun {σ6 H6 Q} S6 hq => gone_ok (S6.unsuite ok) hN hi hln hq
          have goesK : ∀ {σ6 : St} {H6 : Hp} {Q : Shared → Prop}, Inv (X.suite a ((a, oe4) :: (X.pn ++ pins))) [] σ6 H6 s6 → (H6 a = none → ∀ C dd, cls = .ref C → d = some dd → ∀ s7, Inv X pins (σ6.set i none) (upd H6 a (Pd.exk a C dd)) s7 → Q s7) → (∀ C dd, cls = .ref C → d = some dd → True) → (∃ C dd, cls = .ref C ∧ d = some dd) →
              wpAny (model X.prog X.w) X.A (do bindName X.env n .none; unbindBehindTheSuite X.env n pos') (fun _ s7 => Q s7) X.xe s6 := fun {σ6 H6 Q} S6 hq _ ⟨C, dd, ec, ed⟩ =>
            gone_ok (X := X.suite a ((a, oe4) :: (X.pn ++ pins))) (pins := []) S6 hN hi hln fun s7 S7 => by
              obtain ⟨g1, g2, g3, g4, g5⟩ := S7.pin (a, oe4) (List.mem_append_left _ (.head _))
              obtain ⟨ve, hve⟩ := hd4
              exact hq g2 C dd ec ed s7 ((S7.unsuite ok).track ⟨oe4, ve, g1, hz4.1.trans ec, hz4.2.trans ed, hve⟩ g2 g3 g4 noS noP)
          match f, hsp with
          | .next, ⟨σ6, H6, S6, C, dd, ec, ed, q6⟩ => exact goesK S6 (fun hn C' dd' ec' ed' s7 J7 => ⟨_, _, J7, by have z1 := ec.symm.trans ec'; have z2 := ed.symm.trans ed'; cases z1; cases z2; exact q6 hn⟩) (fun _ _ _ _ => trivial) ⟨C, dd, ec, ed⟩
          | .brk, ⟨_, _, S6, q6⟩ => exact goes S6 fun s7 J7 => ⟨_, _, J7, q6⟩
          | .cont, ⟨_, _, S6, q6⟩ => exact goes S6 fun s7 J7 => ⟨_, _, J7, q6⟩
          | .ret u, ⟨_, _, _, S6, r6, q6⟩ => exact goes S6 fun s7 J7 => ⟨_, _, _, J7, r6, q6⟩
    exact go hh w
  · match f, hsp with
    | .next, ⟨σ', H', J', q⟩ => exact wpAny_execs_nil ⟨σ', H', J'.ofTry ok, q⟩
    | .brk, ⟨σ', H', J', q⟩ => exact ⟨σ', H', J'.ofTry ok, q⟩
    | .cont, ⟨σ', H', J', q⟩ => exact ⟨σ', H', J'.ofTry ok, q⟩
    | .ret u, ⟨v, σ', H', J', r, q⟩ => exact ⟨v, σ', H', J'.ofTry ok, r, q⟩
end
end L2
namespace L2
open PySem PySem.Spec PyProof.Rows
variable {X : Cx}
theorem exk_at {P : Program} {w : World} {H : Hp} {h : Heap} {a C d : Addr} (hok : HOk P w H h) (e : H a = some (Pd.exk a C d)) : ∃ oe vs, h.get? a = some oe ∧ oe.cls = .ref C ∧ oe.dict = some d ∧ oe.data = .fields vs := by
  obtain ⟨q, _⟩ : ObjOk P w H h a (Pd.exk a C d) := hok a _ e
  exact q
/-- x.value, x an error that was kept -/
def tXvK (K : PySem.W.Frag) (te : TE) : TE := fun σ H Q => te σ H fun x H1 => ∃ a C dd v, x = .ref a ∧ H1 a = some (Pd.exk a C dd) ∧ XfC K C ∧ PySem.W.findIn K (.ref C) "value" = some none ∧ H1 dd = some (.xd [(("value" : PySem.Str), v)]) ∧ Q v H1
theorem pe_xvK {e : Expr} {te : TE} {pos : Pos} (he : PE X e te) (hb : attributeBase e "value" X.env (eval e X.env) = eval e X.env := by rfl) : PE X (.Attribute e "value" pos) (tXvK X.K te) := by
  refine ⟨fun pins s σ H Q I h => attr_of hb (thn (he.run pins s σ H _ I h) fun u s1 ⟨x, H1, I1, rx, a, C, dd, v, ex, ea0, T, hno, ea, q⟩ => ?_)⟩
  subst ex
  obtain rfl : u = Value.ref a := rx
  obtain ⟨oe, vs, h1, h2, h3, h4⟩ := exk_at I1.hok ea0
  obtain ⟨mA, hns, hr⟩ : ObjOk X.prog X.w H1 s1.heap dd (.xd [(("value" : PySem.Str), v)]) := I1.hok dd _ ea
  obtain ⟨od, ho, hl⟩ := lookIn_ns hns
  obtain ⟨u, hu, ru⟩ := RelO.some_of (v := v) (o := mA "value") (by have z := hr "value"; simpa [List.lookup] using z)
  have J : PySem.W.InstAt s1.heap a oe C (some od) := ⟨h1, h2, by unfold PySem.W.notCls; rw [h4] <;> rfl, by rw [h3]; exact ho⟩
  exact HandSPX.exc_get I1.kIn J T.ga T.gg T.exC (PySem.W.findObj_own T.hdC hno rfl (by rw [hl, hu])) (handed_of ru) ⟨v, H1, I1.tok _, ru, q⟩
/-- isinstance(x, y), x an error that was kept -/
def tIsK (K : PySem.W.Frag) (y : Str) (te : TE) : TE := fun σ H Q => ∀ C0, Pd.clA K y C0 → te σ H fun x H1 => V.ref C0 = V.ref C0 ∧ ∃ a C dd fs b, x = .ref a ∧ H1 a = some (Pd.exk a C dd) ∧ H1 dd = some (.xd fs) ∧ ExcC K C ∧ PySem.W.kitOne K (.ref C) (.ref C0) = some b ∧ Q (.bl b) H1
theorem pe_isK {y : Str} {e : Expr} {te : TE} {p py pos : Pos} (T : Pd.IsErr X.prog X.K X.mg y) (hm : X.mg "isinstance" = none) (he : PE X e te)
    (hg : Gl X "isinstance" := by rfl) (hgy : Gl X y := by rfl) (hdb : (y == ("__debug__" : Str)) = false := by decide)
    (hst : starEach [e, .Name y py] X.env = (false, eval e X.env) :: starEach [.Name y py] X.env := by rfl) (hst2 : starEach [.Name y py] X.env = (false, eval (.Name y py) X.env) :: starEach [] X.env := by rfl) (hpl : (backTo pos (starEach [.Name y py] X.env)).any (·.1) = false := by rfl) :
    PE X (.Call (.Name "isinstance" p) [e, .Name y py] [] pos) (tIsK X.K y te) := by
  obtain ⟨C0, hC0, E0⟩ := T
  have hgl : PE X (.Name y py) (tC (.ref C0)) := pe_glob hgy E0.gC rfl hdb
  refine ⟨fun pins s σ H Q I h => ?_⟩
  refine wpAny_Call_Name_kw (ld_blt I hg hm (show bootBuiltins "isinstance" = some (.builtin "isinstance") by decide +kernel) ?_ (by decide) (by decide))
  have ha : PA X [e, .Name y py] (tCons te (tCons (tC (.ref C0)) tNil)) := pa_cons he (pa_cons hgl pa_nil (hs := hst2)) (hs := hst)
  let Q' : List V → Hp → Prop := fun vs H1 => match vs with
    | [x, c] => c = V.ref C0 ∧ ∃ a C dd fs b, x = .ref a ∧ H1 a = some (Pd.exk a C dd) ∧ H1 dd = some (.xd fs) ∧ ExcC X.K C ∧ PySem.W.kitOne X.K (.ref C) (.ref C0) = some b ∧ Q (.bl b) H1
    | _ => False
  exact PyProof.Rows.callWith_builtin1 (thn (ha.run pos pins s σ H Q' I (h C0 hC0)) fun us s1 ⟨vs, H1, I1, r1, q1⟩ => by
    match vs, q1, r1 with
    | [x, c], ⟨ec, a, C, dd, fs, b, ex, ea0, hdd, TE, hk, q⟩, r1 =>
      subst ec ex
      cases r1 with
      | cons rx rr =>
        cases rr with
        | cons ry rr =>
          cases rr
          cases rx
          cases ry
          obtain ⟨oe, vs, h1, h2, h3, h4⟩ := exk_at I1.hok ea0
          obtain ⟨mA, hns, hr⟩ : ObjOk X.prog X.w H1 s1.heap dd (.xd fs) := I1.hok dd _ hdd
          obtain ⟨ob, hob, _⟩ := lookIn_ns hns
          have J : PySem.W.InstAt s1.heap a oe C (some ob) := ⟨h1, h2, by unfold PySem.W.notCls; rw [h4] <;> rfl, by rw [h3]; exact hob⟩
          exact PySem.W.kia_one (PySem.OwnErr.kitx_err TE) I1.kIn J hk (fun z => nomatch z) fun tk => ⟨.bl b, H1, I1.kept (t' := tk) fun _ _ z => z, rfl, q⟩) hst hpl
end L2
namespace L2
open PySem PySem.Spec PyProof.Rows
def rRstrip : V → List V → Hp → VK → Prop := fun x xs H Q => ∃ a b, x = .str a ∧ xs = [.str b] ∧ a.length ≤ sizeLine ∧ Q (.str (Txt.rstripChars a b)) H
theorem mt_rstripU {X : Cx} : MtR X "str.rstrip" rRstrip := mt_rstripChars
end L2
namespace Pd
open PySem PySem.Spec L2
open Evl (Ex)
open PyProof.Rows
theorem am_rstrip {K : PySem.W.Frag} {μ : Mu} {R : W → Mu → Prop} {x y : Str} (h : x.length ≤ sizeLine) (k : R (.d (.str (Txt.rstripChars x y))) μ) : AM K rRstrip (.d (.str x)) [.d (.str y)] μ R := fun A M H v vs mo rv rs Q q => by
  rw [vr_str rv]
  cases rs with
  | cons ry rn =>
    cases rn
    rw [vr_str ry]
    exact ⟨x, y, rfl, rfl, h, q M H _ _ μ mo Eff.refl (.d (.str _)) k⟩
def tTryK (K : PySem.W.Frag) (hs : List Hn) (tb : L2.WX → TS) (out : L2.WX) : TS := fun D σ H => ∀ l, CsOk K hs l → tb (wClsK K out D l) D σ H
theorem ps_tryNK {X : Cx} {body : List Stmt} {h₀ : ExceptHandler} {hds : List ExceptHandler} {hs : List Hn} {pos : Pos} {tb : WX → TS} {out : WX} (tk : Takes X out)
    (hb : ∀ (xw : WX) (pn : List (Addr × Obj)) (xe : Value → Shared → Prop), Takes (X.tr pn xe) xw → PassesOwn (model X.prog X.w) X.A X.env xe → PSs (X.tr pn xe) body (tb xw))
    (hh : HsOk X (h₀ :: hds) hs) (hst : X.stack = X.env :: X.outer := by rfl) (hf : X.env.frame = some X.env.locals := by rfl) : PS X (.Try body (h₀ :: hds) [] [] pos) (tTryK X.K hs tb out) := by
  obtain ⟨l, h1, h2⟩ := hh
  exact ⟨fun pins s σ H D I h => (ps_tryK hst hf tk hb h1).run pins s σ H D I (h l h2)⟩
section
variable {K : PySem.W.Frag}
/-- the end of a suite whose error is kept in the slot j -/
def keepE (i j : Nat) (a d : Addr) (x : Str) (D : AEn) : AEn := { D with nx := fun g m => g[j]? = some (some (.k (.ref a))) ∧ i ≠ j ∧ D.nx ((g.set i none).set j (some (.m m.length))) (m ++ [some (.er x d)]), bk := fun _ _ => False, ct := fun _ _ => False }
/-- clauses, each with a name, whose error goes to the slot j -/
def hXk (K : PySem.W.Frag) (j : Nat) (D : AEn) : List Hn → Str → W → G → Mu → Prop
  | [] => D.xc
  | h :: r => fun x w Γ μ => ∃ b, SubIs K x h.x b ∧ (b = true → ∃ i, h.i = some i ∧ ∀ a C d, clA K x C → AS K (h.ts a (.ref C) (some d)) (keepE i j a d x D) (h.sl a Γ) (μ ++ [some (.xd d w)])) ∧ (b = false → hXk K j D r x w Γ μ)
theorem gr_reset {H : Hp} {M : List Addr} {σ : L2.St} {Γ : G} {j : Nat} {a : Addr} {k : Nat} (h : GR K H M σ Γ) (hj : Γ[j]? = some (some (.k (.ref a)))) (hk : M[k]? = some a) : GR K H M σ (Γ.set j (some (.m k))) := by
  refine ⟨by rw [List.length_set]; exact h.1, fun i w hw => ?_⟩
  rw [List.getElem?_set] at hw
  by_cases e : j = i
  · subst e
    rw [if_pos rfl] at hw
    split at hw
    · have ew : W.m k = w := by simpa using hw
      subst ew
      obtain ⟨v, h1, h2⟩ := h.2 j _ hj
      cases h2
      exact ⟨_, h1, .m hk⟩
    · cases hw
  · rw [if_neg e] at hw
    exact h.2 i w hw
theorem as_tryK {Γ : G} {μ : Mu} {D : AEn} {hs : List Hn} {tb : L2.WX → TS} (j : Nat) (h : ∀ xw : L2.WX, AS K (tb xw) { D with xw := xw, xc := hXk K j D hs } Γ μ) : AS K (tTryK K hs tb D.xw) D Γ μ := fun A M σ H cn E hE l hl => by
  refine h (wClsK K D.xw E l) A M σ H cn E ⟨hE.nx, hE.rt, hE.bk, hE.ct, fun M' σ' H' Γ' x a d w μ' hc c' e' hx => ?_⟩
  show wClsK K D.xw E l (.ref a) (some d) σ' H'
  have hx' : hXk K j D hs x w Γ' μ' := hx
  clear hx h
  induction hs generalizing l with
  | nil =>
    cases l with
    | nil => exact hE.xx M' σ' H' Γ' x a d w μ' hc c' e' hx'
    | cons _ _ => exact hl.elim
  | cons h r ih =>
    cases l with
    | nil => exact hl.elim
    | cons c s =>
      obtain ⟨⟨h1, h2, h3⟩, hr⟩ := hl
      obtain ⟨b, hb, hy, hn⟩ := hx'
      refine ⟨b, hb a c.c hc h1, fun e a0 _ => ?_, fun e => ih s hr (hn e)⟩
      obtain ⟨i0, hi0, q⟩ := hy e
      have q := q a0 a d hc
      obtain ⟨cc, ci, cts⟩ := c
      obtain ⟨hx0, hi, hts⟩ := h
      dsimp only at h2 h3 hi0
      subst h2 h3
      subst hi0
      have hd' : Hd K A (M' ++ [d]) (μ' ++ [some (.xd d w)]) H' D E := hE.after e'
      refine q A _ _ H' ⟨c'.mo, c'.gr.set (.k _)⟩ _ ⟨fun M4 σ4 H4 Γ4 μ4 c4 e4 ⟨hj, hij, h4⟩ => ?_, hd'.rt, fun M4 σ4 H4 Γ4 μ4 c4 e4 h4 => h4.elim, fun M4 σ4 H4 Γ4 μ4 c4 e4 h4 => h4.elim, hd'.xx⟩
      refine ⟨a, d, rfl, rfl, fun hn0 => ?_⟩
      have mo2 : MOk K A (M4 ++ [a0]) (upd H4 a0 (exk a0 a d)) (μ4 ++ [some (.er x d)]) := c4.mo.new (c := .er x d) hn0 ⟨a, hc, rfl⟩
      have e5 : Eff A M4 μ4 H4 (M4 ++ [a0]) (μ4 ++ [some (.er x d)]) (upd H4 a0 (exk a0 a d)) := Eff.new c4.mo hn0
      have g5 : GR K (vw A (M4 ++ [a0]) (μ4 ++ [some (.er x d)]) (upd H4 a0 (exk a0 a d))) (M4 ++ [a0]) (σ4.set i0 none) (Γ4.set i0 none) := (c4.gr.drop).mono e5.ex e5.pre
      refine hd'.nx (M4 ++ [a0]) _ _ _ (μ4 ++ [some (.er x d)]) ⟨mo2, gr_reset (a := a0) g5 ?_ ?_⟩ (e4.trans e5) h4
      · rw [List.getElem?_set, if_neg hij]
        exact hj
      · rw [← c4.mo.len, List.getElem?_append_right (Nat.le_refl _)]
        simp
variable {Γ : G} {μ : Mu} {R : W → Mu → Prop}
theorem hXk_yes {D : AEn} {x y : Str} {w : W} {i j : Nat} {ts : Addr → Value → Option Addr → TS} {r : List Hn} (h : SubIs K x y true) (q : ∀ a C d, clA K x C → AS K (ts a (.ref C) (some d)) (keepE i j a d x D) (Γ.set i (some (.k (.ref a)))) (μ ++ [some (.xd d w)])) : hXk K j D (⟨y, some i, ts⟩ :: r) x w Γ μ :=
  ⟨true, h, fun _ => ⟨i, rfl, fun a C d hc => q a C d hc⟩, fun z => by cases z⟩
theorem hXk_no {D : AEn} {x y : Str} {w : W} {j : Nat} {i : Option Nat} {ts : Addr → Value → Option Addr → TS} {r : List Hn} (h : SubIs K x y false) (q : hXk K j D r x w Γ μ) : hXk K j D (⟨y, i, ts⟩ :: r) x w Γ μ := ⟨false, h, fun z => absurd z (by decide), fun _ => q⟩
theorem er_get {A : Addr → Prop} {M : List Addr} {H : Hp} {v : V} {k k2 : Nat} {x : Str} {d : Addr} {w : W} (mo : MOk K A M H μ) (rv : VR K (vw A M μ H) M v (.m k)) (hk : μ[k]? = some (some (.er x d))) (hk2 : μ[k2]? = some (some (.xd d w))) :
    ∃ a C u, v = .ref a ∧ clA K x C ∧ H a = some (exk a C d) ∧ H d = some (.xd [(("value" : Str), u)]) ∧ VR K (vw A M μ H) M u w := by
  cases rv with
  | m hm =>
    obtain ⟨o, e, C, hC, rfl⟩ := mo.ct _ _ _ hm hk
    have hl : k2 < M.length := by
      rw [mo.len]
      exact (List.getElem?_eq_some_iff.mp hk2).1
    obtain ⟨o2, ho, ep, u, rfl, ru⟩ := mo.ct k2 _ (.xd d w) (List.getElem?_eq_getElem hl) hk2
    rw [ep] at ho
    exact ⟨_, C, u, rfl, hC, e, ho, ru⟩
theorem ax_xvK {i k k2 : Nat} {x : Str} {d : Addr} {w : W} (hx : ErrV K x) (hi : Γ[i]? = some (some (.m k))) (hk : μ[k]? = some (some (.er x d))) (hk2 : μ[k2]? = some (some (.xd d w))) (q : R w μ) : AX K (tXvK K (tVar i)) Γ μ R := fun A M σ H c Q q0 =>
  ax_var (R := fun u μ1 => u = .m k ∧ μ1 = μ) hi ⟨rfl, rfl⟩ A M σ H c _ fun M1 H1 v u μ1 mo1 e1 r1 ⟨eu, em⟩ => by
    subst eu em
    obtain ⟨a, C, u, rfl, hC, h1, h2, ru⟩ := er_get mo1 r1 hk hk2
    exact ⟨a, C, d, u, rfl, h1, (hx C hC).1, (hx C hC).2, h2, q0 M1 H1 _ w μ1 mo1 e1 ru q⟩
theorem ax_isK {i k k2 : Nat} {x y : Str} {d : Addr} {w : W} {b : Bool} (hx : ErrI K x) (hy : IsOf K x y b) (hi : Γ[i]? = some (some (.m k))) (hk : μ[k]? = some (some (.er x d))) (hk2 : μ[k2]? = some (some (.xd d w))) (q : R (.d (.bool b)) μ) : AX K (tIsK K y (tVar i)) Γ μ R := fun A M σ H c Q q0 C0 hC0 =>
  ax_var (R := fun u μ1 => u = .m k ∧ μ1 = μ) hi ⟨rfl, rfl⟩ A M σ H c _ fun M1 H1 v u μ1 mo1 e1 r1 ⟨eu, em⟩ => by
    subst eu em
    obtain ⟨a, C, u, rfl, hC, h1, h2, ru⟩ := er_get mo1 r1 hk hk2
    exact ⟨rfl, a, C, d, _, b, rfl, h1, h2, hx C hC, hy C C0 hC hC0, q0 M1 H1 _ _ μ1 mo1 e1 (.d (.bl b)) q⟩
end
end Pd

/-! Pd16: dicts as cells; sorted lists of ints. -/
namespace L2
open PySem PySem.Spec PyProof.Rows
def rDGet : V → V → Hp → VK → Prop := fun x y H Q => ∃ a v, x = .ref a ∧ DGet H a y (some v) ∧ Q v H
def rDIn : V → V → Hp → VK → Prop := fun y x H Q => ∃ a o, x = .ref a ∧ DGet H a y o ∧ Q (.bl o.isSome) H
def rDNotIn : V → V → Hp → VK → Prop := fun y x H Q => ∃ a o, x = .ref a ∧ DGet H a y o ∧ Q (.bl (!o.isSome)) H
section
variable {X : Cx} {o i e value : Expr} {pos pos' tpos : Pos} {td ty tv : TE}
theorem pe_dgetO (hu : X.A.units + 1 < cLine) (ho : PE X o td) (hi : PE X i ty) (hs : NoSl i) : PE X (.Subscript o i pos) (tOp rDGet td ty) := pe_dget hu ho hi hs
theorem pc_dinO (hu : X.A.units + 1 < cLine) (hi : PE X i ty) (ho : PE X o td) : PC X .In i o (tOp rDIn ty td) := pc_din hu hi ho
theorem u1 {n : Nat} (h : n + 64 < cLine) : n + 1 < cLine := by omega
theorem pe_dinC (hu : X.A.units + 1 < cLine) (hi : PE X i ty) (ho : PE X o td) (hb : behindInMarks .In o = false := by rfl) : PE X (.Compare i [.In] [o] pos) (tOp rDIn ty td) := pe_cmp (pc_din hu hi ho) hb
theorem pe_dnotinC (hu : X.A.units + 1 < cLine) (hi : PE X i ty) (ho : PE X o td) (hb : behindInMarks .NotIn o = false := by rfl) : PE X (.Compare i [.NotIn] [o] pos) (tOp rDNotIn ty td) := pe_cmp (pc_dnotin hu hi ho) hb
theorem pt_dinC (hu : X.A.units + 1 < cLine) (hi : PE X i ty) (ho : PE X o td) (hb : behindInMarks .In o = false := by rfl) : PT X (.Compare i [.In] [o] pos) (tTest (tOp rDIn ty td)) := pt_cmp (pc_din hu hi ho) hb
theorem pt_dnotinC (hu : X.A.units + 1 < cLine) (hi : PE X i ty) (ho : PE X o td) (hb : behindInMarks .NotIn o = false := by rfl) : PT X (.Compare i [.NotIn] [o] pos) (tTest (tOp rDNotIn ty td)) := pt_cmp (pc_dnotin hu hi ho) hb
theorem pc_dnotinO (hu : X.A.units + 1 < cLine) (hi : PE X i ty) (ho : PE X o td) : PC X .NotIn i o (tOp rDNotIn ty td) := pc_dnotin hu hi ho
end
section
variable {X : Cx}
theorem sw_trueD {kx vx : Expr} {gs : List Comprehension} {sc : Scope} {pos py : Pos} {y : Str} {n : Nat} {e : Env} (hk : e.scope.kind = .function) (hy : e.scope.names.lookup y = some .local) (hl : (py.line == pos.line) = true)
    (ha : (sc.names.any fun (n, k) => n == y && (k == .local || k == .cell)) = false) : swapsWith (.DictComp kx vx gs sc pos) (some (.Name y py)) n e = pure true := by
  have b : e.blockKind = .function := (by unfold Env.blockKind; rw [hk]; rfl)
  unfold swapsWith
  simp only [b, show e.kindOf y = some .local from hy, ha, Expr.pos, hl]
  rfl
/-- name = {k: v for ..} on one line, the name a local (as the kit's rule for lists) -/
theorem ps_setDc {i : Nat} {y : Str} {py : Pos} {kx vx tg it : Expr} {ifs : List Expr} {sc : Scope} {own : List (Str × Nat)} {pos sp : Pos} {wi : TI} {g : TG} {tt : TT} {tk tv : TE} (hc : X.calm = true) (hN : X.N.Nodup) (hy : X.N[i]? = some y) (hyl : X.env.scope.names.lookup y = some .local)
    (hw : swapsWith (.DictComp kx vx [⟨tg, it, ifs, 0⟩] sc pos) (some (.Name y py)) sp.line X.env = pure true) (hi : PI X tg it wi) (ok : BlkOk X.N X.env.scope sc own)
    (h1 : ∀ (s : Shared) (H : Hp) (C : Addr) (cl : List (Str × Addr)) (fp : List Addr), PG (X.blk s H sc (compEnvC sc cl C X.env) fp) tg g) (h2 : ∀ (s : Shared) (H : Hp) (C : Addr) (cl : List (Str × Addr)) (fp : List Addr), PTs (X.blk s H sc (compEnvC sc cl C X.env) fp) ifs tt)
    (h3 : ∀ (s : Shared) (H : Hp) (C : Addr) (cl : List (Str × Addr)) (fp : List Addr), PE (X.blk s H sc (compEnvC sc cl C X.env) fp) kx tk)
    (h4 : ∀ (s : Shared) (H : Hp) (C : Addr) (cl : List (Str × Addr)) (fp : List Addr), PE (X.blk s H sc (compEnvC sc cl C X.env) fp) vx tv) (hf : ∀ x, foldedSetIterable it X.env x = pure x := by intro _; rfl) :
    PS X (.Assign [.Name y py] (.DictComp kx vx [⟨tg, it, ifs, 0⟩] sc pos) sp) (tAsg (tDc wi g tt tk tv (own.map (·.2))) (gName i)) := ⟨fun pins s σ H D I (h : tDc wi g tt tk tv (own.map fun (z : Str × Nat) => z.2) σ H (fun x H1 => gName i x σ H1 D.nx)) => by
  rw [exec_Assign_Name_used _ _ _ _ hw]
  refine wpAny_bind (wpAny_standAt (wpAny_bind (?_ : wpAny _ X.A (do let _ ← comprehension (.DictComp kx vx [⟨tg, it, ifs, 0⟩] sc pos) sc X.env (firstIterPos [⟨tg, it, ifs, 0⟩] pos) newDict false (eval it X.env) (some (assign (.Name y py) X.env))) _ _ s)))
  refine wpAny_bind (thn (dc_core (Qf := fun _ s1 => SP X pins D .next s1) hc hN I hi ok h1 h2 h3 h4 hf h fun L C s1 m H1 I1 q hn f => (?_ : wpAny _ _ (assign (.Name y py) X.env (.ref L)) _ _ _)) fun _ _ hq => wpAny_pure (wpAny_pure hq))
  refine wpAny_assign_Name (store_ok2 (v := V.ref L) I1 hN hy (.inl hyl) rfl (fun s2 I2 ⟨a, sb, ha⟩ => ?_) (.inr hyl))
  obtain ⟨f0, f1, _, f3, f4, f5⟩ := f
  refine ⟨m, hn.sameBut sb (ha.elim (fun z => by rw [z]; exact f1) fun z e => f4 y a z e.symm), fun _ sb3 => ⟨_, H1, I2.turned (t' := s2.toks) (fun b o hb e => (sb3.2 b hb).trans e) f0 f1 f3 f4 f5, q⟩⟩⟩
end
end L2
namespace Pd
open PySem PySem.Spec L2
open Evl (Ex)
open PyProof.Rows
def getW (kvs : List (Key × W)) (k : Key) : Option W := (kvs.find? fun kv => decide (kv.1 = k)).map (·.2)
def putW (kvs : List (Key × W)) (k : Key) (v : W) : List (Key × W) :=
  if (kvs.any fun kv => decide (kv.1 = k)) = true then kvs.map (fun kv => if kv.1 = k then (kv.1, v) else kv) else kvs ++ [(k, v)]
def dropW (kvs : List (Key × W)) (k : Key) : List (Key × W) := kvs.filter fun kv => decide (kv.1 ≠ k)
def keyD : Key → PyData
  | .inl i => .int i
  | .inr x => .str x
section
variable {K : PySem.W.Frag} {Hv : Hp} {M : List Addr}
theorem vr_key {v : V} {k : Key} (h : VR K Hv M v (.d (keyD k))) : v = kV k := by
  cases k with
  | inl i => exact vr_int h
  | inr x => exact vr_str h
theorem key_vr (k : Key) : VR K Hv M (kV k) (.d (keyD k)) := by
  cases k with
  | inl i => exact .d (.int i)
  | inr x => exact .d (.str x)
theorem krs_len : ∀ {us : List (Key × V)} {kvs : List (Key × W)}, KRs K Hv M us kvs → us.length = kvs.length
  | [], [], _ => rfl
  | _ :: _, _ :: _, h => congrArg (· + 1) (krs_len h.2.2)
  | [], _ :: _, h => h.elim
  | _ :: _, [], h => h.elim
theorem krs_get (k : Key) : ∀ {us : List (Key × V)} {kvs : List (Key × W)}, KRs K Hv M us kvs → (getW kvs k = none → valV us k = none) ∧ ∀ w, getW kvs k = some w → ∃ v, valV us k = some v ∧ VR K Hv M v w
  | [], [], _ => ⟨fun _ => rfl, fun w h => by cases h⟩
  | (k1, u) :: us, (k2, w) :: kvs, h => by
    obtain ⟨e, r, h⟩ := h
    have ih := krs_get k h
    have e' : k1 = k2 := e
    subst e'
    by_cases q : k1 = k
    · have e1 : getW ((k1, w) :: kvs) k = some w := by simp [getW, List.find?_cons, q]
      rw [e1, valV_pos q]
      exact ⟨fun z => (by cases z), fun w' z => (by cases z; exact ⟨_, rfl, r⟩)⟩
    · have e1 : getW ((k1, w) :: kvs) k = getW kvs k := by simp [getW, List.find?_cons, q]
      rw [e1, valV_neg q]
      exact ih
  | [], _ :: _, h => h.elim
  | _ :: _, [], h => h.elim
theorem krs_any (k : Key) : ∀ {us : List (Key × V)} {kvs : List (Key × W)}, KRs K Hv M us kvs → (us.any fun kv => decide (kv.1 = k)) = (kvs.any fun kv => decide (kv.1 = k))
  | [], [], _ => rfl
  | (k1, u) :: us, (k2, w) :: kvs, h => by
    have e' : k1 = k2 := h.1
    subst e'
    rw [List.any_cons, List.any_cons, krs_any k h.2.2]
  | [], _ :: _, h => h.elim
  | _ :: _, [], h => h.elim
theorem krs_map {k : Key} {v : V} {w : W} (r : VR K Hv M v w) : ∀ {us : List (Key × V)} {kvs : List (Key × W)}, KRs K Hv M us kvs → KRs K Hv M (us.map fun kv => if kv.1 = k then (kv.1, v) else kv) (kvs.map fun kv => if kv.1 = k then (kv.1, w) else kv)
  | [], [], _ => trivial
  | (k1, u) :: us, (k2, x) :: kvs, h => by
    have e' : k1 = k2 := h.1
    subst e'
    rw [List.map_cons, List.map_cons]
    by_cases q : k1 = k
    · rw [if_pos q, if_pos q]
      exact ⟨rfl, r, krs_map r h.2.2⟩
    · rw [if_neg q, if_neg q]
      exact ⟨rfl, h.2.1, krs_map r h.2.2⟩
  | [], _ :: _, h => h.elim
  | _ :: _, [], h => h.elim
theorem krs_snoc {k : Key} {v : V} {w : W} (r : VR K Hv M v w) : ∀ {us : List (Key × V)} {kvs : List (Key × W)}, KRs K Hv M us kvs → KRs K Hv M (us ++ [(k, v)]) (kvs ++ [(k, w)])
  | [], [], _ => ⟨rfl, r, trivial⟩
  | _ :: _, _ :: _, h => ⟨h.1, h.2.1, krs_snoc r h.2.2⟩
  | [], _ :: _, h => h.elim
  | _ :: _, [], h => h.elim
theorem krs_put {k : Key} {v : V} {w : W} {us : List (Key × V)} {kvs : List (Key × W)} (h : KRs K Hv M us kvs) (r : VR K Hv M v w) : KRs K Hv M (putK us k v) (putW kvs k w) := by
  unfold putK putW
  rw [krs_any k h]
  split
  · exact krs_map r h
  · exact krs_snoc r h
theorem krs_drop {k : Key} : ∀ {us : List (Key × V)} {kvs : List (Key × W)}, KRs K Hv M us kvs → KRs K Hv M (dropK us k) (dropW kvs k)
  | [], [], _ => trivial
  | (k1, u) :: us, (k2, x) :: kvs, h => by
    have e' : k1 = k2 := h.1
    subst e'
    have ih := krs_drop (k := k) h.2.2
    unfold dropK dropW at ih ⊢
    by_cases q : k1 = k
    · rw [List.filter_cons_of_neg (by simpa using q), List.filter_cons_of_neg (by simpa using q)]
      exact ih
    · rw [List.filter_cons_of_pos (by simpa using q), List.filter_cons_of_pos (by simpa using q)]
      exact ⟨rfl, h.2.1, ih⟩
  | [], _ :: _, h => h.elim
  | _ :: _, [], h => h.elim
theorem krs_at : ∀ {us : List (Key × V)} {kvs : List (Key × W)} {i : Nat}, KRs K Hv M us kvs → ∀ {k : Key} {v : V}, us[i]? = some (k, v) → ∃ w, kvs[i]? = some (k, w) ∧ VR K Hv M v w
  | (k1, u) :: us, (k2, x) :: kvs, 0, h, k, v, e => by
    have e' : k1 = k2 := h.1
    subst e'
    have : (k1, u) = (k, v) := by simpa using e
    cases this
    exact ⟨x, rfl, h.2.1⟩
  | _ :: us, _ :: kvs, i + 1, h, k, v, e => krs_at (i := i) h.2.2 (by simpa using e)
  | [], [], _, _, _, _, e => by simp at e
  | [], _ :: _, _, h, _, _, _ => h.elim
  | _ :: _, [], _, h, _, _, _ => h.elim
end
/-- the dict at k, locked or not -/
def DkAt (μ : Mu) (k : Nat) (kvs : List (Key × W)) : Prop := μ[k]? = some (some (.dk kvs)) ∨ ∃ od us, μ[k]? = some (some (.fk od us kvs))
section
variable {K : PySem.W.Frag} {A : Addr → Prop} {M : List Addr} {H : Hp} {μ : Mu} {Γ : G} {R : W → Mu → Prop}
theorem dk_get {k : Nat} {kvs : List (Key × W)} {v : V} (mo : MOk K A M H μ) (rv : VR K (vw A M μ H) M v (.m k)) (hk : DkAt μ k kvs) : ∃ a us, v = .ref a ∧ M[k]? = some a ∧ Rd H a (.dK us) ∧ KRs K (vw A M μ H) M us kvs := by
  cases rv with
  | m hm =>
    rcases hk with hk | ⟨od, us, hk⟩
    · obtain ⟨o, e, us, rfl, r⟩ := mo.ct _ _ _ hm hk
      exact ⟨_, us, rfl, hm, .inl e, r⟩
    · obtain ⟨o, e, rfl, r⟩ := mo.ct _ _ _ hm hk
      exact ⟨_, us, rfl, hm, .inr ⟨od, e⟩, r⟩
theorem dk_own {k : Nat} {kvs : List (Key × W)} {v : V} (mo : MOk K A M H μ) (rv : VR K (vw A M μ H) M v (.m k)) (hk : μ[k]? = some (some (.dk kvs))) : ∃ a us, v = .ref a ∧ M[k]? = some a ∧ H a = some (.dK us) ∧ KRs K (vw A M μ H) M us kvs := by
  cases rv with
  | m hm =>
    obtain ⟨o, e, us, rfl, r⟩ := mo.ct _ _ _ hm hk
    exact ⟨_, us, rfl, hm, e, r⟩
theorem o_dget {k : Nat} {kvs : List (Key × W)} {y : Key} {w : W} (hk : DkAt μ k kvs) (hw : getW kvs y = some w) (q : R w μ) : AO K rDGet (.m k) (.d (keyD y)) μ R := fun A M H v u mo rv ru Q h => by
  obtain ⟨a, us, rfl, hm, rd, rk⟩ := dk_get mo rv hk
  rw [vr_key ru]
  obtain ⟨z, hz, rz⟩ := (krs_get y rk).2 w hw
  exact ⟨a, z, rfl, .inl ⟨us, y, rd, rfl, hz.symm⟩, h M H z w μ mo Eff.refl rz q⟩
theorem valV_isSome {us : List (Key × V)} {kvs : List (Key × W)} {Hv : Hp} {y : Key} (rk : KRs K Hv M us kvs) : (valV us y).isSome = (getW kvs y).isSome := by
  cases e : getW kvs y with
  | none => rw [(krs_get y rk).1 e]; rfl
  | some w =>
    obtain ⟨z, hz, _⟩ := (krs_get y rk).2 w e
    rw [hz]; rfl
theorem o_din {k : Nat} {kvs : List (Key × W)} {y : Key} (hk : DkAt μ k kvs) (q : R (.d (.bool (getW kvs y).isSome)) μ) : AO K rDIn (.d (keyD y)) (.m k) μ R := fun A M H v u mo rv ru Q h => by
  obtain ⟨a, us, rfl, hm, rd, rk⟩ := dk_get mo ru hk
  rw [vr_key rv]
  refine ⟨a, _, rfl, .inl ⟨us, y, rd, rfl, rfl⟩, ?_⟩
  rw [valV_isSome rk]
  exact h M H _ _ μ mo Eff.refl (.d (.bl _)) q
theorem o_dnotin {k : Nat} {kvs : List (Key × W)} {y : Key} (hk : DkAt μ k kvs) (q : R (.d (.bool (!(getW kvs y).isSome))) μ) : AO K rDNotIn (.d (keyD y)) (.m k) μ R := fun A M H v u mo rv ru Q h => by
  obtain ⟨a, us, rfl, hm, rd, rk⟩ := dk_get mo ru hk
  rw [vr_key rv]
  refine ⟨a, _, rfl, .inl ⟨us, y, rd, rfl, rfl⟩, ?_⟩
  rw [valV_isSome rk]
  exact h M H _ _ μ mo Eff.refl (.d (.bl _)) q
/-- {} -/
theorem ax_dnew (q : R (.m μ.length) (μ ++ [some (.dk [])])) : AX K tDNewK Γ μ R := fun A M σ H c Q h => fun p hp => by
  have mo' : MOk K A (M ++ [p]) (upd H p (.dK [])) (μ ++ [some (.dk [])]) := c.mo.new hp ⟨[], rfl, trivial⟩
  refine h _ _ _ _ _ mo' (Eff.new c.mo hp) (.m ?_) q
  rw [← c.mo.len, List.getElem?_append_right (Nat.le_refl _)]
  simp
/-- d[y] = v -/
theorem as_dput {td ty tv : TE} {D : AEn} (h : AX K tv Γ μ fun v μ1 => AX K td Γ μ1 fun x μ2 => AX K ty Γ μ2 fun y μ3 => ∃ k kvs key, x = .m k ∧ μ3[k]? = some (some (.dk kvs)) ∧ y = .d (keyD key) ∧ kvs.length < sizeLine ∧ D.nx Γ (μ3.set k (some (.dk (putW kvs key v))))) :
    AS K (sDPut td ty tv) D Γ μ := fun A M σ H c E hE =>
  h A M σ H c _ fun M1 H1 v wv μ1 mo1 e1 r1 h1 => h1 A M1 σ H1 (c.eff e1 mo1) _ fun M2 H2 x wx μ2 mo2 e2 r2 h2 => h2 A M2 σ H2 ((c.eff e1 mo1).eff e2 mo2) _ fun M3 H3 y wy μ3 mo3 e3 r3 ⟨k, kvs, key, ex, hk, ey, hl, q⟩ => by
    subst ex ey
    obtain ⟨a, us, rfl, hm, ea, rk⟩ := dk_own mo3 (r2.mono e3.ex e3.pre) hk
    rw [vr_key r3]
    refine ⟨a, _, rfl, DPut.k ea (by rw [krs_len rk]; exact hl), ?_⟩
    have rv := (r1.mono e2.ex e2.pre).mono e3.ex e3.pre
    have mo4 : MOk K A M3 (upd H3 a (.dK (putK us key v))) (μ3.set k (some (.dk (putW kvs key wv)))) := mo3.write hm hk ⟨_, rfl, krs_put rk rv⟩
    have e4 : Eff A M3 μ3 H3 M3 (μ3.set k (some (.dk (putW kvs key wv)))) (upd H3 a (.dK (putK us key v))) := Eff.write mo3 hm hk
    exact hE.nx M3 σ _ Γ _ ((((c.eff e1 mo1).eff e2 mo2).eff e3 mo3).eff e4 mo4) (((e1.trans e2).trans e3).trans e4) q
theorem dk_isD {k : Nat} {kvs : List (Key × W)} {a : Addr} (mo : MOk K A M H μ) (rv : VR K (vw A M μ H) M (.ref a) (.m k)) (hk : DkAt μ k kvs) : IsD H a := by
  obtain ⟨b, us, e, _, rd, _⟩ := dk_get mo rv hk
  cases e
  exact .inl ⟨us, rd⟩
/-- d.pop(y, z) -/
theorem ax_dpop2 {td ty tx : TE} (h : AX K td Γ μ fun x μ1 => ∃ k kvs0, x = .m k ∧ DkAt μ1 k kvs0 ∧ AX K ty Γ μ1 fun y μ2 => AX K tx Γ μ2 fun z μ3 => ∃ kvs key, μ3[k]? = some (some (.dk kvs)) ∧ y = .d (keyD key) ∧
    (∀ w, getW kvs key = some w → R w (μ3.set k (some (.dk (dropW kvs key))))) ∧ (getW kvs key = none → R z μ3)) : AX K (tDPop2 td ty tx) Γ μ R := fun A M σ H c Q q =>
  h A M σ H c _ fun M1 H1 x wx μ1 mo1 e1 r1 ⟨k, kvs0, ex, hk0, h1⟩ => by
    subst ex
    obtain ⟨a, us0, rfl, hm0, rd0, rk0⟩ := dk_get mo1 r1 hk0
    refine ⟨a, rfl, dk_isD mo1 r1 hk0, h1 A M1 σ H1 (c.eff e1 mo1) _ fun M2 H2 y wy μ2 mo2 e2 r2 h2 => h2 A M2 σ H2 ((c.eff e1 mo1).eff e2 mo2) _ fun M3 H3 z wz μ3 mo3 e3 r3 ⟨kvs, key, hk, ey, q1, q2⟩ => ?_⟩
    subst ey
    obtain ⟨b, us, eb, hm, ea, rk⟩ := dk_own mo3 ((r1.mono e2.ex e2.pre).mono e3.ex e3.pre) hk
    cases eb
    refine ⟨us, key, ea, vr_key (r2.mono e3.ex e3.pre), fun v hv => ?_, fun hv => ?_⟩
    · cases e : getW kvs key with
      | none =>
        rw [(krs_get key rk).1 e] at hv
        cases hv
      | some w =>
        obtain ⟨v', hv', rv⟩ := (krs_get key rk).2 w e
        rw [hv] at hv'
        cases hv'
        have mo4 : MOk K A M3 (upd H3 a (.dK (dropK us key))) (μ3.set k (some (.dk (dropW kvs key)))) := mo3.write hm hk ⟨_, rfl, krs_drop rk⟩
        have e4 : Eff A M3 μ3 H3 M3 (μ3.set k (some (.dk (dropW kvs key)))) (upd H3 a (.dK (dropK us key))) := Eff.write mo3 hm hk
        exact q M3 _ v w _ mo4 (((e1.trans e2).trans e3).trans e4) (rv.mono e4.ex e4.pre) (q1 w e)
    · cases e : getW kvs key with
      | none => exact q M3 H3 z wz μ3 mo3 ((e1.trans e2).trans e3) r3 (q2 e)
      | some w =>
        obtain ⟨v', hv', rv⟩ := (krs_get key rk).2 w e
        rw [hv] at hv'
        cases hv'
/-- an expression that walks the dict at k -/
theorem ax_lock {t : TE} (k : Nat) {kvs : List (Key × W)} (hk : μ[k]? = some (some (.dk kvs))) (h : ∀ od us, AX K t Γ (μ.set k (some (.fk od us kvs))) fun w μ' => μ'[k]? = some (some (.fk od us kvs)) ∧ R w (μ'.set k (some (.dk kvs)))) : AX K (tLockE t) Γ μ R := fun A M σ H c Q q => by
  have hl : k < M.length := by
    rw [c.mo.len]
    exact (List.getElem?_eq_some_iff.mp hk).1
  have hm : M[k]? = some (M[k]'hl) := List.getElem?_eq_getElem hl
  generalize M[k]'hl = a at hm
  obtain ⟨o, ea, us, rfl, rk⟩ := c.mo.ct k a _ hm hk
  refine ⟨a, .dK us, ea, trivial, fun od => ?_⟩
  have mo1 : MOk K A M (upd H a (.frz od (.dK us))) (μ.set k (some (.fk od us kvs))) := c.mo.write hm hk ⟨rfl, rk⟩
  have e1 : Eff A M μ H M (μ.set k (some (.fk od us kvs))) (upd H a (.frz od (.dK us))) := Eff.write c.mo hm hk
  refine h od us A M σ _ (c.eff e1 mo1) _ fun M2 H2 v w μ2 mo2 e2 r2 ⟨hk2, hR⟩ => ?_
  have hm2 := e2.pre k a hm
  obtain ⟨o2, ea2, rfl, rk2⟩ := mo2.ct k a _ hm2 hk2
  have mo3 : MOk K A M2 (upd H2 a (.dK us)) (μ2.set k (some (.dk kvs))) := mo2.write hm2 hk2 ⟨us, rfl, rk2⟩
  have e3 : Eff A M2 μ2 H2 M2 (μ2.set k (some (.dk kvs))) (upd H2 a (.dK us)) := Eff.write mo2 hm2 hk2
  exact ⟨ea2, q M2 _ v w _ mo3 ((e1.trans e2).trans e3) (r2.mono e3.ex e3.pre) hR⟩
/-- for y in d, the dict locked -/
theorem ai_keys {td : TE} {RI : List W → (Mu → Prop) → Mu → Prop} (h : AX K td Γ μ fun x μ1 => ∃ k od us kvs, x = .m k ∧ μ1[k]? = some (some (.fk od us kvs)) ∧ RI (kvs.map fun kv => .d (keyD kv.1)) (fun μ' => μ'[k]? = some (some (.fk od us kvs))) μ1) : AI K (iKeys td) Γ μ RI := fun A M σ H c Q q =>
  h A M σ H c _ fun M1 H1 x wx μ1 mo1 e1 r1 ⟨k, od, us, kvs, ex, hk, hR⟩ => by
    subst ex
    cases r1 with
    | m hm =>
      obtain ⟨o, ea, rfl, rk⟩ := mo1.ct k _ _ hm hk
      refine ⟨_, od, rfl, .inl ⟨us, ea, q M1 H1 _ _ _ μ1 mo1 e1 (fun A' M' H' μ' mo' ex pr hS i => ?_) hR⟩⟩
      obtain ⟨o', ea', rfl, rk'⟩ := mo'.ct k _ _ (pr k _ hm) hS
      refine ⟨fun w' hw => ?_, fun hn => ⟨ea', ?_⟩⟩
      · have hi : i < us.length := by
          rw [krs_len rk']
          have := (List.getElem?_eq_some_iff.mp hw).1
          simpa using this
        refine ⟨⟨ea', hi⟩, fun y H2 hy => ?_⟩
        obtain ⟨rfl, ky, v, e, rfl⟩ := hy
        obtain ⟨w, e2, _⟩ := krs_at rk' e
        rw [List.getElem?_map, e2] at hw
        have : W.d (keyD ky) = w' := by simpa using hw
        subst this
        exact ⟨Ex.refl _, key_vr ky⟩
      · rw [krs_len rk']
        have := List.getElem?_eq_none_iff.mp hn
        simpa using this
/-- for y, v in d.items(), the dict locked -/
theorem ai_items {td : TE} {RI : List W → (Mu → Prop) → Mu → Prop} (h : AX K td Γ μ fun x μ1 => ∃ k od us kvs, x = .m k ∧ μ1[k]? = some (some (.fk od us kvs)) ∧ RI (kvs.map fun kv => pairW (.d (keyD kv.1)) kv.2) (fun μ' => μ'[k]? = some (some (.fk od us kvs))) μ1) : AI K (iItems td) Γ μ RI := fun A M σ H c Q q =>
  h A M σ H c _ fun M1 H1 x wx μ1 mo1 e1 r1 ⟨k, od, us, kvs, ex, hk, hR⟩ => by
    subst ex
    cases r1 with
    | m hm =>
      obtain ⟨o, ea, rfl, rk⟩ := mo1.ct k _ _ hm hk
      refine ⟨_, od, us, rfl, ea, q M1 H1 _ _ _ μ1 mo1 e1 (fun A' M' H' μ' mo' ex pr hS i => ?_) hR⟩
      obtain ⟨o', ea', rfl, rk'⟩ := mo'.ct k _ _ (pr k _ hm) hS
      refine ⟨fun w' hw => ?_, fun hn => ⟨ea', ?_⟩⟩
      · have hi : i < us.length := by
          rw [krs_len rk']
          have := (List.getElem?_eq_some_iff.mp hw).1
          simpa using this
        refine ⟨⟨ea', hi⟩, fun y H2 hy => ?_⟩
        obtain ⟨T, ky, v, e, rfl, hT, rfl⟩ := hy
        obtain ⟨w, e2, rw'⟩ := krs_at rk' e
        rw [List.getElem?_map, e2] at hw
        have : pairW (.d (keyD ky)) w = w' := by simpa using hw
        subst this
        exact ⟨Ex.new hT, vr_pair mo' hT (key_vr ky) rw'⟩
      · rw [krs_len rk']
        have := List.getElem?_eq_none_iff.mp hn
        simpa using this
/-- sorted(x), ints -/
theorem c_sortedI {x : W} {ns : List Int} (hx : LW μ x (wInts ns)) (q : ∀ ns' : List Int, ns'.Perm ns → ns'.Pairwise (· ≤ ·) → NL (wInts ns') μ R) : AC K (rSortedI K) [x] μ R := fun A M H vs mo rs Q h => by
  cases rs with
  | cons rw rn =>
    cases rn
    obtain ⟨a, us, rfl, hs, ru⟩ := hx.get mo rw
    rw [vrs_int ru] at hs
    refine ⟨a, ns, rfl, hs, fun ns' p h1 h2 hp => ?_⟩
    have rv : VRs K (vw A M μ H) M (ns'.map V.int) (wInts ns') := by
      clear h1 h2
      induction ns' with
      | nil => exact .nil
      | cons n ns' ih => exact .cons (.d (.int n)) ih
    obtain ⟨M2, μ2, w, m2, e2, r2, hR⟩ := (q ns' h1 h2).use mo rv hp
    exact h M2 _ _ w μ2 m2 e2 r2 hR
theorem putW_len (k : Key) (w : W) (kvs : List (Key × W)) : (putW kvs k w).length ≤ kvs.length + 1 := by
  unfold putW
  split
  · rw [List.length_map]; omega
  · rw [List.length_append, List.length_singleton]; omega
/-- the state within a comprehension whose dict stands at p -/
def DcI (K : PySem.W.Frag) (A : Addr → Prop) (M1 : List Addr) (μ1 : Mu) (H1 : Hp) (p : Addr) (P : List (Key × W) → Mu → Prop) (H' : Hp) : Prop :=
  ∃ M' μ' us acc, H' p = some (.dK us) ∧ MOk K (addA A p) M' H' μ' ∧ Eff A M1 μ1 H1 M' μ' (delH H' p) ∧ KRs K (vw (addA A p) M' μ' H') M' us acc ∧ P acc μ'
/-- {k: v for ..} -/
theorem ax_dc {wi : TI} {g : TG} {tt : TT} {tk tv : TE} {vs : List Nat} {α : Type} (f : α → W) (ns : List α) (I : List α → List (Key × W) → Mu → Prop) (hz : ns.length ≤ sizeLine) (hw : WipeOk g vs)
    (h : AI K wi Γ μ fun items S μ1 => items = ns.map f ∧ (∀ pre acc μ', I pre acc μ' → S μ') ∧ I [] [] μ1)
    (hs : ∀ pre x post acc μ', ns = pre ++ x :: post → acc.length ≤ pre.length → I pre acc μ' → AG K g (f x) (wipeG Γ vs) μ' fun Γ2 μ2 => AXT K tt Γ2 μ2 fun b μ3 => if b = true then AX K tk Γ2 μ3 fun y μ4 => AX K tv Γ2 μ4 fun w μ5 => ∃ key, y = .d (keyD key) ∧ I (pre ++ [x]) (putW acc key w) μ5 else I (pre ++ [x]) acc μ3)
    (hd : ∀ acc μ', I ns acc μ' → R (.m μ'.length) (μ' ++ [some (.dk acc)])) : AX K (tDc wi g tt tk tv vs) Γ μ R := fun A M σ H cn Q q =>
  h A M σ H cn _ fun M1 H1 J items S μ1 mo1 e1 hJ ⟨hi, hS, h0⟩ => by
    subst hi
    intro p hp
    have hA : ¬ A p := fun z => mo1.aA p z hp
    refine ⟨fun i m H' => i ≤ ns.length ∧ m = ns.length - i ∧ DcI K A M1 μ1 H1 p (fun acc μ' => acc.length ≤ i ∧ I (ns.take i) acc μ') H',
      ⟨ns.length, Nat.zero_le _, rfl, M1, μ1, [], [], upd_same, mo1.add hp, by rw [delH_upd2, delH_none hp]; exact Eff.refl, trivial, Nat.le_refl _, h0⟩, fun i m H' hW => ?_⟩
    obtain ⟨hi, rfl, M', μ', us, acc, hu, mo', e', ru, hal, hI⟩ := hW
    have hex : Ex (vw A M1 μ1 H1) (vw (addA A p) M' μ' H') := by
      rw [vw_add]
      exact e'.ex
    have hit := hJ (addA A p) M' H' μ' mo' hex e'.pre (hS _ _ _ hI) i
    by_cases hlt : i < ns.length
    · have hx : ns[i]? = some ns[i] := List.getElem?_eq_getElem hlt
      have hw' : (ns.map f)[i]? = some (f ns[i]) := by rw [List.getElem?_map, hx]; rfl
      obtain ⟨hgo, hy⟩ := hit.1 _ hw'
      refine .inr ⟨hgo, DcI K A M1 μ1 H1 p (fun acc μ' => acc.length ≤ i + 1 ∧ I (ns.take (i + 1)) acc μ'), fun H2 h2 => ⟨ns.length - (i + 1), by omega, hlt, rfl, h2⟩, fun x H2 hyld => ?_⟩
      obtain ⟨ex2, rx⟩ := hy x H2 hyld
      have eH2 : Eff (addA A p) M' μ' H' M' μ' H2 := Eff.of_ex ex2
      have c0 : GR K (vw A M1 μ1 H1) M1 (wipe σ vs) (wipeG Γ vs) := (cn.gr.mono e1.ex e1.pre).wipeG vs
      have c2 : Cn K (addA A p) M' (wipe σ vs) H2 (wipeG Γ vs) μ' := ⟨mo'.ex ex2, (c0.mono hex e'.pre).mono (vw_ex ex2) (Pre.refl _)⟩
      have hlen : (ns.take i).length = i := by rw [List.length_take]; omega
      refine hw x σ H2 _ ?_
      refine hs (ns.take i) ns[i] (ns.drop (i + 1)) acc μ' (split_at hx) (by omega) hI (addA A p) M' (wipe σ vs) H2 x c2 rx _ fun M3 σ3 H3 Γ3 μ3 c3 e3 h3 => ?_
      refine h3 (addA A p) M3 σ3 H3 c3 _ fun M4 H4 b μ4 mo4 e4 h4 => ?_
      have eA : Eff (addA A p) M' μ' H' M4 μ4 H4 := (eH2.trans e3).trans e4
      have hu4 : H4 p = some (.dK us) := eA.own p _ (.inr rfl) hu
      cases b with
      | false =>
        refine ⟨M4, μ4, us, acc, hu4, mo4, e'.trans eA.del2, ru.mono eA.ex eA.pre, by omega, ?_⟩
        rw [take_snoc hx]
        exact h4
      | true =>
        refine h4 (addA A p) M4 σ3 H4 (c3.eff e4 mo4) _ fun M5 H5 y wy μ5 mo5 e5 r5 h5 => ?_
        refine h5 (addA A p) M5 σ3 H5 ((c3.eff e4 mo4).eff e5 mo5) _ fun M6 H6 z w μ6 mo6 e6 r6 ⟨key, ey, hI6⟩ => ?_
        subst ey
        have eB : Eff (addA A p) M' μ' H' M6 μ6 H6 := (eA.trans e5).trans e6
        have hu6 : H6 p = some (.dK us) := eB.own p _ (.inr rfl) hu
        have rus : KRs K (vw (addA A p) M6 μ6 H6) M6 (putK us key z) (putW acc key w) := krs_put (ru.mono eB.ex eB.pre) r6
        have hpl := putW_len key w acc
        refine ⟨us, key, vr_key r5, hu6, ?_, M6, μ6, putK us key z, putW acc key w, upd_same, mo6.wr hu6 noTb_dK, ?_, ?_, by omega, ?_⟩
        · rw [krs_len ru]
          omega
        · rw [delH_upd2]
          exact e'.trans eB.del2
        · rw [vw_add, delH_upd2, ← vw_add]
          exact rus
        · rw [take_snoc hx]
          exact hI6
    · have hei : i = ns.length := by omega
      subst hei
      refine .inl ⟨hit.2 (by simp), ?_⟩
      rw [List.take_length] at hI
      have md := mo'.del hA hu noTb_dK
      have rd : KRs K (vw A M' μ' (delH H' p)) M' us acc := by
        rw [← vw_add]
        exact ru
      have hn : delH H' p p = none := if_pos rfl
      have m2 : MOk K A (M' ++ [p]) (upd (delH H' p) p (.dK us)) (μ' ++ [some (.dk acc)]) := md.new hn ⟨us, rfl, rd⟩
      have e2 : Eff A M' μ' (delH H' p) (M' ++ [p]) (μ' ++ [some (.dk acc)]) (upd (delH H' p) p (.dK us)) := Eff.new md hn
      rw [delH_upd hu] at m2 e2
      refine q (M' ++ [p]) H' _ (.m μ'.length) _ m2 ((e1.trans e').trans e2) (.m ?_) (hd acc μ' hI)
      rw [← mo'.len, List.getElem?_append_right (Nat.le_refl _)]
      simp
/-- a statement that walks the dict at k -/
theorem as_lock {t : TS} {D : AEn} (k : Nat) {kvs : List (Key × W)} (hk : μ[k]? = some (some (.dk kvs)))
    (h : ∀ od us, AS K t { nx := fun Γ' μ' => μ'[k]? = some (some (.fk od us kvs)) ∧ D.nx Γ' (μ'.set k (some (.dk kvs))), rt := fun w μ' => μ'[k]? = some (some (.fk od us kvs)) ∧ D.rt w (μ'.set k (some (.dk kvs))), bk := fun Γ' μ' => μ'[k]? = some (some (.fk od us kvs)) ∧ D.bk Γ' (μ'.set k (some (.dk kvs))), ct := fun Γ' μ' => μ'[k]? = some (some (.fk od us kvs)) ∧ D.ct Γ' (μ'.set k (some (.dk kvs))) } Γ (μ.set k (some (.fk od us kvs)))) : AS K (tLock t) D Γ μ := fun A M σ H c E hE => by
  have hl : k < M.length := by
    rw [c.mo.len]
    exact (List.getElem?_eq_some_iff.mp hk).1
  have hm : M[k]? = some (M[k]'hl) := List.getElem?_eq_getElem hl
  generalize M[k]'hl = a at hm
  obtain ⟨o, ea, us, rfl, rk⟩ := c.mo.ct k a _ hm hk
  refine ⟨a, .dK us, ea, trivial, fun od => ?_⟩
  have mo1 : MOk K A M (upd H a (.frz od (.dK us))) (μ.set k (some (.fk od us kvs))) := c.mo.write hm hk ⟨rfl, rk⟩
  have e1 : Eff A M μ H M (μ.set k (some (.fk od us kvs))) (upd H a (.frz od (.dK us))) := Eff.write c.mo hm hk
  have back : ∀ M2 H2 μ2, MOk K A M2 H2 μ2 → Eff A M (μ.set k (some (.fk od us kvs))) (upd H a (.frz od (.dK us))) M2 μ2 H2 → μ2[k]? = some (some (.fk od us kvs)) →
      H2 a = some (.frz od (.dK us)) ∧ MOk K A M2 (upd H2 a (.dK us)) (μ2.set k (some (.dk kvs))) ∧ Eff A M2 μ2 H2 M2 (μ2.set k (some (.dk kvs))) (upd H2 a (.dK us)) := fun M2 H2 μ2 mo2 e2 hk2 => by
    have hm2 := e2.pre k a hm
    obtain ⟨o2, ea2, rfl, rk2⟩ := mo2.ct k a _ hm2 hk2
    exact ⟨ea2, mo2.write hm2 hk2 ⟨us, rfl, rk2⟩, Eff.write mo2 hm2 hk2⟩
  refine h od us A M σ _ (c.eff e1 mo1) _ ⟨fun M2 σ2 H2 Γ2 μ2 c2 e2 ⟨hk2, hR⟩ => ?_, fun M2 H2 v w μ2 mo2 e2 r2 ⟨hk2, hR⟩ => ?_, fun M2 σ2 H2 Γ2 μ2 c2 e2 ⟨hk2, hR⟩ => ?_, fun M2 σ2 H2 Γ2 μ2 c2 e2 ⟨hk2, hR⟩ => ?_, fun _ _ _ _ _ _ _ _ _ _ _ _ z => z.elim⟩
  · obtain ⟨b1, b2, b3⟩ := back M2 H2 μ2 c2.mo e2 hk2
    exact ⟨b1, hE.nx M2 σ2 _ Γ2 _ (c2.eff b3 b2) ((e1.trans e2).trans b3) hR⟩
  · obtain ⟨b1, b2, b3⟩ := back M2 H2 μ2 mo2 e2 hk2
    exact ⟨b1, hE.rt M2 _ v w _ b2 ((e1.trans e2).trans b3) (r2.mono b3.ex b3.pre) hR⟩
  · obtain ⟨b1, b2, b3⟩ := back M2 H2 μ2 c2.mo e2 hk2
    exact ⟨b1, hE.bk M2 σ2 _ Γ2 _ (c2.eff b3 b2) ((e1.trans e2).trans b3) hR⟩
  · obtain ⟨b1, b2, b3⟩ := back M2 H2 μ2 c2.mo e2 hk2
    exact ⟨b1, hE.ct M2 σ2 _ Γ2 _ (c2.eff b3 b2) ((e1.trans e2).trans b3) hR⟩
end
end Pd

/-! Pd17: set(list of ints), sorted of it. -/
namespace L2
open PySem PySem.Spec PyProof.Rows
section
variable {P : Program} {w : World} {A : Around} {E : Value → Shared → Prop} {s : Shared}
abbrev eS (w : World) : Obj := { cls := .type "set", dict := none, data := .set #[] 0 (.fresh 0 0 (!w.params.followText "set-order")) }
/-- a set of the members of ns has been made at the end of h0 -/
def MadeS (w : World) (h0 : Heap) (ns : List Int) (h1 : Heap) : Prop := ∃ c, SetR w h1 h0.objs.size (fun j => decide (j ∈ ns)) c ∧ c ≤ ns.length ∧ ∀ b o, h0.get? b = some o → h1.get? b = some o
theorem init_lst {l : Addr} {xs : Array Value} (ns : List Int) (g0 : A.handled = none) (gl : s.heap.IsList l xs) (gi : IntsAre xs.toList ns) (gb : ns.length + 1 < scanBound) :
    codeAny (model P w) A (.call (.builtin "set.__init__") ⟨[.ref s.heap.objs.size, .ref l], []⟩) (wants (fun r s2 => r = .none ∧ ∃ h1 k1, s2 = { s with heap := h1, toks := k1 } ∧ MadeS w s.heap ns h1) E) { s with heap := s.heap.push (eS w) } := by
  have gn : xs.size = ns.length := Array.length_toList.symm.trans (IntsAre.length gi)
  have e0 : (s.heap.push (eS w)).get? s.heap.objs.size = some (eS w) := Heap.get?_push_size _ rfl
  have e1 : (s.heap.push (eS w)).objs.size = s.heap.objs.size + 1 := Heap.size_push ..
  refine codeAny_call_builtin F.called_set.init.plain F.entry_set_init (check_set_init_1 (⟨_, e0, rfl⟩ : Shared.TypeIs { s with heap := s.heap.push (eS w) } (.ref s.heap.objs.size) "set") ?_)
  obtain ⟨⟨oc, od, oo, os⟩, ho, hoc, ov, hod⟩ := gl
  cases hoc
  cases hod
  have l0 : l < s.heap.objs.size := Heap.lt_size ho
  have q1 : (s.heap.push (eS w)).get? l = some { cls := .type "list", dict := od, data := .seq xs ov, slots := os } := Heap.get?_push_of_some _ ho
  have q2 : (s.heap.push (eS w)).IsList l xs := ⟨_, q1, rfl, ov, rfl⟩
  have q3 := F.sub_list_set
  have q4 := F.sub_list_frozenset
  have q5 : (Value.type "list" == Value.type "dict") = false := by decide
  unfold Builtin.«set.__init__» noKeywords Builtin.Frozenset.updateFrom
  generalize hPI : pyIter = PI
  wp_walk
  subst hPI
  refine wpAny_pyIter_list q2 (wpAny_bind (wpAny_runValue ?_))
  have n1 : l ≠ (s.heap.push (eS w)).objs.size := Nat.ne_of_lt (by rw [e1]; exact Nat.lt_succ_of_lt l0)
  have n2 : s.heap.objs.size ∉ [(s.heap.push (eS w)).objs.size, l] := fun z => by
    rcases List.mem_cons.mp z with z | z
    · exact Nat.ne_of_lt (Nat.lt_succ_self _) (z.trans e1)
    · exact Nat.ne_of_gt l0 (List.mem_singleton.mp z)
  refine set_update_ints ((Walks.list (by simp [g0]) _ l n1 xs).toS) s.heap.objs.size n2 ns gn gb (fun i v hv => ?_) (xs.size - 0) 0 _ (by omega) (Nat.zero_le _) ⟨⟨_, Heap.get?_push_size _ rfl, rfl, rfl⟩, q2.push _⟩ ⟨0, Nat.le_refl 0, setR_new_at (Heap.get?_push_of_some _ e0)⟩ ?_
  · have hi : i < ns.length := gn ▸ (Array.getElem?_eq_some_iff.mp hv).1
    obtain ⟨t, e⟩ := PyProof.Rows.IntsAre.int_at gi i v (by rw [Array.getElem?_toList]; exact hv)
    refine ⟨ns[i], t, List.getElem?_eq_getElem hi, e.trans ?_⟩
    rw [List.getD_eq_getElem?_getD, List.getElem?_eq_getElem hi]
    rfl
  · rintro ⟨h1, a1, a2, k1, a3⟩ c hm hc hS
    cases (show a1 = s.gens from hm.gens)
    cases (show a2 = s.drawn from hm.drawn)
    cases (show a3 = s.os from hm.os)
    refine wpAny_pure (?_ : wpAny _ _ (ret Value.none) _ _ _)
    refine wpAny_pure ⟨rfl, h1, k1, rfl, c, hS, gn ▸ hc, fun b o e => ?_⟩
    have b0 : b < s.heap.objs.size := Heap.lt_size e
    refine hm.heap b o (fun z => ?_) (Heap.get?_push_of_some _ (Heap.get?_push_of_some _ e))
    rcases List.mem_cons.mp z with z | z
    · exact Nat.ne_of_lt b0 z
    · exact Nat.ne_of_lt (Nat.lt_succ_of_lt b0) ((List.mem_singleton.mp z).trans e1)
theorem call_set_lst {p : Addr} {xs : Array Value} (ns : List Int) {Q : Value → Shared → Prop} (g0 : A.handled = none) (gl : s.heap.IsList p xs) (gi : IntsAre xs.toList ns) (gb : ns.length + 1 < scanBound)
    (q : ∀ h1 k1, MadeS w s.heap ns h1 → Q (.ref s.heap.objs.size) { s with heap := h1, toks := k1 }) : wpAny (model P w) A (call (.type "set") [.ref p]) Q E s := by
  obtain ⟨c, tl, x1⟩ := F.called_set.mro
  have x2 := F.called_set.made
  have x3 := F.called_set.sub
  refine wpAny_call (codeAny_of_tree (show wpAny _ _ (callAny (.type "set") _) _ _ _ from wpAny_pure ⟨Code.quiet_builtin _ (by decide +kernel), codeAny_builtin F.entry_type_call ?_⟩))
  rw [Around.under_plain (weight_type_call_type "set" [.ref p] []) rfl]
  have x4 := F.called_set.notType
  have x5 := F.called_set.canCreate
  have x6 := F.typeCall_set_1 (.ref p)
  (repeat (any_goals (first | assumption | wp_step)))
  refine codeAny_mono (code_set_led1 (.ref p) (E := E) (Q₁ := fun o s1 => o = .ref s.heap.objs.size ∧ s1 = { s with heap := s.heap.push (eS w) }) ⟨rfl, rfl⟩) fun r s1 hr => ?_
  match r, hr with
  | .error _, hr => exact hr
  | .ok (.ret o), hr =>
    obtain ⟨rfl, rfl⟩ := hr
    have y1 := F.called_set.init.lookup
    have y2 := F.called_set.init.bind (.ref s.heap.objs.size)
    have y3 : Shared.TypeIs { s with heap := s.heap.push (eS w) } (.ref s.heap.objs.size) "set" := ⟨_, Heap.get?_push_size _ rfl, rfl⟩
    (repeat (any_goals (first | assumption | wp_step)))
    refine codeAny_mono (init_lst (E := E) ns (by simp [g0]) gl gi gb) fun r2 s2 h2 => ?_
    match r2, h2 with
    | .error _, h2 => exact h2
    | .ok (.ret o2), h2 =>
      obtain ⟨rfl, h1, k1, rfl, hm⟩ := h2
      (repeat (any_goals (first | assumption | wp_step)))
      exact q _ _ hm
    | .ok .next, h2 => exact h2.elim
    | .ok .brk, h2 => exact h2.elim
    | .ok .cont, h2 => exact h2.elim
  | .ok .next, hr => exact hr.elim
  | .ok .brk, hr => exact hr.elim
  | .ok .cont, hr => exact hr.elim
end
/-- set(xs), a list of few ints -/
def rSetOfI (K : PySem.W.Frag) (w : World) : List V → Hp → VK → Prop := fun vs H Q => ∃ (a : Addr) (ns : List Int), vs = [V.ref a] ∧ SqL K H a (ns.map V.int) ∧ ns.length < 60 ∧
  ∀ (p : Addr) (c : Nat), H p = none → c ≤ ns.length → Q (.ref p) (upd H p (SetO w p (fun j => decide (j ∈ ns)) c))
/-- sorted(set(xs)), a list of few ints: two new objects -/
def rSortSet (K : PySem.W.Frag) : List V → Hp → VK → Prop := fun vs H Q => ∃ (a : Addr) (ns : List Int), vs = [V.ref a] ∧ SqL K H a (ns.map V.int) ∧ ns.length < 60 ∧
  ∀ (p p2 : Addr) (o : HO) (ks : List Int), H p = none → upd H p o p2 = none → ks.Pairwise (· < ·) → (∀ k, k ∈ ks ↔ k ∈ ns) → Q (.ref p2) (upd (upd H p o) p2 (.lst (ks.map V.int)))
section
variable {X : Cx}
theorem cr_setOfI (hc : X.calm = true) : CallR X (.type "set") (rSetOfI X.K X.w) := by
  rintro pins s σ H vs us Q I r ⟨a, ns, rfl, hs, hb, q⟩
  obtain ⟨its, rv, hl, _⟩ := I.list hs
  rw [Vals.ref1 r]
  refine call_set_lst ns (I.ok.hd hc) hl.isList rv.ints (Nat.lt_of_lt_of_le (Nat.succ_lt_succ hb) (show 61 ≤ scanBound by decide)) fun h1 k1 ⟨c, hS, hl2, hk⟩ => ?_
  exact ⟨.ref _, upd H s.heap.objs.size (SetO X.w s.heap.objs.size (fun j => decide (j ∈ ns)) c), I.laid (t' := k1) hk (Nat.le_refl _) (setO_new hS), rfl, q _ c (I.hok.fresh (Nat.le_refl _)) hl2⟩
/-- te, whose post may be made weaker -/
theorem pe_weak {e : Expr} {te : TE} (he : PE X e te) (Q0 : VK) : PE X e (fun σ H Q => te σ H Q0 ∧ ∀ x H1, Q0 x H1 → Q x H1) :=
  ⟨fun pins s σ H Q I ⟨h1, h2⟩ => thn (he.run pins s σ H Q0 I h1) fun u s1 ⟨x, H1, I1, r, q⟩ => ⟨x, H1, I1, r, h2 x H1 q⟩⟩
theorem pe_sortSet {e : Expr} {te : TE} {p p2 q pos : Pos} (hc : X.calm = true) (hg : Gl X "sorted") (hm : X.mg "sorted" = none) (hg2 : Gl X "set") (hm2 : X.mg "set" = none) (he : PE X e te)
    (n1 : starEach [e] X.env = (false, eval e X.env) :: starEach [] X.env := by rfl) : PE X (.Call (.Name "sorted" p) [.Call (.Name "set" p2) [e] [] q] [] pos) (tCB (rSortSet X.K) (tCons te tNil)) := ⟨fun pins s σ H Q I h => by
  have hset : PE X (.Call (.Name "set" p2) [e] [] q) _ := pe_callTy (cr_setOfI hc) hg2 hm2 (by decide +kernel) (pa_cons (pe_weak he (fun x H1 => rSortSet X.K [x] H1 Q)) pa_nil (hs := n1)) (he := n1)
  have hso : PE X (.Call (.Name "sorted" p) [.Call (.Name "set" p2) [e] [] q] [] pos) _ := pe_callB (cr_sortedSet hc) hg hm (by decide +kernel) (pa_cons hset pa_nil)
  exact hso.run pins s σ H Q I ⟨h, fun x H1 ⟨a, ns, ex, hs, hb, q⟩ => ⟨a, ns, ex, hs, hb, fun p c hp hcl => ⟨p, _, c, rfl, upd_same, by omega, fun ks p2 h1 h2 _ hp2 => q p p2 _ ks hp hp2 h1 fun k => (h2 k).trans (by simp)⟩⟩⟩⟩
end
end L2
namespace Pd
open PySem PySem.Spec L2
open Evl (Ex)
open PyProof.Rows
theorem c_sortSet {K : PySem.W.Frag} {μ : Mu} {R : W → Mu → Prop} {x : W} {ns : List Int} (hx : LW μ x (wInts ns)) (hb : ns.length < 60) (q : ∀ ks : List Int, ks.Pairwise (· < ·) → (∀ k, k ∈ ks ↔ k ∈ ns) → NL (wInts ks) μ R) : AC K (rSortSet K) [x] μ R := fun A M H vs mo rs Q h => by
  cases rs with
  | cons rw rn =>
    cases rn
    obtain ⟨a, us, rfl, hs, ru⟩ := hx.get mo rw
    rw [vrs_int ru] at hs
    refine ⟨a, ns, rfl, hs, hb, fun p p2 o ks hp hp2 h1 h2 => ?_⟩
    have mo1 := mo.ex (Ex.new (o := o) hp)
    have rv : VRs K (vw A M μ (upd H p o)) M (ks.map V.int) (wInts ks) := by
      clear h1 h2
      induction ks with
      | nil => exact .nil
      | cons n ks ih => exact .cons (.d (.int n)) ih
    obtain ⟨M2, μ2, w, m2, e2, r2, hR⟩ := (q ks h1 h2).use mo1 rv hp2
    exact h M2 _ _ w μ2 m2 ((Eff.of_ex (Ex.new hp)).trans e2) r2 hR
end Pd

/-! Pd18: sorted of tuples of two whose firsts are different ints. -/
namespace SrtO
open PySem PyProof.Rows Srt
section
variable {prog : Program} {w : World} {A : Around} {E : Value → Shared → Prop} {s : Shared}
def IsFst (h : Heap) (v : Value) (x : Int) : Prop := ∃ a o t u n, v = .ref a ∧ h.get? a = some o ∧ o.cls = .type "tuple" ∧ o.data = .seq #[.int x t, u] n
theorem IsFst.keeps {h h' : Heap} {v : Value} {x : Int} (p : IsFst h v x) (k : ∀ b o, h.get? b = some o → o.cls = .type "tuple" → h'.get? b = some o) : IsFst h' v x :=
  let ⟨a, o, t, u, n, e, ho, hc, hd⟩ := p
  ⟨a, o, t, u, n, e, k a o ho hc, hc, hd⟩
def ltF (k : Value → Int) (v u : Value) : Bool := decide (k v < k u)
theorem swo_F (k : Value → Int) : Swo (ltF k) :=
  ⟨fun x y h => decide_eq_false (p := k y < k x) (by have := of_decide_eq_true (p := k x < k y) h; omega),
   fun x y z h1 h2 => decide_eq_false (p := k z < k x) (by have := of_decide_eq_false (p := k y < k x) h1; have := of_decide_eq_false (p := k z < k y) h2; omega)⟩
theorem fst_cmp {vs : List Value} {k : Value → Int} (hp : ∀ v ∈ vs, IsFst s.heap v (k v)) (hi : ∀ v ∈ vs, ∀ u ∈ vs, k v = k u → v = u) : Cmp prog w A s (tuples' true) (fun p => p.1 ∈ vs) (lt2 (ltF k)) := fun p q m1 m2 => by
  have i := hi _ m1 _ m2
  obtain ⟨a, o, t, u, n, e, ho, hc, hd⟩ := hp _ m1
  obtain ⟨b, o2, t2, u2, n2, e2, ho2, hc2, hd2⟩ := hp _ m2
  refine (?_ : wpAny (model prog w) A (keyLt' (tuples' true) p.1 q.1) (fun r s' => s' = s ∧ r = decide (k p.1 < k q.1)) (fun _ _ => False) s)
  generalize k p.1 = x at *
  generalize k q.1 = y at *
  rw [e, e2]
  refine PySem.W.kat_lt ho hd ho2 hd2 (?_ : PySem.W.KatLex prog w A true (decide (2 < 2)) _ [(.int x t, .int y t2), (u, u2)] 0 s)
  refine PySem.W.kat_cons (SeqAt.EqAt.int_int x t y t2 prog w _ _ (PySem.W.kat_go (fun h => ?_) fun h => ?_))
  · have hx : x = y := by simpa using h
    have ev := i hx
    rw [e, e2] at ev
    cases ev
    rw [ho] at ho2
    cases ho2
    rw [hd] at hd2
    cases hd2
    refine PySem.W.kat_yes (PySem.W.kat_cons (SeqAt.EqAt.same u prog w _ _ (PySem.W.kat_go (fun _ => PySem.W.kat_yes (PySem.W.kat_nil ⟨rfl, ?_⟩)) fun z => by cases z)))
    exact (decide_eq_false (by omega)).symm
  · exact PySem.W.kat_no (oneLt_int ⟨rfl, rfl⟩)
theorem fsts_of {h : Heap} : ∀ {vs : List Value}, (∀ v ∈ vs, ∃ x, IsFst h v x) → ∃ fs : List Value, PySem.W.KatTups h vs fs ∧ fs.length = vs.length ∧ ∀ f ∈ fs, ∃ x t, f = Value.int x t
  | [], _ => ⟨[], .nil, rfl, fun _ m => (by simp at m)⟩
  | v :: vs, hp => by
    obtain ⟨fs, g1, g2, g3⟩ := fsts_of (vs := vs) fun u m => hp u (.tail _ m)
    obtain ⟨x, a, o, t, u, n, rfl, ho, hc, hd⟩ := hp v (.head _)
    refine ⟨.int x t :: fs, PySem.W.KatTups.cons ho hc hd rfl g1, congrArg (· + 1) g2, fun f m => ?_⟩
    rcases List.mem_cons.mp m with e | m
    · exact ⟨x, t, e⟩
    · exact g3 f m
theorem fst_sortable {a : Addr} {vs : List Value} {k : Value → Int} (h0 : 0 < vs.length) (hp : ∀ v ∈ vs, IsFst s.heap v (k v)) (hi : ∀ v ∈ vs, ∀ u ∈ vs, k v = k u → v = u) (ha : ∀ o, s.heap.get? a = some o → o.cls ≠ .type "tuple") : SortableO prog w A s a vs (ltF k) := fun h' keep => by
  have hp' : ∀ v ∈ vs, IsFst h' v (k v) := fun v m => (hp v m).keeps fun b o e c => keep b o (fun z => ha o (z ▸ e) c) e
  obtain ⟨fs, h1, h2, h3⟩ := fsts_of fun v m => ⟨_, hp' v m⟩
  refine ⟨tuples' true, fun Q E hq => PySem.W.kat_kind (T := .type "int") h1 (by omega) (fun f m => ?_) (by rfl) ?_, fst_cmp hp' hi⟩
  · obtain ⟨x, t, rfl⟩ := h3 f m
    exact PySem.W.Looks.now
  · rw [show (Value.type "int" != Value.type "tuple") = true from by decide +kernel]
    exact hq
theorem sorted_fst {l : Addr} {vs : List Value} {k : Value → Int} {Q : Value → Shared → Prop} (hl : s.heap.IsList l vs.toArray) (hz : vs.length ≤ sizeLine) (hp : ∀ v ∈ vs, IsFst s.heap v (k v)) (hi : ∀ v ∈ vs, ∀ u ∈ vs, k v = k u → v = u)
    (h : ∀ out : List Value, out.Perm vs → out.Pairwise (fun v u => k v ≤ k u) → Q (.ref (s.heap.objs.size + 1)) { s with heap := sortedAll s.heap vs out.toArray }) : wpAny (model prog w) A (call (.builtin "sorted") [.ref l]) Q E s :=
  sorted_ord (swo_F k) hl hz (fun h2 h₁ a ha kk => fst_sortable (s := { s with heap := h₁ }) (by omega) (fun v m => (hp v m).keeps fun b o e _ => (kk b o e).2) hi fun o e c => by
    have e' := e.symm.trans ha
    cases e'
    exact absurd (Value.type.inj c) (by decide)) fun out hs hb => h out hb.perm (hs.imp fun {x y} z => Int.not_lt.mp (of_decide_eq_false (p := k y < k x) z))
end
end SrtO
namespace L2
open PySem PySem.Spec PyProof.Rows
/-- sorted(xs), xs a list of tuples of two, told with their firsts, which are different ints -/
def rSortedF (K : PySem.W.Frag) : List V → Hp → VK → Prop := fun vs H Q => ∃ (a : Addr) (xs : List (V × Int)), vs = [V.ref a] ∧ SqL K H a (xs.map (·.1)) ∧ (∀ p ∈ xs, ∃ t y, p.1 = V.ref t ∧ SqT K H t [.int p.2, y]) ∧ (∀ p ∈ xs, ∀ q ∈ xs, p.2 = q.2 → p = q) ∧
  ∀ (zs : List (V × Int)) (p : Addr), zs.Perm xs → zs.Pairwise (fun u v => u.2 ≤ v.2) → H p = none → Q (.ref p) (upd H p (.lst (zs.map (·.1))))
/-- the first of the tuple that stands there -/
def fstAt (h : Heap) (v : Value) : Int := match v with
  | .ref a => (match h.get? a with
    | some o => (match o.data with
      | .seq arr _ => (match (arr[0]? : Option Value) with
        | some (Value.int x _) => x
        | _ => 0)
      | _ => 0)
    | none => 0)
  | _ => 0
theorem fstAt_of {h : Heap} {v : Value} {x : Int} (p : SrtO.IsFst h v x) : fstAt h v = x := by
  obtain ⟨a, o, t, u, n, rfl, ho, hc, hd⟩ := p
  simp [fstAt, ho, hd]
theorem zip_back {k : Value → Int} : ∀ {its : List Value} {xs : List (V × Int)}, xs.map (·.1) = its.map backV → (∀ v ∈ its, ∀ p ∈ xs, p.1 = backV v → k v = p.2) → its.map (fun v => (backV v, k v)) = xs
  | [], [], _, _ => rfl
  | v :: its, p :: xs, e, h => by
    rw [List.map_cons, List.map_cons] at e
    obtain ⟨e1, e2⟩ := List.cons.inj e
    rw [List.map_cons, zip_back e2 fun u m q mq => h u (.tail _ m) q (.tail _ mq), ← e1, h v (.head _) p (.head _) e1]
  | [], _ :: _, e, _ => by cases e
  | _ :: _, [], e, _ => by cases e
section
variable {X : Cx}
theorem cr_sortedF : CallR X (.builtin "sorted") (rSortedF X.K) := by
  rintro pins s σ H vs us Q I r ⟨a, xs, rfl, hs, hx, hi, q⟩
  obtain ⟨its, rv, hl, hz⟩ := I.list hs
  rw [Vals.ref1 r]
  have hfst : ∀ p ∈ xs, ∃ t, p.1 = V.ref t ∧ SrtO.IsFst s.heap (.ref t) p.2 := fun p hp => by
    obtain ⟨t, y, e, ht⟩ := hx p hp
    obtain ⟨its2, r2, pt, _⟩ := I.tuple ht
    obtain ⟨u1, u2, rfl, ⟨t1, rfl⟩, _⟩ := vals2 r2
    obtain ⟨o, ho, hc, n, hd⟩ := pt
    exact ⟨t, e, t, o, t1, u2, n, rfl, ho, hc, hd⟩
  obtain ⟨e1, e2⟩ := refs_back rv fun x m => by
    obtain ⟨p, hp, rfl⟩ := List.mem_map.mp m
    obtain ⟨t, e, _⟩ := hfst p hp
    exact ⟨t, e⟩
  have same : ∀ v ∈ its, ∀ p ∈ xs, p.1 = backV v → SrtO.IsFst s.heap v p.2 := fun v m p hp e => by
    obtain ⟨b, rfl⟩ := e2 v m
    obtain ⟨t, et, hf⟩ := hfst p hp
    rw [et] at e
    have : t = b := by simpa [backV] using e
    rw [← this]
    exact hf
  have some' : ∀ v ∈ its, ∃ p ∈ xs, p.1 = backV v := fun v m => by
    have : backV v ∈ xs.map (·.1) := by rw [e1]; exact List.mem_map.mpr ⟨v, m, rfl⟩
    obtain ⟨p, hp, e⟩ := List.mem_map.mp this
    exact ⟨p, hp, e⟩
  refine SrtO.sorted_fst (k := fstAt s.heap) hl.isList (by rw [← rv.length]; exact hz) (fun v m => ?_) (fun v m u mu e => ?_) fun out pm pw => ?_
  · obtain ⟨p, hp, e⟩ := some' v m
    have f := same v m p hp e
    rw [fstAt_of f]
    exact f
  · obtain ⟨p, hp, ep⟩ := some' v m
    obtain ⟨p2, hp2, ep2⟩ := some' u mu
    rw [fstAt_of (same v m p hp ep), fstAt_of (same u mu p2 hp2 ep2)] at e
    have z := hi p hp p2 hp2 e
    obtain ⟨b, rfl⟩ := e2 v m
    obtain ⟨b2, rfl⟩ := e2 u mu
    have z2 : backV (.ref b) = backV (.ref b2) := by rw [← ep, ← ep2, z]
    have z3 : b = b2 := by simpa [backV] using z2
    rw [z3]
  · have h3 : ∀ u ∈ out, ∃ a, u = Value.ref a := fun u hu => e2 u (pm.mem_iff.mp hu)
    obtain ⟨c, hc⟩ := PyProof.Rows.sortedAll_at s.heap its out.toArray
    have hzs : (out.map fun v => (backV v, fstAt s.heap v)).Perm xs := by
      have z := pm.map fun v => (backV v, fstAt s.heap v)
      rw [zip_back e1 fun v m p hp e => fstAt_of (same v m p hp e)] at z
      exact z
    have hq := q _ (s.heap.objs.size + 1) hzs (List.pairwise_map.mpr pw) (I.hok.fresh (Nat.le_succ _))
    rw [List.map_map] at hq
    refine ⟨.ref _, upd H (s.heap.objs.size + 1) (.lst (out.map backV)), I.laid (t' := s.toks) (fun _ _ => PyProof.Rows.sortedAll_old) (Nat.le_succ _) ⟨?_, out, c, vals_back h3, hc⟩, rfl, hq⟩
    rw [List.length_map, pm.length_eq, ← rv.length]
    exact hz
end
end L2
namespace Pd
open PySem PySem.Spec L2
open Evl (Ex)
open PyProof.Rows
theorem perm_lift {α β : Type} (g : α → β) {l k : List β} (h : l.Perm k) : ∀ m : List α, k = m.map g → ∃ m' : List α, m'.Perm m ∧ l = m'.map g := by
  induction h with
  | nil => exact fun m e => ⟨m, .refl _, e⟩
  | cons x _ ih =>
    intro m e
    cases m with
    | nil => cases e
    | cons a m =>
      rw [List.map_cons] at e
      obtain ⟨e1, e2⟩ := List.cons.inj e
      obtain ⟨m', p, e'⟩ := ih m e2
      exact ⟨a :: m', p.cons a, by rw [List.map_cons, e1, e']⟩
  | swap x y l =>
    intro m e
    match m, e with
    | a :: b :: m, e =>
      rw [List.map_cons, List.map_cons] at e
      obtain ⟨e1, e2⟩ := List.cons.inj e
      obtain ⟨e2, e3⟩ := List.cons.inj e2
      exact ⟨b :: a :: m, .swap _ _ _, by rw [List.map_cons, List.map_cons, e1, e2, e3]⟩
    | [], e => cases e
    | [a], e => cases e
  | trans _ _ ih1 ih2 =>
    intro m e
    obtain ⟨m2, p2, e2⟩ := ih2 m e
    obtain ⟨m1, p1, e1⟩ := ih1 m2 e2
    exact ⟨m1, p1.trans p2, e1⟩
theorem nodup_inj {α β : Type} (f : α → β) : ∀ {l : List α}, (l.map f).Nodup → ∀ x ∈ l, ∀ y ∈ l, f x = f y → x = y
  | [], _, _, h, _, _, _ => by cases h
  | a :: l, hn, x, hx, y, hy, e => by
    rw [List.map_cons, List.nodup_cons] at hn
    rcases List.mem_cons.mp hx with ea | hx2 <;> rcases List.mem_cons.mp hy with eb | hy2
    · rw [ea, eb]
    · exact absurd (List.mem_map.mpr ⟨y, hy2, by rw [← e, ea]⟩) hn.1
    · exact absurd (List.mem_map.mpr ⟨x, hx2, by rw [e, eb]⟩) hn.1
    · exact nodup_inj f hn.2 x hx2 y hy2 e
def tupW (p : Int × PyData) : W := .d (.tuple [.int p.1, p.2])
section
variable {K : PySem.W.Frag} {A : Addr → Prop} {M : List Addr} {H : Hp} {μ : Mu} {R : W → Mu → Prop}
theorem vrs_zip {Hv : Hp} : ∀ {us : List V} {ps : List (Int × PyData)}, VRs K Hv M us (ps.map tupW) → (us.zip ps).map (·.1) = us ∧ (us.zip ps).map (·.2) = ps ∧ ∀ t ∈ us.zip ps, VR K Hv M t.1 (tupW t.2)
  | [], [], _ => ⟨rfl, rfl, fun t h => by cases h⟩
  | [], _ :: _, h => by cases h
  | _ :: _, [], h => by cases h
  | u :: us, p :: ps, h => by
    cases h with
    | cons h1 h2 =>
      obtain ⟨a, b, c⟩ := vrs_zip h2
      refine ⟨?_, ?_, fun t ht => ?_⟩
      · rw [List.zip_cons_cons, List.map_cons, a]
      · rw [List.zip_cons_cons, List.map_cons, b]
      · rcases List.mem_cons.mp ht with rfl | ht
        · exact h1
        · exact c t ht
theorem vrs_of {Hv : Hp} : ∀ {T : List (V × (Int × PyData))}, (∀ t ∈ T, VR K Hv M t.1 (tupW t.2)) → VRs K Hv M (T.map (·.1)) (T.map fun t => tupW t.2)
  | [], _ => .nil
  | t :: T, h => .cons (h t (.head _)) (vrs_of fun u m => h u (.tail _ m))
theorem c_sortedF {x : W} {ps : List (Int × PyData)} (hx : LW μ x (ps.map tupW)) (hn : (ps.map (·.1)).Nodup) (q : ∀ zs : List (Int × PyData), zs.Perm ps → zs.Pairwise (fun u v => u.1 ≤ v.1) → NL (zs.map tupW) μ R) : AC K (rSortedF K) [x] μ R := fun A M H vs mo rs Q h => by
  cases rs with
  | cons rw' rn =>
    cases rn
    obtain ⟨a, us, rfl, hs, ru⟩ := hx.get mo rw'
    obtain ⟨t1, t2, t3⟩ := vrs_zip ru
    generalize us.zip ps = T at t1 t2 t3
    subst t1 t2
    refine ⟨a, T.map fun t => (t.1, t.2.1), rfl, ?_, fun p hp => ?_, fun p hp p2 hp2 e => ?_, fun zs p h1 h2 hp => ?_⟩
    · rw [List.map_map]
      exact hs
    · obtain ⟨t, ht, rfl⟩ := List.mem_map.mp hp
      have r := t3 t ht
      generalize t.1 = v at r
      unfold tupW at r
      cases r with
      | d r =>
        cases r with
        | tup r1 r2 =>
          cases r2 with
          | cons ra rb =>
            cases rb with
            | cons rc rd =>
              cases rd
              cases ra
              exact ⟨_, _, rfl, Evl.ex_t vw_le r1⟩
    · obtain ⟨t, ht, rfl⟩ := List.mem_map.mp hp
      obtain ⟨u, hu, rfl⟩ := List.mem_map.mp hp2
      rw [List.map_map] at hn
      rw [nodup_inj _ hn t ht u hu e]
    · obtain ⟨T2, pT, rfl⟩ := perm_lift _ h1 T rfl
      have rv := vrs_of (K := K) (Hv := vw A M μ H) (M := M) (T := T2) fun t ht => t3 t (pT.mem_iff.mp ht)
      have hq := q (T2.map (·.2)) (pT.map _) (by rw [List.pairwise_map] at h2 ⊢; exact h2)
      rw [List.map_map] at hq ⊢
      obtain ⟨M2, μ2, w, m2, e2, r2, hR⟩ := hq.use mo rv hp
      exact h M2 _ _ w μ2 m2 e2 r2 hR
end
end Pd

/-! Pd19: x in a list or tuple of ints or strs; dict steps with int keys. -/
namespace Pd
open PySem PySem.Spec PyProof.Rows L2
open Evl (Ex)
section
variable {K : PySem.W.Frag} {μ : Mu} {R : W → Mu → Prop}
theorem rng_split {n : Nat} {pre post : List Nat} {x : Nat} (h : List.range n = pre ++ x :: post) : x = pre.length ∧ x < n := by
  have e : (List.range n)[pre.length]? = some x := by rw [h]; simp
  have hl : pre.length < n := by
    have := (List.getElem?_eq_some_iff.mp e).1
    simpa using this
  rw [List.getElem?_range hl] at e
  have := Option.some.inj e
  omega
theorem inV_ints (x : Int) (ns : List Int) : inV (.int x) (ns.map V.int) = decide (x ∈ ns) := by
  unfold inV
  rw [List.any_map, Bool.eq_iff_iff, List.any_eq_true, decide_eq_true_iff]
  constructor
  · rintro ⟨y, hy, e⟩
    have : y = x := by simpa [eqV] using e
    subst this
    exact hy
  · intro h
    exact ⟨x, h, by simp [eqV]⟩
theorem inV_strs (x : Str) (ns : List Str) : inV (.str x) (ns.map V.str) = decide (x ∈ ns) := by
  unfold inV
  rw [List.any_map, Bool.eq_iff_iff, List.any_eq_true, decide_eq_true_iff]
  constructor
  · rintro ⟨y, hy, e⟩
    have : y = x := by simpa [eqV] using e
    subst this
    exact hy
  · intro h
    exact ⟨x, h, by simp [eqV]⟩
theorem flat_ints (ns : List Int) : (ns.map V.int).all flatV = true := by simp [List.all_map, flatV]
theorem flat_strs (ns : List Str) : (ns.map V.str).all flatV = true := by simp [List.all_map, flatV]
abbrev wStrs (ns : List Str) : List W := ns.map fun n => W.d (.str n)
theorem vrs_str : ∀ {vs : List V} {ns : List Str} {Hv : Hp} {M : List Addr}, VRs K Hv M vs (wStrs ns) → vs = ns.map V.str
  | _, [], _, _, h => by cases h; rfl
  | _, n :: ns, _, _, h => by
    cases h with
    | cons r t => rw [vr_str r, vrs_str t]; rfl
theorem o_inL {x : Int} {y : W} {ns : List Int} {neg : Bool} (hy : LW μ y (wInts ns)) (q : R (.d (.bool (if neg then !decide (x ∈ ns) else decide (x ∈ ns)))) μ) : AO K (rInU K neg) (.d (.int x)) y μ R := ao_l fun A M H v u mo rv ru Q h => by
  obtain ⟨a, vs, rfl, hs, rs⟩ := hy.get mo ru
  rw [vr_int rv]
  have e := vrs_int rs
  subst e
  exact ⟨a, _, rfl, .inl hs, rfl, flat_ints ns, by rw [inV_ints]; exact h M H _ _ μ mo Eff.refl (.d (.bl _)) q⟩
theorem o_inT {x : Int} {y : W} {ns : List Int} {neg : Bool} (hy : TW y (wInts ns)) (q : R (.d (.bool (if neg then !decide (x ∈ ns) else decide (x ∈ ns)))) μ) : AO K (rInU K neg) (.d (.int x)) y μ R := ao_l fun A M H v u mo rv ru Q h => by
  obtain ⟨a, vs, rfl, hs, rs⟩ := hy.get ru
  rw [vr_int rv]
  have e := vrs_int rs
  subst e
  exact ⟨a, _, rfl, .inr (Evl.ex_t vw_le hs), rfl, flat_ints ns, by rw [inV_ints]; exact h M H _ _ μ mo Eff.refl (.d (.bl _)) q⟩
theorem o_inLS {x : Str} {y : W} {ns : List Str} {neg : Bool} (hy : LW μ y (wStrs ns)) (q : R (.d (.bool (if neg then !decide (x ∈ ns) else decide (x ∈ ns)))) μ) : AO K (rInU K neg) (.d (.str x)) y μ R := ao_l fun A M H v u mo rv ru Q h => by
  obtain ⟨a, vs, rfl, hs, rs⟩ := hy.get mo ru
  rw [vr_str rv]
  have e := vrs_str rs
  subst e
  exact ⟨a, _, rfl, .inl hs, rfl, flat_strs ns, by rw [inV_strs]; exact h M H _ _ μ mo Eff.refl (.d (.bl _)) q⟩
theorem o_inTS {x : Str} {y : W} {ns : List Str} {neg : Bool} (hy : TW y (wStrs ns)) (q : R (.d (.bool (if neg then !decide (x ∈ ns) else decide (x ∈ ns)))) μ) : AO K (rInU K neg) (.d (.str x)) y μ R := ao_l fun A M H v u mo rv ru Q h => by
  obtain ⟨a, vs, rfl, hs, rs⟩ := hy.get ru
  rw [vr_str rv]
  have e := vrs_str rs
  subst e
  exact ⟨a, _, rfl, .inr (Evl.ex_t vw_le hs), rfl, flat_strs ns, by rw [inV_strs]; exact h M H _ _ μ mo Eff.refl (.d (.bl _)) q⟩
theorem gd_str {x : Str} (h : ∀ c ∈ x.cps.toList, c < 16 ^ 8) {n : Nat} (hn : x.cps.size + 1 ≤ n) : Gd (.str x) n 0 := ⟨h, hn, Nat.le_refl _⟩
theorem gd_intW {i : Int} (h : i.natAbs < 10 ^ 50) : Gd (.int i) 1 0 := ⟨h, Nat.le_refl _, Nat.le_refl _⟩
theorem gds_of {a b : Nat} : ∀ {xs : List PyData}, (∀ x ∈ xs, Gd x a b) → Gds xs (a * xs.length) b
  | [], _ => ⟨trivial, Nat.zero_le _, Nat.zero_le _⟩
  | x :: xs, h => by
    have h1 := Gds.cons (h x (by simp)) (gds_of fun y hy => h y (List.mem_cons_of_mem _ hy))
    refine ⟨h1.1, Nat.le_trans h1.2.1 ?_, Nat.le_trans h1.2.2 (by omega)⟩
    rw [List.length_cons, Nat.mul_succ]
    omega
theorem Gds.le {ys : List PyData} {a b c d : Nat} (h : Gds ys a b) (h1 : a ≤ c) (h2 : b ≤ d) : Gds ys c d := ⟨h.1, Nat.le_trans h.2.1 h1, Nat.le_trans h.2.2 h2⟩
theorem gds_le {a b n : Nat} {xs : List PyData} (h : ∀ x ∈ xs, Gd x a b) (hl : xs.length ≤ n) : Gds xs (a * n) b := (gds_of h).le (Nat.mul_le_mul_left a hl) (Nat.le_refl _)
theorem fz_potD {μ : Mu} {k n : Nat} {p : Option C} {xs : List PyData} (hp : PotOk n p) (q : R (.d (.list xs)) (μ.set k p)) : Fz μ (.m μ.length) (μ.set k p ++ [some (.lst (xs.map W.d))]) R :=
  ⟨_, [some (.lst (xs.map W.d))], .list xs, rfl, by simp, Keeps.pot hp, .m (Nat.le_refl _) mu_endS (Rns.ds xs), q⟩
theorem ne_self {α : Type} [DecidableEq α] {a : α} : (!decide (a = a)) = false := by simp
theorem eq_self' {α : Type} [DecidableEq α] {a : α} : decide (a = a) = true := by simp
theorem tw_ints (ns : List Int) : TW (.d (.tuple (ns.map PyData.int))) (wInts ns) := by
  rw [ints_d]
  exact .d _
theorem ntInts {ns : List Int} (q : R (.d (.tuple (ns.map PyData.int))) μ) : NT (wInts ns) μ R := NT.d (xs := ns.map PyData.int) q (ints_d ns)
end
theorem o_dinI {K : PySem.W.Frag} {μ : Mu} {R : W → Mu → Prop} {k : Nat} {kvs : List (Key × W)} {y : Int} (hk : DkAt μ k kvs) (q : R (.d (.bool (getW kvs (.inl y)).isSome)) μ) : AO K rDIn (.d (.int y)) (.m k) μ R := o_din (y := .inl y) hk q
theorem o_dnotinI {K : PySem.W.Frag} {μ : Mu} {R : W → Mu → Prop} {k : Nat} {kvs : List (Key × W)} {y : Int} (hk : DkAt μ k kvs) (q : R (.d (.bool (!(getW kvs (.inl y)).isSome))) μ) : AO K rDNotIn (.d (.int y)) (.m k) μ R := o_dnotin (y := .inl y) hk q
theorem o_dgetI {K : PySem.W.Frag} {μ : Mu} {R : W → Mu → Prop} {k : Nat} {kvs : List (Key × W)} {y : Int} {w : W} (hk : DkAt μ k kvs) (hw : getW kvs (.inl y) = some w) (q : R w μ) : AO K rDGet (.m k) (.d (.int y)) μ R := o_dget (y := .inl y) hk hw q
/-- the dict whose keys are ints and whose values are data -/
def kvD {D : Type} (f : D → PyData) (l : List (Int × D)) : List (Key × W) := l.map fun e => (.inl e.1, .d (f e.2))
theorem get_kvD {D : Type} (f : D → PyData) (l : List (Int × D)) (k : Int) : getW (kvD f l) (.inl k) = ((l.find? fun e => decide (e.1 = k)).map (·.2)).map fun d => W.d (f d) := by
  unfold getW kvD
  rw [List.find?_map]
  have : ((fun kv : Key × W => decide (kv.1 = Sum.inl k)) ∘ fun e : Int × D => (Sum.inl e.1, W.d (f e.2))) = fun e : Int × D => decide (e.1 = k) := funext fun e => by simp
  rw [this]
  cases l.find? fun e => decide (e.1 = k) <;> rfl
theorem drop_kvD {D : Type} (f : D → PyData) (l : List (Int × D)) (k : Int) : dropW (kvD f l) (.inl k) = kvD f (l.filter fun e => decide (e.1 ≠ k)) := by
  unfold dropW kvD
  rw [List.filter_map]
  congr 1
  refine List.filter_congr fun e _ => ?_
  simp
theorem put_kvD {D : Type} (f : D → PyData) (l : List (Int × D)) (k : Int) (c : D) : putW (kvD f l) (.inl k) (.d (f c)) = kvD f (if (l.any fun e => decide (e.1 = k)) = true then l.map (fun e => if e.1 = k then (e.1, c) else e) else l ++ [(k, c)]) := by
  have h : ((kvD f l).any fun kv => decide (kv.1 = (Sum.inl k : Key))) = l.any fun e => decide (e.1 = k) := by
    unfold kvD
    rw [List.any_map]
    congr 1
    exact funext fun e => by simp
  unfold putW
  rw [h]
  split
  · unfold kvD
    rw [List.map_map, List.map_map]
    refine List.map_congr_left fun e _ => ?_
    show (if (Sum.inl e.1 : Key) = Sum.inl k then _ else _) = _
    by_cases z : e.1 = k
    · simp [z]
    · simp [z]
  · unfold kvD
    rw [List.map_append]
    rfl
end Pd

/-! Pd20: len(set(ints)), list(d.items()), d.get(k, z), tuple * int, list.insert, x in a list of data. -/
namespace L2
open PySem PySem.Spec PyProof.Rows
theorem step_dedup_mem (σ : List Int) (k x : Int) : x ∈ step_dedup σ k ↔ x ∈ σ ∨ x = k := by
  unfold step_dedup
  split
  · rename_i h
    obtain ⟨y, hy, e⟩ := List.any_eq_true.mp h
    have : y = k := by simpa using e
    subst this
    exact ⟨.inl, fun z => z.elim id fun z => z ▸ hy⟩
  · simp
theorem step_dedup_nodup {σ : List Int} (k : Int) (h : σ.Nodup) : (step_dedup σ k).Nodup := by
  unfold step_dedup
  split
  · exact h
  · rename_i hn
    rw [List.nodup_append]
    refine ⟨h, by simp, fun a ha b hb z => hn ?_⟩
    have : b = k := by simpa using hb
    subst this
    subst z
    exact List.any_eq_true.mpr ⟨a, ha, by simp⟩
theorem dedup_all : ∀ (ns σ : List Int), σ.Nodup → (ns.foldl step_dedup σ).Nodup ∧ ∀ x, x ∈ ns.foldl step_dedup σ ↔ x ∈ σ ∨ x ∈ ns
  | [], σ, h => ⟨h, fun x => by simp⟩
  | n :: ns, σ, h => by
    obtain ⟨h1, h2⟩ := dedup_all ns (step_dedup σ n) (step_dedup_nodup n h)
    refine ⟨h1, fun x => ?_⟩
    rw [List.foldl_cons, h2, step_dedup_mem, List.mem_cons]
    constructor
    · rintro ((a | a) | a)
      · exact .inl a
      · exact .inr (.inl a)
      · exact .inr (.inr a)
    · rintro (a | a | a)
      · exact .inl (.inl a)
      · exact .inl (.inr a)
      · exact .inr a
theorem firstMet_all (ns : List Int) : (firstMet (fun i => ns.getD i 0) ns.length).Nodup ∧ ∀ x, x ∈ firstMet (fun i => ns.getD i 0) ns.length ↔ x ∈ ns := by
  have e : (List.range ns.length).map (fun i => ns.getD i 0) = ns := by
    apply List.ext_getElem
    · simp
    · intro i h1 h2
      simp [List.getElem?_eq_getElem h2]
  unfold firstMet
  rw [e]
  obtain ⟨h1, h2⟩ := dedup_all ns [] List.nodup_nil
  exact ⟨h1, fun x => by rw [h2]; simp⟩
section
variable {X : Cx}
/-- len(set(xs)), xs ints -/
def tLenSetA (K : PySem.W.Frag) (ta : TE) : TE := fun σ H Q => ta σ H fun x H1 => ∃ (l : Addr) (ns : List Int), x = V.ref l ∧ SqL K H1 l (ns.map V.int) ∧ ns.length < 64 ∧ ∀ ds : List Int, ds.Nodup → (∀ y, y ∈ ds ↔ y ∈ ns) → Q (.int ds.length) H1
theorem pe_lenSetA {a : Expr} {ta : TE} {p p2 q pos : Pos} (hc : X.calm = true) (hg : Gl X "len") (hm : X.mg "len" = none) (hg2 : Gl X "set") (hm2 : X.mg "set" = none) (ha : PE X a ta)
    (na : starEach [a] X.env = (false, eval a X.env) :: starEach [] X.env := by rfl) : PE X (.Call (.Name "len" p) [.Call (.Name "set" p2) [a] [] q] [] pos) (tLenSetA X.K ta) := by
  refine ⟨fun pins s σ H Q I h => ?_⟩
  refine Call_ (ld_blt I hg hm PySem.boot_len ?_)
  refine PyProof.Rows.callWith_builtin1 (PyProof.Rows.args_cons ?_ rfl) rfl rfl
  refine Call_ (ld_blt I hg2 hm2 PyProof.Rows.boot_set ?_)
  refine PyProof.Rows.callWith_type1 (PyProof.Rows.args_cons (thn (ha.run pins s σ H _ I h) fun v s1 ⟨x, H1, I1, r1, q1⟩ => PyProof.Rows.args_nil ?_) na) na rfl
  obtain ⟨l, ns, rfl, hq, h1, q1⟩ := q1
  cases r1
  obtain ⟨its, r, pl, hz⟩ := I1.list hq
  have hl : its.toArray.size = ns.length := by rw [List.size_toArray, ← r.length, List.length_map]
  refine call_set_list (I1.ok.hd hc) pl.isList (ns := ns) (by simpa using r.ints) (by unfold scanBound; omega) fun h' tk hS hk => ?_
  obtain ⟨f1, f2⟩ := firstMet_all ns
  have f3 : (firstMet (fun i => ns.getD i 0) ns.length).length ≤ ns.length := f1.length_le_of_subset fun x hx => (f2 x).mp hx
  rw [hl] at hS
  generalize firstMet (fun i => ns.getD i 0) ns.length = ds at *
  refine PyProof.Rows.args_nil ?_
  obtain ⟨o, es, ep, t, ho, hex, hd, _, _, _, hf, hn⟩ := hS
  have I2 : Inv X pins σ H1 { s1 with heap := h', toks := tk } := I1.kept fun b o e => hk b o (Heap.lt_size e) e
  refine call_len_set ho hex hd hf (by rw [hn] <;> omega) ⟨.int ds.length, H1, I2.tok _, ⟨_, by rw [hn]⟩, q1 ds f1 f2⟩
/-! ### t * 1 -/
theorem tuple_mul1 (l : Addr) (items : Array Value) (n : Nat) (dd : Option Addr) (sl : Array (Option Value)) (x : Int) (u : Tok) (c0 : (decide (x < -(2 ^ 63)) || decide (x ≥ 2 ^ 63)) = false) (c1 : (items.isEmpty || x == 1) = true) :
    Meets (Builtin.«tuple.__mul__» ⟨[.ref l, .int x u], []⟩) (fun _ R s => s.heap.get? l = some { cls := .type "tuple", dict := dd, data := .seq items n, slots := sl } ∧ R (.ok (.ret (Value.ref l))) s) :=
  .of_wp fun prog w A R s h => by
    obtain ⟨hp, g, d, tk, os⟩ := s
    obtain ⟨hl, h⟩ := h
    have f1 := AutoSeq1.idx_int
    wp_walk using wpAny_loadPart' hl
    repeat (first
      | (refine wpAny_ite_false (decide_eq_false (by rw [c0]; exact Bool.false_ne_true)) ?_; wp_walk using wpAny_loadPart' hl)
      | (refine wpAny_ite_true (decide_eq_true c1) ?_; wp_walk using wpAny_loadPart' hl))
    exact ⟨_, rfl, h⟩
def rRepT1 (K : PySem.W.Frag) : R2 := fun x y H Q => ∃ l xs, x = .ref l ∧ y = .int 1 ∧ SqT K H l xs ∧ Q (.ref l) H
theorem op_repT1 : OpR X (binaryOp .Mult) (rRepT1 X.K) := by
  intro pins s σ H x y v u Q I rx ry h
  obtain ⟨l, xs, rfl, rfl, hT, q⟩ := h
  cases rx
  obtain ⟨t, rfl⟩ := ry
  obtain ⟨its, r, ⟨⟨cls, dd, data, sl⟩, ho, hc, n, hd⟩, hs⟩ := I.tuple hT
  simp only at hc hd
  subst hc hd
  refine wpAny_binaryOp_repeat_ref (T := "tuple") (U := "int") (by decide) ⟨_, ho, rfl⟩ (fun s' => typeIs_int s' 1 t) noFill_tuple_mul F.fills_int_mul F.slot_int_rmul repeat_tuple F.slot_int_index.lookup
    (call_meets F.slot_int_rmul (typeIs_int s 1 t) F.entry_int_rmul (F.args_int_rmul_2 _ _) (int_rmul_tuple 1 t l its.toArray n dd sl)
      ⟨ho, rfl, ⟨_, ho, rfl⟩, call_meets F.slot_tuple_mul ⟨_, ho, rfl⟩ F.entry_tuple_mul (F.args_tuple_mul_2 _ _) (tuple_mul1 l its.toArray n dd sl 1 t rfl (by simp)) ⟨ho, ?_⟩⟩)
  exact ⟨.ref l, H, I, rfl, q⟩
end
end L2
namespace Pd
open PySem PySem.Spec PyProof.Rows L2
open Evl (Ex)
section
variable {X : Cx}
/-- t * n, n from 1 -/
def rRepTU (K : PySem.W.Frag) : R2 := fun x y H Q => rRepT1 K x y H Q ∨ rRepT K x y H Q
theorem op_repTU : OpR X (binaryOp .Mult) (rRepTU X.K) := orR op_repT1 op_repT
/-- x in xs: flat items, texts, data -/
def rInDD (K : PySem.W.Frag) (neg : Bool) : R2 := fun x y H Q => ∃ d ds, Dp K H x d ∧ Dp K H y (.list ds) ∧ SeqAt.shaped d = true ∧ SeqAt.shaped (.list ds) = true ∧ Q (.bl (if neg then !ds.any fun z => PyData.eqv z d else ds.any fun z => PyData.eqv z d)) H
theorem op_inDD (hu : X.A.units + 65 < cLine) : OpR X (compareOp .In) (rInDD X.K false) := op_inD hu
theorem op_niDD (hu : X.A.units + 65 < cLine) : OpR X (compareOp .NotIn) (rInDD X.K true) := op_notInD hu
end
variable {K : PySem.W.Frag} {Γ : G} {μ : Mu} {R : W → Mu → Prop}
theorem o_repT {x : W} {ws : List W} {k : Int} (hx : TW x ws) (h0 : ws ≠ []) (hk : 1 ≤ k ∧ k ≤ 1000) (hl : ws.length ≤ 1000) (q : NT (List.replicate k.toNat ws).flatten μ R) : AO K (rRepTU K) x (.d (.int k)) μ R := fun A M H v u mo rv ru Q h => by
  obtain ⟨a, vs, rfl, ha, ra⟩ := hx.get rv
  rw [vr_int ru]
  by_cases e : k = 1
  · subst e
    rw [show (List.replicate (1 : Int).toNat ws).flatten = ws by simp] at q
    exact .inl ⟨a, vs, rfl, rfl, Evl.ex_t vw_le ha, q.same mo ha ra h⟩
  · have hn : vs ≠ [] := fun z => by
      subst z
      cases ra
      exact h0 rfl
    have rr : ∀ m : Nat, VRs K (vw A M μ H) M (List.replicate m vs).flatten (List.replicate m ws).flatten := fun m => by
      induction m with
      | zero => exact .nil
      | succ m ih =>
        rw [List.replicate_succ, List.replicate_succ, List.flatten_cons, List.flatten_cons]
        exact ra.append ih
    refine .inr ⟨a, k, vs, rfl, rfl, Evl.ex_t vw_le ha, hn, by omega, hk.2, by rw [ra.length]; exact hl, fun p hp => ?_⟩
    obtain ⟨w, m2, e2, r2, hR⟩ := q.use mo (rr _) hp
    exact h M _ _ w μ m2 e2 r2 hR
theorem ao_inD {x y : W} {d : PyData} {ds : List PyData} {neg : Bool} (hx : Rs μ x d) (hy : Rs μ y (.list ds)) (sd : SeqAt.shaped d = true) (se : SeqAt.shaped (.list ds) = true) (k : R (.d (.bool (if neg then !ds.any fun z => PyData.eqv z d else ds.any fun z => PyData.eqv z d))) μ) : AO K (rInDD K neg) x y μ R := fun A M H v u mo rv ru Q h =>
  ⟨d, ds, hx.dp mo rv, hy.dp mo ru, sd, se, h M H _ _ μ mo Eff.refl (.d (.bl _)) k⟩
/-- len(set(xs)) -/
theorem ax_lenSet {ta : TE} (h : AX K ta Γ μ fun x μ1 => ∃ ns : List Int, LW μ1 x (wInts ns) ∧ ns.length < 64 ∧ ∀ ds : List Int, ds.Nodup → (∀ y, y ∈ ds ↔ y ∈ ns) → R (.d (.int ds.length)) μ1) : AX K (tLenSetA K ta) Γ μ R := fun A M σ H c Q q =>
  h A M σ H c _ fun M1 H1 v x μ1 mo1 e1 r1 ⟨ns, hx, hl, hk⟩ => by
    obtain ⟨a, vs, rfl, hs, rs⟩ := hx.get mo1 r1
    have e := vrs_int rs
    subst e
    exact ⟨a, ns, rfl, hs, hl, fun ds d1 d2 => q M1 H1 _ _ μ1 mo1 e1 (.d (.int _)) (hk ds d1 d2)⟩
/-- d.get(y, z) -/
theorem ax_dget2 {td ty tx : TE} (h : AX K td Γ μ fun x μ1 => ∃ k kvs0, x = .m k ∧ DkAt μ1 k kvs0 ∧ AX K ty Γ μ1 fun y μ2 => AX K tx Γ μ2 fun z μ3 => ∃ kvs key, DkAt μ3 k kvs ∧ y = .d (keyD key) ∧ R ((getW kvs key).getD z) μ3) : AX K (tDGet2 td ty tx) Γ μ R := fun A M σ H c Q q =>
  h A M σ H c _ fun M1 H1 x wx μ1 mo1 e1 r1 ⟨k, kvs0, ex, hk0, h1⟩ => by
    subst ex
    obtain ⟨a, us0, rfl, hm0, rd0, rk0⟩ := dk_get mo1 r1 hk0
    refine ⟨a, rfl, dk_isD mo1 r1 hk0, h1 A M1 σ H1 (c.eff e1 mo1) _ fun M2 H2 y wy μ2 mo2 e2 r2 h2 => h2 A M2 σ H2 ((c.eff e1 mo1).eff e2 mo2) _ fun M3 H3 z wz μ3 mo3 e3 r3 ⟨kvs, key, hk, ey, q1⟩ => ?_⟩
    subst ey
    obtain ⟨b, us, eb, hm, ea, rk⟩ := dk_get mo3 ((r1.mono e2.ex e2.pre).mono e3.ex e3.pre) hk
    cases eb
    have ek := vr_key (r2.mono e3.ex e3.pre)
    refine ⟨valV us key, ek ▸ .inl ⟨us, key, ea, rfl, rfl⟩, ?_⟩
    cases e : getW kvs key with
    | none =>
      rw [(krs_get key rk).1 e]
      rw [e] at q1
      exact q M3 H3 z wz μ3 mo3 ((e1.trans e2).trans e3) r3 q1
    | some w =>
      obtain ⟨v', hv', rv⟩ := (krs_get key rk).2 w e
      rw [hv']
      rw [e] at q1
      exact q M3 H3 v' w μ3 mo3 ((e1.trans e2).trans e3) rv q1
/-- list(d.items()) -/
theorem vr_pair' {Hv : Hp} {M : List Addr} {T : Addr} {x y : V} {a b : W} (hs : SqT K Hv T [x, y]) (rx : VR K Hv M x a) (ry : VR K Hv M y b) : VR K Hv M (.ref T) (pairW a b) := by
  have g : VRs K Hv M [x, y] [a, b] := .cons rx (.cons ry .nil)
  cases a with
  | d a =>
    cases b with
    | d b => exact .d (.tup hs (VRs.dp (ds := [a, b]) g))
    | m _ => exact .t hs g
    | t _ => exact .t hs g
    | f _ => exact .t hs g
    | k _ => exact .t hs g
  | m _ => exact .t hs g
  | t _ => exact .t hs g
  | f _ => exact .t hs g
  | k _ => exact .t hs g
theorem paired_vrs {A : Addr → Prop} {H H' : Hp} {M : List Addr} (mo : MOk K A M H μ) (e : Ex H H') : ∀ {ts : List Addr} {us : List (Key × V)} {kvs : List (Key × W)}, (∀ t ∈ ts, H t = none) → PySem.Paired (fun (t : Addr) (q : Key × V) => H' t = some (.tup [kV q.1, q.2])) ts us → KRs K (vw A M μ H) M us kvs →
    VRs K (vw A M μ H') M (ts.map V.ref) (kvs.map fun kv => pairW (.d (keyD kv.1)) kv.2)
  | _, _, [], _, .nil, _ => .nil
  | _, _, _ :: _, _, .nil, h => h.elim
  | _, _, [], _, .cons _ _, h => h.elim
  | t :: ts, u :: us, kv :: kvs, hn, .cons h1 h2, hk => by
    obtain ⟨k1, k2, k3⟩ := hk
    refine .cons ?_ (paired_vrs mo e (fun t ht => hn t (List.mem_cons_of_mem _ ht)) h2 k3)
    refine vr_pair' (SqT.of (vw_of (mo.ne_hid (hn t (by simp))) h1)) ?_ (k2.mono (vw_ex e) (Pre.refl _))
    rw [← k1]
    exact key_vr _
theorem ax_listItems {td : TE} (h : AX K td Γ μ fun x μ1 => ∃ k kvs, x = .m k ∧ μ1[k]? = some (some (.dk kvs)) ∧ NL (kvs.map fun kv => pairW (.d (keyD kv.1)) kv.2) μ1 R) : AX K (LiI.tListItems td) Γ μ R := fun A M σ H c Q q =>
  h A M σ H c _ fun M1 H1 x wx μ1 mo1 e1 r1 ⟨k, kvs, ex, hk, hN⟩ => by
    subst ex
    obtain ⟨a, us, rfl, hm, ea, rk⟩ := dk_own mo1 r1 hk
    refine ⟨a, us, rfl, ea, fun H' p ts eX hp hts hpn hl hP => ?_⟩
    have pne : ∀ b o, H1 b = some o → b ≠ p := fun b o z w => by
      rw [w, hp] at z
      cases z
    have eD : Ex H1 (delH H' p) := fun b o z => by
      unfold delH
      rw [if_neg (pne b o z)]
      exact eX b o z
    have dp : delH H' p p = none := by
      unfold delH
      rw [if_pos rfl]
    have hP' : PySem.Paired (fun (t : Addr) (q : Key × V) => delH H' p t = some (.tup [kV q.1, q.2])) ts us := by
      have : ∀ {ts : List Addr} {us : List (Key × V)}, p ∉ ts → PySem.Paired (fun (t : Addr) (q : Key × V) => H' t = some (.tup [kV q.1, q.2])) ts us → PySem.Paired (fun (t : Addr) (q : Key × V) => delH H' p t = some (.tup [kV q.1, q.2])) ts us := fun {ts us} hn hh => by
        induction hh with
        | nil => exact .nil
        | cons h1 h2 ih =>
          refine .cons ?_ (ih fun z => hn (List.mem_cons_of_mem _ z))
          show delH H' p _ = _
          unfold delH
          rw [if_neg fun z => hn (by rw [z]; simp)]
          exact h1
      exact this hpn hP
    have mo2 : MOk K A M1 (delH H' p) μ1 := mo1.ex eD
    obtain ⟨M2, μ2, w, m2, e2, r2, hR⟩ := hN.use mo2 (paired_vrs mo1 eD hts hP' rk) dp
    rw [delH_upd hl] at m2 e2 r2
    exact q M2 H' _ w μ2 m2 ((e1.trans (Eff.of_ex eD)).trans e2) r2 hR
def rInsert : V → List V → Hp → VK → Prop := fun x vs H Q => ∃ (l : Addr) (xs : List V) (i : Int) (y : V), x = .ref l ∧ vs = [.int i, y] ∧ H l = some (.lst xs) ∧ xs.length < sizeLine ∧ 0 ≤ i ∧ i < 2 ^ 63 ∧
    Q .non (upd H l (.lst (xs.take i.toNat ++ [y] ++ xs.drop i.toNat)))
theorem mt_insertU {X : Cx} : MtR X "list.insert" rInsert := mt_insert
theorem am_insert {k : Nat} {ws : List W} {w : W} {i : Int} (hk : μ[k]? = some (some (.lst ws))) (hl : ws.length < sizeLine) (hi : 0 ≤ i ∧ i < 2 ^ 63) (q : R (.d .none) (μ.set k (some (.lst (ws.take i.toNat ++ [w] ++ ws.drop i.toNat))))) : AM K rInsert (.m k) [.d (.int i), w] μ R := fun A M H v vs mo rv rs Q h => by
  obtain ⟨a, us, rfl, hm, e, ru⟩ := cell_get mo rv hk
  cases rs with
  | cons ri rs =>
    cases rs with
    | cons rw rn =>
      cases rn
      rename_i yv
      rw [vr_int ri]
      have r' := ((ru.take i.toNat).snoc rw).append (ru.drop i.toNat)
      refine ⟨a, us, i, _, rfl, rfl, e, by rw [ru.length]; exact hl, hi.1, hi.2, ?_⟩
      have mo' : MOk K A M (upd H a (.lst (us.take i.toNat ++ [yv] ++ us.drop i.toNat))) (μ.set k (some (.lst (ws.take i.toNat ++ [w] ++ ws.drop i.toNat)))) := mo.write hm hk ⟨_, rfl, r'⟩
      have e' : Eff A M μ H M (μ.set k (some (.lst (ws.take i.toNat ++ [w] ++ ws.drop i.toNat)))) (upd H a (.lst (us.take i.toNat ++ [yv] ++ us.drop i.toNat))) := Eff.write mo hm hk
      exact h M _ _ _ _ mo' e' (.d .non) q
end Pd

/-! Pd21: == of data without bools: equality. -/
namespace Pd
open PySem PySem.Spec PyProof.Rows L2
open Evl (Ex)
mutual
/-- data of ints, texts, None, lists and tuples -/
def pl : PyData → Bool
  | .none | .int _ | .str _ => true
  | .list xs | .tuple xs => pls xs
  | .bool _ | .dict _ => false
def pls : List PyData → Bool
  | [] => true
  | x :: xs => pl x && pls xs
end
mutual
theorem eqv_pl : ∀ d e : PyData, pl d = true → pl e = true → (PyData.eqv d e = true ↔ d = e)
  | .none, e, _, he => by cases e <;> simp [PyData.eqv, pl] at *
  | .int i, e, _, he => by cases e <;> simp [PyData.eqv, pl] at *
  | .str i, e, _, he => by cases e <;> simp [PyData.eqv, pl] at *
  | .list xs, e, hd, he => by
    cases e with
    | list ys =>
      have := eqvAll_pl xs ys (by simpa [pl] using hd) (by simpa [pl] using he)
      simpa [PyData.eqv] using this
    | _ => simp [PyData.eqv, pl] at *
  | .tuple xs, e, hd, he => by
    cases e with
    | tuple ys =>
      have := eqvAll_pl xs ys (by simpa [pl] using hd) (by simpa [pl] using he)
      simpa [PyData.eqv] using this
    | _ => simp [PyData.eqv, pl] at *
  | .bool _, _, hd, _ => by simp [pl] at hd
  | .dict _, _, hd, _ => by simp [pl] at hd
theorem eqvAll_pl : ∀ xs ys : List PyData, pls xs = true → pls ys = true → (PyData.eqvAll xs ys = true ↔ xs = ys)
  | [], [], _, _ => by simp [PyData.eqvAll]
  | [], _ :: _, _, _ => by simp [PyData.eqvAll]
  | _ :: _, [], _, _ => by simp [PyData.eqvAll]
  | x :: xs, y :: ys, hx, hy => by
    have hx' : pl x = true ∧ pls xs = true := by simpa [pls] using hx
    have hy' : pl y = true ∧ pls ys = true := by simpa [pls] using hy
    have h1 := eqv_pl x y hx'.1 hy'.1
    have h2 := eqvAll_pl xs ys hx'.2 hy'.2
    simp [PyData.eqvAll, h1, h2]
end
/-- data that == compares, of a depth -/
def Eqb (d : PyData) (n : Nat) : Prop := pl d = true ∧ d.canLay0 = true ∧ d.depth ≤ n
def Eqbs (ds : List PyData) (n : Nat) : Prop := pls ds = true ∧ PyData.canLayAll0 ds = true ∧ PyData.depthAll ds ≤ n
theorem Eqb.le {d : PyData} {a b : Nat} (h : Eqb d a) (l : a ≤ b) : Eqb d b := ⟨h.1, h.2.1, Nat.le_trans h.2.2 l⟩
theorem Eqbs.nil : Eqbs [] 0 := ⟨rfl, rfl, Nat.le_refl _⟩
theorem Eqbs.cons {d : PyData} {ds : List PyData} {a b : Nat} (h : Eqb d a) (k : Eqbs ds b) : Eqbs (d :: ds) (max a b) := by
  refine ⟨by simp [pls, h.1, k.1], by simp [PyData.canLayAll0, h.2.1, k.2.1], ?_⟩
  have := h.2.2
  have := k.2.2
  simp only [PyData.depthAll]
  omega
theorem Eqb.cons_ {d : PyData} {ds : List PyData} {a b : Nat} (h : Eqb d a) (k : Eqbs ds b) : Eqbs (d :: ds) (max a b) := Eqbs.cons h k
theorem Eqbs.le {ds : List PyData} {a b : Nat} (h : Eqbs ds a) (l : a ≤ b) : Eqbs ds b := ⟨h.1, h.2.1, Nat.le_trans h.2.2 l⟩
theorem Eqbs.of {a : Nat} : ∀ {ds : List PyData}, (∀ d ∈ ds, Eqb d a) → Eqbs ds a
  | [], _ => Eqbs.nil.le (Nat.zero_le _)
  | d :: ds, h => (Eqbs.cons (h d (by simp)) (Eqbs.of fun x hx => h x (List.mem_cons_of_mem _ hx))).le (by omega)
theorem Eqbs.tup {ds : List PyData} {a : Nat} (h : Eqbs ds a) : Eqb (.tuple ds) (a + 1) := ⟨h.1, h.2.1, by
  have := h.2.2
  simp only [PyData.depth]
  omega⟩
theorem Eqbs.lst {ds : List PyData} {a : Nat} (h : Eqbs ds a) : Eqb (.list ds) (a + 1) := ⟨h.1, h.2.1, by
  have := h.2.2
  simp only [PyData.depth]
  omega⟩
theorem eqb_none : Eqb .none 0 := ⟨rfl, rfl, Nat.le_refl _⟩
theorem eqb_int (i : Int) : Eqb (.int i) 0 := ⟨rfl, rfl, Nat.le_refl _⟩
theorem eqb_str {x : Str} (h : (PyData.str x).canLay0 = true) : Eqb (.str x) 0 := ⟨rfl, h, Nat.le_refl _⟩
theorem eqb_ints (ns : List Int) : Eqbs (ns.map PyData.int) 0 := Eqbs.of fun d hd => by
  obtain ⟨i, _, rfl⟩ := List.mem_map.mp hd
  exact eqb_int i
theorem Eqb.sh {d : PyData} {n : Nat} (h : Eqb d n) (l : n ≤ 64) : SeqAt.shaped d = true := by
  unfold SeqAt.shaped
  rw [h.2.1, decide_eq_true (Nat.le_trans h.2.2 l)]
  rfl
section
variable {K : PySem.W.Frag} {μ : Mu} {R : W → Mu → Prop}
theorem o_eqP {x y : W} {d e : PyData} {n m : Nat} (hx : Rs μ x d) (hy : Rs μ y e) (sd : Eqb d n) (se : Eqb e m) (hn : n ≤ 64) (hm : m ≤ 64) (k : ∀ b : Bool, (b = true ↔ d = e) → R (.d (.bool b)) μ) : AO K (rEqU K) x y μ R :=
  o_eqD hx hy (sd.sh hn) (se.sh hm) (k _ (eqv_pl d e sd.1 se.1))
theorem o_neP {x y : W} {d e : PyData} {n m : Nat} (hx : Rs μ x d) (hy : Rs μ y e) (sd : Eqb d n) (se : Eqb e m) (hn : n ≤ 64) (hm : m ≤ 64) (k : ∀ b : Bool, (b = true ↔ d = e) → R (.d (.bool (!b))) μ) : AO K (rNeU K) x y μ R :=
  o_neD hx hy (sd.sh hn) (se.sh hm) (k _ (eqv_pl d e sd.1 se.1))
/-- x in xs, data without bools -/
theorem o_inP {x y : W} {d : PyData} {ds : List PyData} {neg : Bool} {n m : Nat} (hx : Rs μ x d) (hy : Rs μ y (.list ds)) (sd : Eqb d n) (se : Eqbs ds m) (hn : n ≤ 64) (hm : m < 64) (k : ∀ b : Bool, (b = true ↔ d ∈ ds) → R (.d (.bool (if neg then !b else b))) μ) : AO K (rInDD K neg) x y μ R := by
  refine ao_inD hx hy (sd.sh hn) (se.lst.sh hm) (k _ ?_)
  rw [List.any_eq_true]
  have hp : ∀ z ∈ ds, pl z = true := by
    have : ∀ {ds : List PyData}, pls ds = true → ∀ z ∈ ds, pl z = true := by
      intro ds
      induction ds with
      | nil => intro _ z hz; cases hz
      | cons a l ih =>
        intro h z hz
        have h' : pl a = true ∧ pls l = true := by simpa [pls] using h
        rcases List.mem_cons.mp hz with rfl | hz
        · exact h'.1
        · exact ih h'.2 z hz
    exact this se.1
  constructor
  · rintro ⟨z, hz, e⟩
    rw [← (eqv_pl z d (hp z hz) sd.1).mp e]
    exact hz
  · intro h
    exact ⟨d, h, (eqv_pl d d sd.1 sd.1).mpr rfl⟩
end
end Pd

/-! Pd22: a lambda with one parameter and captured names, as the key of sorted. -/
namespace L2
open PySem PySem.Spec PyProof.Rows LamX NdefX
open PySem.W (EachIs)
section
variable {X : Cx} {pins : List (Addr × Obj)} {σ : L2.St} {H : Hp} {s : Shared} {A : Around} {k : Nat} {f : Addr} {F : NF} {body : Expr} {pm ctv : Value} {N fr : List Str} {a : Str} {ws : List (Option V)} {t : TE}
/-- the lambda at f, called with one value -/
theorem lam_call {u : Value} {v : V} {Q : VK} (I : Inv X pins σ H s) (hA : A.frames = some X.stack) (hr : Room (k + 1) A) (S : NScope N [a] fr F.scope)
    (ho : s.heap.get? f = some (PySem.W.kla_obj F.name F.qual F.params body F.scope F.cl pm F.c ctv)) (hc : H F.c = some (CodeO F.c F.qual)) (C : CellsAt F.cl fr ws s.heap H)
    (hb : bindArgs (PySem.W.kla_fn F.name F.qual F.params body F.scope F.cl pm (.ref F.c) ctv) ⟨[u], []⟩ = pure ([a].zip [u])) (r : RelV v u)
    (hbody : Room k (A.deeper (envF F f s.heap.objs.size)) → PE (ncx CX0 X.prog X.w X.K X.mg X.base N F f A X.stack s H E0) body t) (ht : t (startF N [v] ws) H Q) :
    codeAny (model X.prog X.w) A (.call (.ref f) ⟨[u], []⟩) (CR CX0 X.stack X.prog X.w H s Q E0) s := by
  have e0 := I.env0
  have e1 : Env0 X.prog X.w X.K X.mg X.base A X.stack s H := ⟨hA, e0.mod, e0.bs, e0.bsz, e0.funs, e0.frf, e0.hok, e0.bare⟩
  have nl : s.heap.NoLimit := e0.mod.nolimit.keeps fun b o e => (e0.bs b o e).1
  refine PySem.W.kla_callFunE hr.depth ho rfl S.co S.gen rfl (codeO_at e0.hok hc) ?_
  rw [hb]
  refine wpAny_pure (wpAny_newFunctionEnv S.nocell (fun ⟨n, _⟩ hy => S.par n (List.of_mem_zip hy).1) (fun g hns hsb => ⟨nl.fresh _ hsb, ?_⟩) S.kind)
  show codeAny _ _ (.expr body (envF F f s.heap.objs.size)) _ _
  have kp : ∀ b o, s.heap.get? b = some o → g.get? b = some o := fun b o e => hsb.extBut b o (Nat.ne_of_lt (Heap.lt_size e)) (Heap.get?_push_of_some _ e)
  have J : Inv (ncx CX0 X.prog X.w X.K X.mg X.base N F f A X.stack s H E0) [] (startF N [v] ws) H { s with heap := g, toks := s.toks + ([a].zip [u]).length } := inv_startN S hr.hd e1 rfl (.cons r .nil) C hns kp
  refine PySem.W.kla_codeExpr (wpAny_mono ((hbody (hr.deeper _)).run [] _ _ H Q J ht) (fun x s' hq => ?_) fun _ _ hq => hq)
  obtain ⟨y, H', J', rv, q⟩ := hq
  exact ⟨y, H', J'.os, J'.bare, J'.base, J'.hok, rv, q⟩
end
/-- a function's frame whose one parameter is a cell of its own -/
theorem lam_newenv {M : Model} {A : Around} {E : Value → Shared → Prop} {s : Shared} {scope : Scope} {g bi : Addr} {cl : List (Str × Addr)} {a qual : Str} {u code : Value} {func : Option Addr} {Q : Env → Shared → Prop} (hk : scope.kind = .function) (ha : scope.names.lookup a = some .cell)
    (one : ∀ n acc, cellsFrom n scope.names acc = (a, n) :: acc)
    (hQ : ∀ h', (∀ b o, s.heap.get? b = some o → h'.get? b = some o) → h'.Ns s.heap.objs.size (fun _ => none) → h'.IsCell (s.heap.objs.size + 1) (some u) → Q (newEnv scope s.heap.objs.size g ((a, s.heap.objs.size + 1) :: cl) qual func code none bi) { s with heap := h' }) :
    wpAny M A (newFunctionEnv scope g cl [(a, u)] qual func code none bi) Q E s := by
  simp only [newFunctionEnv, Option.isSome_none, Bool.false_eq_true, if_false]
  have hsz : (s.heap.push ({ cls := .type "frame", data := .dict #[] } : Obj)).objs.size = s.heap.objs.size + 1 := Heap.size_push ..
  refine wpAny_bind (wpAny_alloc (wpAny_bind (wpAny_layCells _ (fun _ kd _ => by cases e : kd == NameKind.cell <;> simp [e]) _ _ _ _ ?_)))
  show wpAny _ _ _ _ _ { s with heap := pushCells (s.heap.push { cls := .type "frame", data := .dict #[] }) scope.names }
  have ok := cellsFrom_ok scope.names (s.heap.push { cls := .type "frame", data := .dict #[] }) (s.heap.objs.size + 1) [] ⟨fun _ _ z => (nomatch z), List.Pairwise.nil⟩ (Nat.le_of_eq hsz.symm)
  rw [hsz, one] at ok
  obtain ⟨hc, _⟩ := ok.empty a (s.heap.objs.size + 1) (by simp)
  show wpAny _ _ (do
    let _ ← forIn [(a, u)] PUnit.unit _
    pure _) _ _ _
  rw [List.forIn_cons, one]
  rw [show ({ s with heap := s.heap.push { cls := .type "frame", data := .dict #[] } } : Shared).heap.objs.size = s.heap.objs.size + 1 from hsz]
  have hne : s.heap.objs.size ≠ s.heap.objs.size + 1 := by omega
  have hns : (pushCells (s.heap.push { cls := .type "frame", data := .dict #[] }) scope.names).Ns s.heap.objs.size (fun _ => none) := (Heap.Ns.new s.heap (.type "frame")).keeps (pushCells_keeps _ _)
  have kp : ∀ b o, s.heap.get? b = some o → (pushCells (s.heap.push { cls := .type "frame", data := .dict #[] }) scope.names).get? b = some o := fun b o e => pushCells_keeps _ _ b o (Heap.get?_push_of_some _ e)
  generalize pushCells (s.heap.push { cls := .type "frame", data := .dict #[] }) scope.names = h1 at hc hns kp ⊢
  have hlk : ((a, s.heap.objs.size + 1) :: cl).lookup a = some (s.heap.objs.size + 1) := by simp
  refine wpAny_bind (wpAny_bind (wpAny_bind (wpAny_storeName_cell (c := s.heap.objs.size + 1) hk (by show Env.kindOf _ _ = _; unfold Env.kindOf; exact ha) hlk hc fun h' hc' hs' => ?_)))
  refine wpAny_pure (wpAny_pure (wpAny_pure (hQ h' (fun b o e => ?_) (hns.sameBut hs' hne) hc')))
  exact (hs'.2 b (Nat.ne_of_lt (Nat.lt_succ_of_lt (Heap.lt_size e)))).trans (kp b o e)
/-- a lambda's names: its parameter, a cell of its own; the captured ones; what its comprehensions bind -/
structure LScope (N : List Str) (a : Str) (fr : List Str) (sc : Scope) : Prop where
  kind : sc.kind = .function
  co : sc.isCoroutine = false
  gen : sc.isGenerator = false
  nd : N.Nodup
  pre : N.take (1 + fr.length) = a :: fr
  par : sc.names.lookup a = some .cell
  one : ∀ n acc, cellsFrom n sc.names acc = (a, n) :: acc
  cel : ∀ y ∈ sc.names, y.2 = .cell → y.1 = a
  free : ∀ y ∈ sc.names, y.2 = .free → y.1 ∈ fr
  frk : ∀ x ∈ fr, sc.names.lookup x = some .free
abbrev ownF (F : NF) (a : Str) (n : Addr) : NF := { F with cl := (a, n) :: F.cl }
section
variable {CX : CXT} {P : Program} {w : World} {K : PySem.W.Frag} {mg : Str → Option Value} {base : Heap} {N fr : List Str} {F : NF} {f : Addr} {A : Around} {outer : List Env} {s : Shared} {H : Hp} {E : XK} {a : Str} {u : Value} {v : V} {ws : List (Option V)}
theorem inv_startL {g : Heap} {tk : Nat} (S : LScope N a fr F.scope) (hd : A.handled = none) (e0 : Env0 P w K mg base A outer s H) (r : RelV v u) (C : CellsAt F.cl fr ws s.heap H) (hns : g.Ns s.heap.objs.size fun _ => none)
    (hc : g.IsCell (s.heap.objs.size + 1) (some u)) (kp : ∀ b o, s.heap.get? b = some o → g.get? b = some o) : Inv (ncx CX P w K mg base N (ownF F a (s.heap.objs.size + 1)) f A outer s H E) [] (startF N [v] ws) H { s with heap := g, toks := tk } := by
  have hlt : ∀ y c, F.cl.lookup y = some c → c < s.heap.objs.size := fun y c e => by
    obtain ⟨_, w, z⟩ := C.all y c e
    exact z.lt
  have look : ∀ {y c}, ((a, s.heap.objs.size + 1) :: F.cl).lookup y = some c → (y = a ∧ c = s.heap.objs.size + 1) ∨ (y ≠ a ∧ F.cl.lookup y = some c) := fun {y c} e => by
    rw [List.lookup_cons] at e
    cases q : y == a with
    | true =>
      rw [q] at e
      exact .inl ⟨beq_iff_eq.mp q, (Option.some.inj e).symm⟩
    | false =>
      rw [q] at e
      exact .inr ⟨fun z => by rw [z] at q; simp at q, e⟩
  have lookO : ∀ {y c}, y ≠ a → F.cl.lookup y = some c → ((a, s.heap.objs.size + 1) :: F.cl).lookup y = some c := fun {y c} hn e => by
    rw [List.lookup_cons, show (y == a) = false from beq_eq_false_iff_ne.mpr hn]
    exact e
  have lookA : ((a, s.heap.objs.size + 1) :: F.cl).lookup a = some (s.heap.objs.size + 1) := by simp
  have hpl : 1 + fr.length ≤ N.length := by
    have q := congrArg List.length S.pre
    rw [List.length_take, List.length_cons] at q
    omega
  have anf : a ∉ fr := fun z => by
    have q := S.nd.sublist (List.take_sublist (1 + fr.length) N)
    rw [S.pre] at q
    exact (List.nodup_cons.mp q).1 z
  have cellK : ∀ {c : Addr} {x : Option Value}, s.heap.IsCell c x → g.IsCell c x := fun {c x} ⟨o, ho, hd⟩ => ⟨o, kp _ _ ho, hd⟩
  have noA : ∀ b : Addr, b ∉ (ncx CX P w K mg base N (ownF F a (s.heap.objs.size + 1)) f A outer s H E).ex := fun b z => absurd (show b ∈ ([] : List Addr) from z) (by simp)
  refine ⟨⟨e0.mod, S.kind, rfl, rfl, Nat.le_refl _, fun x y c e1 e2 => ?_, fun y hy => ?_, fun y c z _ => ?_, fun _ => hd, Around.frames_deeper e0.frames, .inr ⟨rfl, rfl⟩, fun b z => absurd z (noA b), e0.bs, e0.bsz, fun b _ _ => noA b, fun b z => absurd z (noA b), e0.funs, e0.frf⟩,
    rfl, e0.bare, Un.kept kp, ⟨_, hns, fun i y x e1 e2 e3 => ?_⟩, fun y c e => ?_, e0.hok.fresh (Nat.le_refl _), fun y c e => ?_, fun q hq => absurd (show q ∈ ([] : List (Addr × Obj)) ++ [] from hq) (by simp), e0.hok.kept kp, ?_⟩
  · rcases look e1 with ⟨x1, c1⟩ | ⟨_, x1⟩ <;> rcases look e2 with ⟨y1, c2⟩ | ⟨_, y1⟩
    · rw [x1, y1]
    · have z := hlt y c y1
      rw [c1] at z
      exact absurd (Nat.lt_trans (Nat.lt_succ_self _) z) (Nat.lt_irrefl _)
    · have z := hlt x c x1
      rw [c2] at z
      exact absurd (Nat.lt_trans (Nat.lt_succ_self _) z) (Nat.lt_irrefl _)
    · exact C.inj x y c x1 y1
  · rcases (show F.scope.names.lookup y = some .cell ∨ F.scope.names.lookup y = some .free from hy) with hy | hy
    · have e := S.cel _ (PySem.mem_of_lookup hy) rfl
      have e : y = a := e
      exact ⟨_, by rw [e]; exact lookA⟩
    · have hm := S.free _ (PySem.mem_of_lookup hy) rfl
      obtain ⟨i, hi⟩ := List.mem_iff_getElem?.mp hm
      obtain ⟨c, hc, _⟩ := C.has i y hi
      exact ⟨c, lookO (fun z => anf (by rw [← z]; exact hm)) hc⟩
  · have z : false = true := z
    cases z
  · have e1 : N[i]? = some y := e1
    have clen := C.len
    unfold startF at e2
    have hq : ∀ j, j < 1 + fr.length → N[j]? = (a :: fr)[j]? := fun j hj => by rw [← S.pre, List.getElem?_take_of_lt hj]
    cases i with
    | zero =>
      rw [hq 0 (by omega)] at e1
      cases e1
      have e2 : x = v := by simpa using e2.symm
      subst e2
      exact ⟨u, r, .inr ⟨.inl S.par, _, lookA, hc⟩⟩
    | succ i =>
      have e2 : (ws ++ List.replicate (N.length - 1 - ws.length) none)[i]? = some (some x) := by simpa using e2
      by_cases h2 : i < fr.length
      · rw [hq (i + 1) (by omega), List.getElem?_cons_succ] at e1
        rw [List.getElem?_append_left (by omega)] at e2
        have hm := List.mem_of_getElem? e1
        obtain ⟨c, hcl, hv⟩ := C.has i y e1
        obtain ⟨u', ru, hu⟩ := hv x e2
        exact ⟨u', ru, .inr ⟨.inr (S.frk y hm), c, lookO (fun z => anf (by rw [← z]; exact hm)) hcl, cellK hu⟩⟩
      · rw [List.getElem?_append_right (by omega), List.getElem?_replicate] at e2
        split at e2 <;> cases e2
  · rcases look e with ⟨_, c1⟩ | ⟨_, x1⟩
    · rw [c1]
      exact ⟨_, hc⟩
    · obtain ⟨x, z⟩ := (C.all y c x1).2
      exact ⟨x, cellK z⟩
  · rcases look e with ⟨_, c1⟩ | ⟨_, x1⟩
    · rw [c1]
      exact e0.hok.fresh (Nat.le_succ _)
    · exact (C.all y c x1).1
  · have clen := C.len
    unfold startF
    show _ = N.length
    rw [List.length_append, List.length_append, List.length_map, List.length_replicate, List.length_singleton]
    omega
end
section
variable {X : Cx} {pins : List (Addr × Obj)} {σ : L2.St} {H : Hp} {s : Shared} {A : Around} {k : Nat} {f : Addr} {F : NF} {body : Expr} {pm ctv : Value} {N fr : List Str} {a : Str} {ws : List (Option V)} {t : TE}
/-- the lambda at f, called with one value, its parameter a cell -/
theorem lam_callL {u : Value} {v : V} {Q : VK} (I : Inv X pins σ H s) (hA : A.frames = some X.stack) (hr : Room (k + 1) A) (S : LScope N a fr F.scope)
    (ho : s.heap.get? f = some (PySem.W.kla_obj F.name F.qual F.params body F.scope F.cl pm F.c ctv)) (hc : H F.c = some (CodeO F.c F.qual)) (C : CellsAt F.cl fr ws s.heap H)
    (hb : bindArgs (PySem.W.kla_fn F.name F.qual F.params body F.scope F.cl pm (.ref F.c) ctv) ⟨[u], []⟩ = pure ([a].zip [u])) (r : RelV v u)
    (hbody : Room k (A.deeper (envF (ownF F a (s.heap.objs.size + 1)) f s.heap.objs.size)) → PE (ncx CX0 X.prog X.w X.K X.mg X.base N (ownF F a (s.heap.objs.size + 1)) f A X.stack s H E0) body t) (ht : t (startF N [v] ws) H Q) :
    codeAny (model X.prog X.w) A (.call (.ref f) ⟨[u], []⟩) (CR CX0 X.stack X.prog X.w H s Q E0) s := by
  have e0 := I.env0
  have e1 : Env0 X.prog X.w X.K X.mg X.base A X.stack s H := ⟨hA, e0.mod, e0.bs, e0.bsz, e0.funs, e0.frf, e0.hok, e0.bare⟩
  have nl : s.heap.NoLimit := e0.mod.nolimit.keeps fun b o e => (e0.bs b o e).1
  refine PySem.W.kla_callFunE hr.depth ho rfl S.co S.gen rfl (codeO_at e0.hok hc) ?_
  rw [hb]
  refine wpAny_pure (lam_newenv S.kind S.par S.one fun g kp hns hcl => ⟨nl.keeps kp, ?_⟩)
  show codeAny _ _ (.expr body (envF (ownF F a (s.heap.objs.size + 1)) f s.heap.objs.size)) _ _
  have J := inv_startL (CX := CX0) (f := f) (E := E0) (tk := s.toks) S hr.hd e1 r C hns hcl kp
  refine PySem.W.kla_codeExpr (wpAny_mono ((hbody (hr.deeper _)).run [] _ _ H Q J ht) (fun x s' hq => ?_) fun _ _ hq => hq)
  obtain ⟨y, H', J', rv, q⟩ := hq
  exact ⟨y, H', J'.os, J'.bare, J'.base, J'.hok, rv, q⟩
end
/-- either kind of scope -/
def LamSc (N : List Str) (a : Str) (fr : List Str) (sc : Scope) : Prop := NScope N [a] fr sc ∨ LScope N a fr sc
theorem lam_callG {X : Cx} {pins : List (Addr × Obj)} {σ : L2.St} {H : Hp} {s : Shared} {A : Around} {k : Nat} {f : Addr} {F : NF} {body : Expr} {pm ctv : Value} {N fr : List Str} {a : Str} {ws : List (Option V)} {t : TE} {u : Value} {v : V} {Q : VK}
    (I : Inv X pins σ H s) (hA : A.frames = some X.stack) (hr : Room (k + 1) A) (S : LamSc N a fr F.scope)
    (ho : s.heap.get? f = some (PySem.W.kla_obj F.name F.qual F.params body F.scope F.cl pm F.c ctv)) (hc : H F.c = some (CodeO F.c F.qual)) (C : CellsAt F.cl fr ws s.heap H)
    (hb : bindArgs (PySem.W.kla_fn F.name F.qual F.params body F.scope F.cl pm (.ref F.c) ctv) ⟨[u], []⟩ = pure ([a].zip [u])) (r : RelV v u)
    (hbody : ∀ cl, Room k (A.deeper (envF { F with cl := cl } f s.heap.objs.size)) → PE (ncx CX0 X.prog X.w X.K X.mg X.base N { F with cl := cl } f A X.stack s H E0) body t) (ht : t (startF N [v] ws) H Q) :
    codeAny (model X.prog X.w) A (.call (.ref f) ⟨[u], []⟩) (CR CX0 X.stack X.prog X.w H s Q E0) s := by
  rcases S with S | S
  · exact lam_call I hA hr S ho hc C hb r (hbody F.cl) ht
  · exact lam_callL I hA hr S ho hc C hb r (hbody _) ht
section
variable {X : Cx} {pins : List (Addr × Obj)} {σ : L2.St} {H : Hp} {s : Shared}
/-- an object of one's own that is not tracked may be written -/
theorem inv_priv {it : Addr} {h' : Heap} {tk : Nat} (I : Inv X pins σ H s) (fp : FpOk X pins H it) (kb : ∀ b ob, b ≠ it → s.heap.get? b = some ob → h'.get? b = some ob) : Inv X pins σ H { s with heap := h', toks := tk } := by
  obtain ⟨hn, hL, hfs, h1, h2, h3⟩ := fp
  refine I.call (ch := [it]) ⟨fun b o q _ _ hx => kb b o (by simpa using hx) q, fun b o q _ _ hx => ⟨o.slots, kb b o (by simpa using hx) q⟩, fun _ _ _ n _ => n, fun b o q hx => ⟨o, kb b o (by simpa using hx) q⟩, fun _ _ q => q, fun _ _ _ q => q, fun _ ps q => ⟨#[], by rw [q]; simp⟩⟩ (fun b u e => ?_) I.bare fun b hb => ?_
  · refine (I.hok b u e).stay (fun c w hc q => kb c w ?_ q) (fun _ q => q) fun _ _ q => q
    rintro rfl
    rcases hc with rfl | hc
    · rw [hn] at e; cases e
    · rw [hn] at hc; cases hc
  · obtain rfl : b = it := by simpa using hb
    exact ⟨h1, hL, h2, h3⟩
end
/-- the keys of the items, one call after the other -/
def tKeys (c : Addr) (q : Str) (tb : TE) (N : List Str) (ws : List (Option V)) : List V → List V → Hp → (List V → Hp → Prop) → Prop
  | [], ks, H, Q => Q ks H
  | x :: xs, ks, H, Q => H c = some (CodeO c q) ∧ tb (startF N [x] ws) H fun v H' => tKeys c q tb N ws xs (ks ++ [v]) H' Q
def KEnd (K : PySem.W.Frag) (xs : List V) (Q : VK) (ks : List V) (H : Hp) : Prop :=
  ∃ kz : List PyData, DpAll K H ks kz ∧ PySem.W.AllAlike kz ∧ PySem.W.Sortable kz ∧ (∀ d ∈ kz, d.depth ≤ 100) ∧ ∀ p, H p = none → Q (.ref p) (upd H p (.lst (((xs.zip kz).mergeSort (PySem.W.dataLe false Prod.snd)).map Prod.fst)))
theorem each_pairs {R : Value → V × PyData → Prop} : ∀ {xs : List V} {kz : List PyData} {us : List Value}, Vals xs us → kz.length = us.length → (∀ x u d, RelV x u → R u (x, d)) → EachIs R us (xs.zip kz)
  | [], _, [], _, _, _ => .nil
  | [], _, _ :: _, h, _, _ => by cases h
  | _ :: _, _, [], h, _, _ => by cases h
  | _ :: _, [], _ :: _, _, h, _ => by simp at h
  | x :: xs, d :: kz, u :: us, h, hl, hR => by
    cases h with
    | cons h1 h2 => exact .cons (hR _ _ _ h1) (each_pairs h2 (by simpa using hl) hR)
theorem vals_of_each : ∀ {us : List Value} {ps : List (V × PyData)}, EachIs (fun u p => RelV p.1 u) us ps → Vals (ps.map Prod.fst) us
  | [], [], _ => .nil
  | [], _ :: _, h => by cases h
  | _ :: _, [], h => by cases h
  | _ :: _, _ :: _, h => by
    cases h with
    | cons h1 h2 => exact .cons h1 (vals_of_each h2)
theorem reads_each {h : Heap} {us : List Value} {ds : List PyData} {as : List Addr} (r : ReadsAll h us ds as) : EachIs (fun v d => ∃ as, Reads h v d as) us ds := by
  induction us generalizing ds as with
  | nil => cases r; exact .nil
  | cons u us ih =>
    cases r with
    | cons h1 h2 => exact .cons ⟨_, h1⟩ (ih h2)
theorem dpall_len {K : PySem.W.Frag} {H : Hp} : ∀ {ks : List V} {kz : List PyData}, DpAll K H ks kz → ks.length = kz.length
  | _, _, .nil => rfl
  | _, _, .cons _ t => congrArg (· + 1) (dpall_len t)
section
variable {X : Cx} {pins : List (Addr × Obj)} {σ : L2.St} {H : Hp} {s : Shared} {k : Nat} {f l : Addr} {F : NF} {body : Expr} {pm ctv : Value} {N fr : List Str} {a : Str} {js : List Nat} {t : TE} {xs : List V} {Q : VK}
/-- the walk over the items, at its turn i -/
def KWalk (X : Cx) (pins : List (Addr × Obj)) (σ : L2.St) (F : NF) (t : TE) (N : List Str) (js : List Nat) (xs : List V) (Q : VK) (f kS p : Addr) (fo : Obj) (e1 : Nat) (i : Nat) (s : Shared) : Prop :=
  ∃ H ks kA e, Inv X pins σ H s ∧ FpOk X pins H kS ∧ FpOk X pins H p ∧ s.heap.get? kS = some (seqObj "list" kA e) ∧ s.heap.get? p = some (seqObj "list" #[] e1) ∧ s.heap.get? f = some fo ∧ H f = none ∧ Vals ks kA.toList ∧ ks.length = i ∧
    tKeys F.c F.qual t N (js.map (NdefX.slotAt σ)) (xs.drop i) ks H (KEnd X.K xs Q)
theorem sort_lam (I : Inv X pins σ H s) (hr : Room (k + 3) X.A) (hs : SqL X.K H l xs) (ho : s.heap.get? f = some (PySem.W.kla_obj F.name F.qual F.params body F.scope F.cl pm F.c ctv)) (hfn : H f = none) (hff : f ∉ frs X.stack) (S : LamSc N a fr F.scope) (cp : Caps X F.cl fr js)
    (hb : ∀ u, bindArgs (PySem.W.kla_fn F.name F.qual F.params body F.scope F.cl pm (.ref F.c) ctv) ⟨[u], []⟩ = pure ([a].zip [u]))
    (hbody : ∀ (cl : List (Str × Addr)) (A : Around) (s : Shared) (H : Hp), A.guards = X.A.guards → Room k (A.deeper (envF { F with cl := cl } f s.heap.objs.size)) → PE (ncx CX0 X.prog X.w X.K X.mg X.base N { F with cl := cl } f A X.stack s H E0) body t)
    (hq : tKeys F.c F.qual t N (js.map (NdefX.slotAt σ)) xs [] H (KEnd X.K xs Q)) :
    wpAny (model X.prog X.w) X.A (call (.builtin "sorted") [.ref l] [(Str.ofString "key", .ref f)]) (EP X pins σ Q) X.xe s := by
  obtain ⟨its, rv, hl, hz⟩ := I.list hs
  have hzl : its.length = xs.length := rv.length.symm
  have hZ : its.length ≤ sizeLine := by rw [hzl]; exact hz
  refine PySem.W.sorted_of_sort hl.isList hZ (PyProof.Rows.ksk_s1 _ _) (fun _ => PyProof.Rows.ksk_l1 _ _) fun E' => ?_
  rw [PyProof.Rows.ksk_t1]
  have hp := PySem.W.copyHeap_at s.heap its
  have cold : ∀ b o, s.heap.get? b = some o → (PySem.W.copyHeap s.heap its).get? b = some o := fun b o => PySem.W.copyHeap_old
  have fp : FpOk X pins H (s.heap.objs.size + 1) := I.fpOk (Nat.le_succ _) (I.hok.fresh (Nat.le_succ _))
  have fp0 : s.heap.get? (s.heap.objs.size + 1) = none := Heap.get?_none_of_le (Nat.le_succ _)
  generalize s.heap.objs.size + 1 = p at hp fp fp0
  generalize PySem.W.copyHeap s.heap its = h1 at hp cold
  have I1 : Inv X pins σ H { s with heap := h1 } := I.kept (t' := s.toks) cold
  obtain ⟨e1, ho1⟩ : ∃ e1, (h1.update p (Obj.mapSeq fun _ => (#[] : Array Value))).get? p = some (seqObj "list" #[] e1) := ⟨_, get?_update_seq hp fun _ => #[]⟩
  unfold PyProof.Rows.ksk_tree
  refine wpAny_bind (listItems_at hp rfl (wpAny_bind (listUpdate_at hp rfl (wpAny_bind (seqEpoch_at ho1 rfl (wpAny_bind (wpAny_newTuple (wpAny_bind (wpAny_newList (wpAny_holding ?_) (Nat.zero_le _))) hZ)))) (by rw [List.size_toArray]; exact hZ) (Nat.zero_le _))))
  have I2 : Inv X pins σ H { s with heap := h1.update p (Obj.mapSeq fun _ => (#[] : Array Value)) } := inv_priv (s := { s with heap := h1 }) (tk := s.toks) I1 fp fun b ob hb e => ((Heap.SameBut.update h1 p _).2 b hb).trans e
  have hfp : f ≠ p := fun z => by rw [z, fp0] at ho; cases ho
  have hf2 : (h1.update p (Obj.mapSeq fun _ => (#[] : Array Value))).get? f = some (PySem.W.kla_obj F.name F.qual F.params body F.scope F.cl pm F.c ctv) := ((Heap.SameBut.update h1 p _).2 f hfp).trans (cold _ _ ho)
  generalize h1.update p (Obj.mapSeq fun _ => (#[] : Array Value)) = h2 at I2 ho1 hf2 ⊢
  have kp3 : ∀ b o, h2.get? b = some o → (h2.push (seqObj "tuple" its.toArray 0)).get? b = some o := fun b o e => Heap.get?_push_of_some _ e
  have I3 : Inv X pins σ H { s with heap := h2.push (seqObj "tuple" its.toArray 0) } := I2.kept (t' := s.toks) kp3
  have ho3 := kp3 _ _ ho1
  have ho0 : (h2.push (seqObj "tuple" its.toArray 0)).get? f = some (PySem.W.kla_obj F.name F.qual F.params body F.scope F.cl pm F.c ctv) := kp3 _ _ hf2
  show wpAny _ _ _ _ _ { s with heap := (h2.push (seqObj "tuple" its.toArray 0)).push (seqObj "list" #[] 0) }
  have I4 : Inv X pins σ H { s with heap := (h2.push (seqObj "tuple" its.toArray 0)).push (seqObj "list" #[] 0) } := I3.kept (t' := s.toks) fun b o e => Heap.get?_push_of_some _ e
  have fk : FpOk X pins H (h2.push (seqObj "tuple" its.toArray 0)).objs.size := I3.fpOk (Nat.le_refl _) (I3.hok.fresh (Nat.le_refl _))
  have nk : ((h2.push (seqObj "tuple" its.toArray 0)).push (seqObj "list" #[] 0)).get? (h2.push (seqObj "tuple" its.toArray 0)).objs.size = some (seqObj "list" #[] 0) := Heap.get?_push_size _ rfl
  have hka : (h2.push (seqObj "tuple" its.toArray 0)).objs.size ≠ p := Nat.ne_of_gt (Heap.lt_size ho3)
  have hkf : (h2.push (seqObj "tuple" its.toArray 0)).objs.size ≠ f := Nat.ne_of_gt (Heap.lt_size ho0)
  have na : ((h2.push (seqObj "tuple" its.toArray 0)).push (seqObj "list" #[] 0)).get? p = some (seqObj "list" #[] e1) := Heap.get?_push_of_some _ ho3
  have nf : ((h2.push (seqObj "tuple" its.toArray 0)).push (seqObj "list" #[] 0)).get? f = some (PySem.W.kla_obj F.name F.qual F.params body F.scope F.cl pm F.c ctv) := Heap.get?_push_of_some _ ho0
  show wpAny _ _ (PyProof.Rows.ksk_rest p (.ref f) false its.toArray e1 (.ref (h2.push (seqObj "tuple" its.toArray 0)).objs.size)) _ _ _
  generalize (h2.push (seqObj "tuple" its.toArray 0)).objs.size = kS at *
  generalize (h2.push (seqObj "tuple" its.toArray 0)).push (seqObj "list" #[] 0) = h4 at *
  -- the walk
  have hU : X.A.in1.in1.units = X.A.units + 2 := rfl
  have hr2 : Room (k + 1) X.A.in1.in1 := (show Room (k + 2) X.A.in1 from hr.in1).in1
  unfold PyProof.Rows.ksk_rest
  refine wpAny_bind (wpAny_rule ?_)
  first | rw [List.forIn_toArray] | (rw [← Array.forIn_toList]; simp only [List.toList_toArray]) | rw [← Array.forIn_toList]
  refine wpAny_bind (ksk_fold (KWalk X pins σ F t N js xs Q f kS p (PySem.W.kla_obj F.name F.qual F.params body F.scope F.cl pm F.c ctv) e1) its 0 _ ⟨H, [], #[], 0, I4, fk, fp, nk, na, nf, hfn, .nil, rfl, by simpa using hq⟩ ?step ?done)
  case step =>
    rintro j u s' hu ⟨H', ks, kA, e, I', fk', fp', nk', na', nf', hf', rk, lk, hk⟩
    simp only [Nat.zero_add] at hk lk ⊢
    have hj : j < its.length := (List.getElem?_eq_some_iff.mp hu).1
    have hjx : j < xs.length := by omega
    have rx : RelV xs[j] u := by
      obtain ⟨u', h1, h2⟩ := rv.get (List.getElem?_eq_getElem hjx)
      rw [hu] at h1
      cases h1
      exact h2
    rw [List.drop_eq_getElem_cons hjx] at hk
    obtain ⟨hc, hk⟩ := hk
    have hcall := lam_callG I' (A := X.A.in1.in1) I'.env0.frames hr2 S nf' hc (cells_of I' cp) (hb u) rx (fun cl => hbody cl X.A.in1.in1 s' H' rfl) hk
    refine wpAny_bind (wpAny_attempt (wpAny_call (codeAny_mono hcall fun r s2 hq => ?_)))
    match r, hq with
    | .error e, hq => exact hq.elim
    | .ok (.ret v'), ⟨v, H2, os, bare, un, hok, rv', q⟩ =>
      have nfr : ∀ {b : Addr} {H : Hp}, FpOk X pins H b → b ∉ frs X.stack := fun {b H} z hb => (List.mem_cons.mp (I.stkSub b hb)).elim z.2.1 z.2.2.1
      have I2' : Inv X pins σ H2 s2 := I'.call' (ch := []) os un hok bare (by simp)
      have fk2 : FpOk X pins H2 kS := ⟨un.free _ _ nk' fk'.1 (by simp), fk'.2⟩
      have fp2 : FpOk X pins H2 p := ⟨un.free _ _ na' fp'.1 (by simp), fp'.2⟩
      have nk2 := un.keep _ _ nk' fk'.1 (nfr fk') (by simp)
      have na2 := un.keep _ _ na' fp'.1 (nfr fp') (by simp)
      have nf2 := un.keep _ _ nf' hf' hff (by simp)
      have hf2' := un.free _ _ nf' hf' (by simp)
      have hks : kA.size = j := by rw [← lk, rk.length, Array.length_toList]
      have sb := Heap.SameBut.update s2.heap kS (Obj.mapSeq (·.push v'))
      obtain ⟨c2, hc2⟩ : ∃ c2, (s2.heap.update kS (Obj.mapSeq (·.push v'))).get? kS = some (seqObj "list" (kA.push v') c2) := ⟨_, get?_update_seq nk2 (·.push v')⟩
      refine wpAny_bind (listUpdate_at nk2 rfl (wpAny_pure ⟨rfl, ?_⟩) (by omega) (by rw [Array.size_push]; omega))
      refine ⟨H2, ks ++ [v], kA.push v', c2, inv_priv (tk := s2.toks) I2' fk2 (fun b ob hb e => (sb.2 b hb).trans e), fk2, fp2, hc2, (sb.2 p hka.symm).trans na2, (sb.2 f hkf.symm).trans nf2, hf2', ?_, by simp [lk], q⟩
      rw [Array.toList_push]
      exact rk.append (.cons rv' .nil)
  case done =>
    rintro s' ⟨H', ks, kA, e, I', fk', fp', nk', na', nf', hf', rk, lk, hk⟩
    rw [Nat.zero_add, List.drop_of_length_le (by omega)] at hk
    obtain ⟨kz, dp, hal, hsk, hdep, hQ⟩ := hk
    have lks : kz.length = its.length := by rw [← dpall_len dp, lk]; omega
    have hks : kA.size = its.length := by rw [← Array.length_toList, ← rk.length, lk]; omega
    obtain ⟨as, ra⟩ := Dp.readsAll I' kz ks kA.toList dp rk
    refine wpAny_bind (listItems_at nk' rfl ?_)
    obtain ⟨G, g1, g2⟩ := restrict s'.heap fun b => decide (b ≠ kS)
    have gS : G.get? kS = none := g2 kS (by simp)
    have gk : ∀ b o, b ≠ kS → s'.heap.get? b = some o → G.get? b = some o := fun b o hb e => by
      rw [g1 b (by simpa using hb)]
      exact e
    have gb : PySem.W.KeepsBut p G s'.heap := fun b o _ e => by
      by_cases hb : b = kS
      · rw [hb, gS] at e
        cases e
      · rw [g1 b (by simpa using hb)] at e
        exact e
    have IG : Inv X pins σ H' { s' with heap := G } := inv_priv (tk := s'.toks) I' fk' gk
    have hun : ∀ d, d ∈ kz → X.A.in1.in1.units + d.depth < cLine := fun d hd => by
      have h1 := hdep d hd
      have h2 := hr.un
      rw [hU]
      omega
    have hE := reads_each ra
    refine PySem.W.keyH_end (κ := PySem.W.dataKind s'.heap kz) gb gS nk' na' hka (PySem.W.SortsAt.data hE hal hsk hun) hks hZ fun h' tk c kp' hp' => ⟨rfl, ?_⟩
    have ko : PySem.W.KeyedOut false ((xs.zip kz).map Prod.snd) its (PySem.W.sortVals (PySem.W.dataKind s'.heap kz) false kA.toList its) := by
      rw [List.map_snd_zip (by omega)]
      exact ⟨s'.heap, kA.toList, hal, rfl, hE⟩
    have rO := vals_of_each (PySem.W.keyedOut_each Prod.snd ko (each_pairs (R := fun u p => RelV p.1 u) rv lks fun _ _ _ r => r))
    refine ⟨.ref p, upd H' p (.lst (((xs.zip kz).mergeSort (PySem.W.dataLe false Prod.snd)).map Prod.fst)), ?_, rfl, hQ p fp'.1⟩
    have hz2 : (((xs.zip kz).mergeSort (PySem.W.dataLe false Prod.snd)).map Prod.fst).length ≤ sizeLine := by
      rw [List.length_map, List.length_mergeSort, List.length_zip]
      omega
    exact Inv.take (s := { s' with heap := G }) (t' := tk) IG (fun b ob hb e => kp' b ob hb e) fp' ⟨hz2, _, c, rO, hp'⟩
end
theorem lam_hu {A : Around} (h : Room 0 A) : A.units + 64 < cLine := by have := h.un; omega
theorem lam_hv {A : Around} (h : Room 0 A) : A.units + 65 < cLine := by have := h.un; omega
end L2
namespace Pd
open PySem PySem.Spec L2 PyProof.Rows
/-! ### the tables of K -/
def HdP (K : PySem.W.Frag) (x : PySem.Str) (P : Addr) : Prop := ∃ (f : Addr) (o : Obj) (fd : FuncData) (c : Addr), PySem.W.nsIn K PySem.mainGlobals x = some (some (.ref f)) ∧ K.lookup f = some o ∧ o.data = .func fd ∧ fd.code = .ref c ∧ PySem.W.codeHdIn K c P = true
theorem codeHd_inj {K : PySem.W.Frag} {c P P' : Addr} (h : PySem.W.codeHdIn K c P = true) (h' : PySem.W.codeHdIn K c P' = true) : P = P' := by
  unfold PySem.W.codeHdIn at h h'
  generalize K.lookup c = z at h h'
  split at h
  · simp only [Bool.and_eq_true] at h h'
    obtain ⟨⟨⟨⟨⟨h1, _⟩, _⟩, _⟩, _⟩, _⟩ := h
    obtain ⟨⟨⟨⟨⟨h1', _⟩, _⟩, _⟩, _⟩, _⟩ := h'
    split at h1
    · rename_i e2
      rw [e2] at h1'
      exact (beq_iff_eq.mp h1).symm.trans (beq_iff_eq.mp h1')
    · cases h1
  · exact absurd h Bool.false_ne_true
theorem HdP.inj {K : PySem.W.Frag} {x : PySem.Str} {P P' : Addr} (h : HdP K x P) (h' : HdP K x P') : P = P' := by
  obtain ⟨f, o, fd, c, e1, e2, e3, e4, e5⟩ := h
  obtain ⟨f', o', fd', c', g1, g2, g3, g4, g5⟩ := h'
  rw [e1] at g1
  cases g1
  rw [e2] at g2
  cases g2
  rw [e3] at g3
  cases g3
  rw [e4] at g4
  cases g4
  exact codeHd_inj e5 g5
open Classical in
noncomputable def TK (K : PySem.W.Frag) : List (Addr × PySem.Str) := lamNames.filterMap fun x => if h : ∃ P, HdP K x.1 P then some (h.choose, x.2) else none
theorem tk_mem {K : PySem.W.Frag} {P : Addr} {q : PySem.Str} : (P, q) ∈ TK K ↔ TbN K P q := by
  unfold TK
  rw [List.mem_filterMap]
  constructor
  · rintro ⟨x, hx, e⟩
    split at e
    · rename_i h
      cases e
      exact ⟨x, hx, rfl, h.choose_spec⟩
    · cases e
  · rintro ⟨x, hx, rfl, h⟩
    refine ⟨x, hx, ?_⟩
    have h' : ∃ P, HdP K x.1 P := ⟨P, h⟩
    rw [dif_pos h', HdP.inj h'.choose_spec h]
theorem tabs_of {K : PySem.W.Frag} {H : Hp} (t : TabK K H) : LamX.Tabs (TK K) H := fun p hp => t p.1 p.2 (tk_mem.mp hp)
theorem tabK_of {K : PySem.W.Frag} {H : Hp} (t : LamX.Tabs (TK K) H) : TabK K H := fun P q h => t (P, q) (tk_mem.mpr h)
/-- the code object cdv of a def whose lambda is q -/
def LamAt (K : PySem.W.Frag) (mg : PySem.Str → Option Value) (base : Heap) (cdv : Value) (q : PySem.Str) : Prop := ∃ c P, cdv = .ref c ∧ LamX.TabB base mg c P ∧ TbN K P q ∧ ∀ q', TbN K P q' → q' = q
end Pd
namespace L2
open PySem PySem.Spec PyProof.Rows LamX NdefX
theorem sql_extN {K : PySem.W.Frag} {H H' : Hp} {a : Addr} {xs : List V} (h : SqL K H a xs) (e : ExtN H H') : SqL K H' a xs := by
  rcases h with (h | ⟨o, h⟩) | h
  · exact .inl (.inl (e _ _ h fun _ z => by cases z))
  · exact .inl (.inr ⟨o, e _ _ h fun _ z => by cases z⟩)
  · exact .inr h
/-- sorted(e, key=lambda a: body); js: where the captured names stand among the running frame's -/
def tSortLam (K : PySem.W.Frag) (q : Str) (N : List Str) (js : List Nat) (te tb : TE) : TE := fun σ H Q => te σ H fun v H0 => ∃ l xs, [v] = [V.ref l] ∧ SqL K H0 l xs ∧ Pd.TabK K H0 ∧
  ∀ c H1, ExtN H0 H1 → Pd.TabK K H1 → H1 c = some (CodeO c q) → tKeys c q tb N (js.map (NdefX.slotAt σ)) xs [] H1 (KEnd K xs Q)
theorem pe_sortLam {X : Cx} {k : Nat} {e : Expr} {te tb : TE} {ar : Arguments} {lb : Expr} {lsc : Scope} {lp kp p pos : Pos} {q a : Str} {N fr : List Str} {js : List Nat} (hr : Room (k + 3) X.A) (L : Pd.LamAt X.K X.mg X.base X.env.code q) (hq : X.env.qual ++ "<lambda>" = q) (he : PE X e te) (hg : Gl X "sorted") (hm : X.mg "sorted" = none)
    (S : LamSc N a fr lsc) (hdef : defaultsOf ar X.env = ([], [])) (hfree : ∀ y ∈ lsc.names, y.2 = .free → X.env.scope.names.lookup y.1 = some .cell ∨ X.env.scope.names.lookup y.1 = some .free) (hfr : ∀ y ∈ fr, (y, NameKind.free) ∈ lsc.names) (hjs : js.map (fun j => X.N[j]?) = fr.map some)
    (hb : ∀ (q : Str) (cl : List (Str × Addr)) (pm cv ctv u : Value), bindArgs (PySem.W.kla_fn "<lambda>" q ar lb lsc cl pm cv ctv) ⟨[u], []⟩ = pure ([a].zip [u]))
    (hbody : ∀ (cl : List (Str × Addr)) (c f : Addr) (A : Around) (s : Shared) (H : Hp), A.guards = X.A.guards → Room k (A.deeper (envF ⟨"<lambda>", q, ar, [], lsc, cl, c⟩ f s.heap.objs.size)) → PE (ncx CX0 X.prog X.w X.K X.mg X.base N ⟨"<lambda>", q, ar, [], lsc, cl, c⟩ f A X.stack s H E0) lb tb)
    (n1 : starEach [e] X.env = (false, eval e X.env) :: starEach [] X.env := by rfl) (n2 : backTo pos (starEach [e] X.env) = (false, eval e X.env) :: backTo pos (starEach [] X.env) := by rfl) (n3 : (backTo pos (starEach [e] X.env)).any (·.1) = false := by rfl) :
    PE X (.Call (.Name "sorted" p) [e] [⟨some "key", .Lambda ar lb lsc lp, kp⟩] pos) (tSortLam X.K q N js te tb) := by
  have ha : PA X [e] (tCons te tNil) := pa_cons he pa_nil (hs := n1)
  refine ⟨fun pins s σ H Q I h => ?_⟩
  refine wpAny_Call_Name_kw (ld_blt I hg hm (u := .builtin "sorted") (by decide +kernel) ?_ (by decide) (by decide))
  have h' : tCons te tNil σ H (fun vs H0 => ∃ l xs, vs = [V.ref l] ∧ SqL X.K H0 l xs ∧ Pd.TabK X.K H0 ∧ ∀ c H1, ExtN H0 H1 → Pd.TabK X.K H1 → H1 c = some (CodeO c q) → tKeys c q tb N (js.map (NdefX.slotAt σ)) xs [] H1 (KEnd X.K xs Q)) := h
  refine PyProof.Rows.callWith_kw (thn (ha.run pos pins s σ H _ I h') fun us s1 ⟨vs, H0, I1, r1, l, xs, ex, hs, hT, hgo⟩ => ?_) n2 n3 rfl rfl
  subst ex
  rw [Vals.ref1 r1]
  obtain ⟨c, P, hc, TB, hP, huq⟩ := L
  show wpAny _ _ (evalAll [(do let v ← eval (.Lambda ar lb lsc lp) X.env; standAt pos; pure v)]) _ _ s1
  refine wpAny_evalAll_cons (wpAny_bind (lam_make2 (T := Pd.TK X.K) I1 TB hc (by rw [hq]; exact Pd.tk_mem.mpr hP) (fun p hp hb => ?_) (Pd.tabs_of hT) ?_ ?_ fun f c' pm ctv H1 s2 I2 eN T1 ho hf0 hff hco => wpAny_bind (wpAny_standAt (wpAny_pure (wpAny_evalAll_nil ?_)))))
  · have e := huq p.2 (by rw [← hb]; exact Pd.tk_mem.mp hp)
    rw [e, hq]
  · exact hdef
  · exact fun y hy e => (hfree y hy e).elim (fun z => I1.ok.has _ (.inl z)) fun z => I1.ok.has _ (.inr z)
  · rw [hq] at ho hco
    exact sort_lam (F := ⟨"<lambda>", q, ar, [], lsc, cloFrom X.env.cells lsc.names [], c'⟩) I2 hr (sql_extN hs eN) ho hf0 hff S (Caps.made I2.ok hfree hfr hjs) (fun u => hb _ _ _ _ _ u) (fun cl A s H hg hr => hbody cl _ _ A s H hg hr) (hgo c' H1 eN (Pd.tabK_of T1) hco)
end L2

/-! Pd23: sorted with a lambda, by values. -/
namespace Pd
open PySem PySem.Spec L2
open Evl (Ex)
open PyProof.Rows
section
variable {K : PySem.W.Frag} {A : Addr → Prop} {M : List Addr} {μ : Mu} {H H' : Hp}
/-! ### behind the making of a lambda -/
theorem MOk.extN (mo : MOk K A M H μ) (e : LamX.ExtN H H') (t : TabK K H') : MOk K A M H' μ ∧ Eff A M μ H M μ H' := by
  have st : ∀ a, (A a ∨ a ∈ M) → ∀ o, H a = some o → H' a = some o := fun a m o h => e a o h (mo.aT a o m h).1
  have nn : ∀ a, (A a ∨ a ∈ M) → H a ≠ none → H' a ≠ none := fun a m hn => by
    cases q : H a with
    | none => exact absurd q hn
    | some o =>
      rw [st a m o q]
      intro z
      cases z
  have ex : Ex (vw A M μ H) (vw A M μ H') := fun a o h => vw_of (vw_some h).1 (e a o (vw_some h).2 (vw_nt h)) (vw_nt h)
  refine ⟨⟨mo.len, mo.nd, mo.nA, fun a m => nn a (.inr m) (mo.al a m), fun a m => nn a (.inl m) (mo.aA a m), t, fun a o m h => ?_, fun k a c h1 h2 => ?_⟩, ⟨Pre.refl _, fun a o m h => st a (.inl m) o h, ex⟩⟩
  · cases q : H a with
    | none => exact absurd q (m.elim (mo.aA a) (mo.al a))
    | some u =>
      rw [st a m u q] at h
      cases h
      exact mo.aT a o m q
  · obtain ⟨o, q1, q2⟩ := mo.ct k a c h1 h2
    exact ⟨o, st a (.inr (List.mem_of_getElem? h1)) o q1, q2.mono ex (Pre.refl _)⟩
theorem vw_code {c : Addr} {q : PySem.Str} (mo : MOk K A M H μ) (h : H c = some (LamX.CodeO c q)) : vw A M μ H c = some (LamX.CodeO c q) := by
  refine vw_of (fun z => ?_) h LamX.codeO_ne
  have m : A c ∨ c ∈ M := z.imp id fun ⟨k, _, h1, _⟩ => List.mem_of_getElem? h1
  exact (mo.aT c _ m h).2 c q rfl
end
/-! ### the slots of the lambda -/
def slG (Γ : G) (j : Nat) : Option W := match Γ[j]? with
  | some o => o
  | none => none
def stF (N : List PySem.Str) (ws : List W) (cs : List (Option W)) : G := ws.map some ++ (cs ++ List.replicate (N.length - ws.length - cs.length) none)
theorem gr_startF {K : PySem.W.Frag} {H : Hp} {M : List Addr} {N : List PySem.Str} {vs : List V} {ws : List W} {σ : L2.St} {Γ : G} {js : List Nat} (h : VRs K H M vs ws) (g : GR K H M σ Γ) : GR K H M (NdefX.startF N vs (js.map (NdefX.slotAt σ))) (stF N ws (js.map (slG Γ))) := by
  have hl := h.length
  refine ⟨by simp [NdefX.startF, stF, hl], fun i w e => ?_⟩
  unfold stF at e
  unfold NdefX.startF
  by_cases h1 : i < ws.length
  · rw [List.getElem?_append_left (by simpa using h1), List.getElem?_map] at e
    cases q : ws[i]? with
    | none => rw [q] at e; cases e
    | some w' =>
      rw [q] at e
      cases e
      obtain ⟨v, e1, e2⟩ := h.getW q
      refine ⟨v, ?_, e2⟩
      rw [List.getElem?_append_left (by rw [List.length_map]; omega), List.getElem?_map, e1]
      rfl
  · rw [List.getElem?_append_right (by simpa using h1)] at e
    rw [List.getElem?_append_right (by rw [List.length_map]; omega)]
    simp only [List.length_map, hl] at e ⊢
    by_cases h2 : i - ws.length < js.length
    · rw [List.getElem?_append_left (by simpa using h2), List.getElem?_map] at e
      rw [List.getElem?_append_left (by simpa using h2), List.getElem?_map]
      rw [List.getElem?_eq_getElem h2] at e ⊢
      have e' : slG Γ js[i - ws.length] = some w := by simpa using e
      unfold slG at e'
      split at e'
      · rename_i o ho
        subst e'
        obtain ⟨v, q1, q2⟩ := g.2 _ _ ho
        exact ⟨v, by simp [NdefX.slotAt_of q1], q2⟩
      · cases e'
    · rw [List.getElem?_append_right (by simpa using h2), List.getElem?_replicate] at e
      split at e <;> cases e
theorem vrs_sorted {K : PySem.W.Frag} {H : Hp} {M : List Addr} {α : Type} {f : α → W} {kf : α → PyData} {ns : List α} {vs : List V} (h : VRs K H M vs (ns.map f)) :
    VRs K H M (((vs.zip (ns.map kf)).mergeSort (PySem.W.dataLe false Prod.snd)).map Prod.fst) ((ns.mergeSort (PySem.W.dataLe false kf)).map f) := by
  have hl : vs.length = ns.length := by rw [h.length, List.length_map]
  have hT : ∀ t ∈ vs.zip ns, VR K H M t.1 (f t.2) := by
    clear hl
    induction ns generalizing vs with
    | nil => intro t ht; simp at ht
    | cons n ns ih =>
      cases h with
      | cons r rs =>
        intro t ht
        rw [List.zip_cons_cons] at ht
        rcases List.mem_cons.mp ht with e | ht
        · rw [e]
          exact r
        · exact ih rs t ht
  have e1 : (vs.zip (ns.map kf)).mergeSort (PySem.W.dataLe false Prod.snd) = ((vs.zip ns).mergeSort fun a b => PySem.W.dataLe false kf a.2 b.2).map (fun t => (t.1, kf t.2)) := by
    rw [List.map_mergeSort (r := fun a b => PySem.W.dataLe false kf a.2 b.2) (f := fun t : V × α => (t.1, kf t.2)) (s := PySem.W.dataLe false Prod.snd) (l := vs.zip ns) (fun a _ b _ => rfl)]
    congr 1
    rw [List.zip_map_right]
    rfl
  have e2 : ns.mergeSort (PySem.W.dataLe false kf) = ((vs.zip ns).mergeSort fun a b => PySem.W.dataLe false kf a.2 b.2).map Prod.snd := by
    rw [List.map_mergeSort (r := fun a b => PySem.W.dataLe false kf a.2 b.2) (f := (Prod.snd : V × α → α)) (s := PySem.W.dataLe false kf) (l := vs.zip ns) (fun a _ b _ => rfl), List.map_snd_zip (by omega)]
  rw [e1, e2, List.map_map, List.map_map]
  have hS : ∀ t ∈ (vs.zip ns).mergeSort fun a b => PySem.W.dataLe false kf a.2 b.2, VR K H M t.1 (f t.2) := fun t ht => hT t (List.mem_mergeSort.mp ht)
  generalize (vs.zip ns).mergeSort (fun a b => PySem.W.dataLe false kf a.2 b.2) = T at hS
  induction T with
  | nil => exact .nil
  | cons t T ih => exact .cons (hS t (by simp)) (ih fun u hu => hS u (by simp [hu]))
theorem dqs_snoc {K : PySem.W.Frag} {H : Hp} {v : V} {d : PyData} (hd : DQ K H v d) : ∀ {vs : List V} {ds : List PyData}, DQs K H vs ds → DQs K H (vs ++ [v]) (ds ++ [d])
  | _, _, .nil => .cons hd .nil
  | _, _, .cons h t => .cons h (dqs_snoc hd t)
theorem ax_sortLam {K : PySem.W.Frag} {q : PySem.Str} {N : List PySem.Str} {js : List Nat} {te tb : TE} {Γ : G} {μ : Mu} {R : W → Mu → Prop} {α : Type} (f : α → W) (kf : α → PyData)
    (h : AX K te Γ μ fun w μ1 => ∃ ns : List α, LW μ1 w (ns.map f) ∧ PySem.W.AllAlike (ns.map kf) ∧ PySem.W.Sortable (ns.map kf) ∧ (∀ n ∈ ns, (kf n).depth ≤ 100) ∧
      (∀ n ∈ ns, AX K tb (stF N [f n] (js.map (slG Γ))) μ1 fun w μ' => w = .d (kf n) ∧ μ' = μ1) ∧ NL ((ns.mergeSort (PySem.W.dataLe false kf)).map f) μ1 R) : AX K (tSortLam K q N js te tb) Γ μ R := fun A M σ H cn Q hQ =>
  h A M σ H cn _ fun M1 H0 v w μ1 mo1 e1 r1 ⟨ns, hw, hal, hsk, hdep, hb, hN⟩ => by
    obtain ⟨a, vs, rfl, hs, rv⟩ := hw.get mo1 r1
    refine ⟨a, vs, rfl, hs, mo1.tb, fun c H1 eN tN hc => ?_⟩
    obtain ⟨mo2, e2⟩ := mo1.extN eN tN
    have g2 : GR K (vw A M1 μ1 H1) M1 σ Γ := (cn.gr.mono e1.ex e1.pre).mono e2.ex e2.pre
    have hc2 := vw_code mo2 hc
    have rv2 : VRs K (vw A M1 μ1 H1) M1 vs (ns.map f) := rv.mono e2.ex e2.pre
    suffices key : ∀ (rest done : List α) (us ks : List V) (M' : List Addr) (H' : Hp), MOk K A M' H' μ1 → Eff A M1 μ1 H1 M' μ1 H' → VRs K (vw A M1 μ1 H1) M1 us (rest.map f) → done ++ rest = ns → DQs K (vw A M' μ1 H') ks (done.map kf) → tKeys c q tb N (js.map (NdefX.slotAt σ)) us ks H' (KEnd K vs Q) from
      key ns [] vs [] M1 H1 mo2 Eff.refl rv2 rfl .nil
    intro rest
    induction rest with
    | nil =>
      intro done us ks M' H' mo' e' ru hd dk
      cases ru
      have hd' : done = ns := by simpa using hd
      subst hd'
      refine ⟨done.map kf, (dpa_mono vw_le dk).dp, hal, hsk, fun d hd => ?_, fun p hp => ?_⟩
      · obtain ⟨n, hn, rfl⟩ := List.mem_map.mp hd
        exact hdep n hn
      · obtain ⟨M2, μ2, w2, m2, e3, r2, hR⟩ := hN.use mo' (vrs_sorted (kf := kf) (rv2.mono e'.ex e'.pre)) hp
        exact hQ M2 _ _ w2 μ2 m2 (((e1.trans e2).trans e').trans e3) r2 hR
    | cons n rest ih =>
      intro done us ks M' H' mo' e' ru hd dk
      cases ru with
      | cons r rs =>
        refine ⟨(vw_some (e'.ex _ _ hc2)).2, ?_⟩
        refine hb n (by rw [← hd]; simp) A M' _ H' ⟨mo', gr_startF (.cons (r.mono e'.ex e'.pre) .nil) (g2.mono e'.ex e'.pre)⟩ _ fun M2 H2 x w2 μ2 mo3 e3 r3 h3 => ?_
        obtain ⟨hw2, hμ⟩ := h3
        subst hw2
        subst hμ
        cases r3 with
        | d dq =>
          refine ih (done ++ [n]) _ _ M2 H2 mo3 (e'.trans e3) rs (by rw [← hd]; simp) ?_
          rw [List.map_append]
          exact dqs_snoc dq (dpa_mono e3.ex dk)
end Pd

/-! Pd24: list(range(..)), xs[::k] with k one of 1, -1. -/
namespace L2
open PySem PySem.Spec PyProof.Rows
/-- xs[::e] -/
def tStepL (K : PySem.W.Frag) (te ts : TE) : TE := fun σ H Q => te σ H fun x H1 => ∃ a, x = .ref a ∧ ts σ H1 fun y H2 => ∃ i, y = .int i ∧ ∃ xs, SqL K H2 a xs ∧ ∃ b : Bool, some i = some (if b then -1 else 1) ∧ ∀ p, H2 p = none → Q (.ref p) (upd H2 p (.lst (if b then xs.reverse else xs)))
theorem pe_stepL {X : Cx} {e es : Expr} {te ts : TE} {p3 pos : Pos} (he : PE X e te) (hs : PE X es ts) (hst0 : ∀ (o i : Value), subscripted (.Slice none none (some es) p3) false o i = operate [o, i] (getItem o i) := by intros; with_unfolding_all rfl) : PE X (.Subscript e (.Slice none none (some es) p3) pos) (tStepL X.K te ts) := by
  refine ⟨fun pins s σ H Q I h => ?_⟩
  refine Subscript_ (thn (he.run pins s σ H _ I h) fun v s1 ⟨x, H1, I1, r1, a, ex, q1⟩ => ?_)
  subst ex
  cases r1
  have hst : PO X (some es) (tPart ts) := po_some hs
  refine wpAny_Slice (thn (po_none.run pins s1 σ H1 (fun o H2 => o = none ∧ H2 = H1) I1 ⟨rfl, rfl⟩) fun vl s2 ⟨l, H2, I2, pl, el, e2⟩ => ?_)
  subst el e2
  refine thn (po_none.run pins s2 σ H2 (fun o H3 => o = none ∧ H3 = H2) I2 ⟨rfl, rfl⟩) fun vu s3 ⟨u, H3, I3, pu, eu, e3⟩ => ?_
  subst eu e3
  have h3 : tPart ts σ H3 fun o H4 => ∃ xs, SqL X.K H4 a xs ∧ ∃ b : Bool, o = some (if b then -1 else 1) ∧ ∀ p, H4 p = none → Q (.ref p) (upd H4 p (.lst (if b then xs.reverse else xs))) := q1
  refine thn (hst.run pins s3 σ H3 _ I3 h3) fun vs s4 ⟨o, H4, I4, ps, xs, hx, b, eo, q⟩ => ?_
  subst eo
  have I5 : Inv X pins σ H4 { s4 with heap := s4.heap.push { cls := .type "slice", data := .fields #[vl, vu, vs] } } := I4.kept (t' := s4.toks) fun b ob q => Heap.get?_push_of_some _ q
  obtain ⟨its, r, ht, hz⟩ := I5.list hx
  have hlen := r.length
  show wpAny (model X.prog X.w) X.A (subscriptTail e (.Slice none none (some es) p3) (.ref a) (.ref s4.heap.objs.size)) (EP X pins σ Q) X.xe { s4 with heap := s4.heap.push { cls := .type "slice", data := .fields #[vl, vu, vs] } }
  refine tail_any (ops := [.ref a, .ref s4.heap.objs.size]) ht.isList.typeIs (PySem.slot_list_getitem.lookup) ?_ (hst0 _ _)
  refine wpAny_getItem_list_slice ht.isList (Heap.IsSliceOf.new _ vl vu vs) pl pu ps (by cases b <;> decide) ?_ (by rw [List.size_toArray]; omega)
  have hp : slicePick its.toArray none none (some (if b = true then -1 else 1)) = (if b = true then its.reverse else its).toArray := by
    cases b with
    | true =>
      rw [if_pos rfl, if_pos rfl, PySem.W.krv_pick]
    | false =>
      rw [if_neg (by decide), if_neg (by decide)]
      exact slicePick_all _
  rw [hp]
  have rb : Vals (if b = true then xs.reverse else xs) (if b = true then its.reverse else its) := by
    cases b with
    | true => exact r.reverse
    | false => exact r
  have hl2 : (if b = true then xs.reverse else xs).length ≤ sizeLine := by
    cases b with
    | true => rw [if_pos rfl, List.length_reverse]; exact hz
    | false => exact hz
  refine ⟨.ref _, _, I5.laid (t' := s4.toks) (o := .lst (if b = true then xs.reverse else xs)) (fun b ob q => Heap.get?_push_of_some _ q) (Nat.le_refl _) ?_, rfl, q _ (I5.hok.fresh (Nat.le_refl _))⟩
  exact ⟨hl2, _, 0, rb, Heap.get?_push_size _ rfl⟩
end L2
namespace Pd
open PySem PySem.Spec L2
open Evl (Ex)
open PyProof.Rows
section
variable {K : PySem.W.Frag} {Γ : G} {μ : Mu} {R : W → Mu → Prop} {te ts : TE}
theorem ax_stepL (h : AX K te Γ μ fun x μ1 => (∃ ws, LW μ1 x ws) ∧ AX K ts Γ μ1 fun y μ2 => ∃ (b : Bool) (ws : List W), y = .d (.int (if b then -1 else 1)) ∧ LW μ2 x ws ∧ NL (if b then ws.reverse else ws) μ2 R) : AX K (tStepL K te ts) Γ μ R := fun A M σ H c Q q =>
  h A M σ H c _ fun M1 H1 v x μ1 mo1 e1 r1 ⟨⟨ws0, h0⟩, h1⟩ => by
    obtain ⟨a, _, rfl, _, _⟩ := h0.get mo1 r1
    refine ⟨a, rfl, h1 A M1 σ H1 (c.eff e1 mo1) _ fun M2 H2 u y μ2 mo2 e2 r2 ⟨b, ws, hy, hx, hn⟩ => ?_⟩
    subst hy
    obtain ⟨a', vs, ea, hs, rs⟩ := hx.get mo2 (r1.mono e2.ex e2.pre)
    cases ea
    refine ⟨_, vr_int r2, vs, hs, b, rfl, fun p hp => ?_⟩
    have rb : VRs K (vw A M2 μ2 H2) M2 (if b = true then vs.reverse else vs) (if b = true then ws.reverse else ws) := by
      cases b with
      | true => exact rs.reverse
      | false => exact rs
    obtain ⟨M3, μ3, w, m3, e3, r3, hR⟩ := hn.use mo2 rb hp
    exact q M3 _ _ w μ3 m3 ((e1.trans e2).trans e3) r3 hR
/-- list(range(n)) -/
def rgI (a b : Int) : List Int := (List.range (b - a).toNat).map fun i => a + (i : Nat)
theorem vrs_rg {H : Hp} {M : List Addr} (a b : Int) : VRs K H M (L2.rgV a b) (wInts (rgI a b)) := by
  unfold L2.rgV rgI wInts
  generalize List.range (b - a).toNat = l
  induction l with
  | nil => exact .nil
  | cons n l ih => exact .cons (.d (.int _)) ih
theorem ax_listRg1 (h : AX K te Γ μ fun w μ1 => ∃ n : Int, w = .d (.int n) ∧ (-16777216 ≤ n ∧ n ≤ 16777216) ∧ NL (wInts (rgI 0 n)) μ1 R) : AX K (tLstRg (tRg1 te)) Γ μ R := fun A M σ H c Q q =>
  h A M σ H c _ fun M1 H1 v w μ1 mo1 e1 r1 ⟨n, hw, hb, hn⟩ => by
    subst hw
    refine ⟨n, vr_int r1, ⟨by omega, by omega, by omega, by omega, by omega⟩, fun p hp => ?_⟩
    obtain ⟨M3, μ3, w, m3, e3, r3, hR⟩ := hn.use mo1 (vrs_rg 0 n) hp
    exact q M3 _ _ w μ3 m3 (e1.trans e3) r3 hR
theorem ax_listRg2 (h : AX K te Γ μ fun w μ1 => ∃ m : Int, w = .d (.int m) ∧ AX K ts Γ μ1 fun u μ2 => ∃ n : Int, u = .d (.int n) ∧ (-8000000 ≤ m ∧ m ≤ 8000000 ∧ -8000000 ≤ n ∧ n ≤ 8000000) ∧ NL (wInts (rgI m n)) μ2 R) : AX K (tLstRg (tRg2 te ts)) Γ μ R := fun A M σ H c Q q =>
  h A M σ H c _ fun M1 H1 v w μ1 mo1 e1 r1 ⟨m, hw, h1⟩ => by
    subst hw
    refine h1 A M1 σ H1 (c.eff e1 mo1) _ fun M2 H2 u y μ2 mo2 e2 r2 ⟨n, hy, hb, hn⟩ => ?_
    subst hy
    refine ⟨m, n, vr_int r1, vr_int r2, ⟨by omega, by omega, by omega, by omega, by omega⟩, fun p hp => ?_⟩
    obtain ⟨M3, μ3, w, m3, e3, r3, hR⟩ := hn.use mo2 (vrs_rg m n) hp
    exact q M3 _ _ w μ3 m3 ((e1.trans e2).trans e3) r3 hR
end
end Pd

/-! Pd25: the law's end where lambdas are made: their tables are empty at the start. -/
namespace Pd
open PySem PySem.Spec L2
open Evl (Ex)
open PyProof.Rows
abbrev tab0 : Obj := { cls := .none, data := .fields #[] }
/-- at the law's start nothing is tracked but the script and the tables -/
structure OnlyT (cs : List (Addr × Addr)) (H : Hp) : Prop where
  tab : ∀ p ∈ cs, H p.2 = some (.tbl #[])
  oth : ∀ b u, H b = some u → b ∈ cs.map (·.2) ∨ ∃ o xs, u = .frz o (.lst xs)
theorem law_callT {P : Program} {w : World} {K : PySem.W.Frag} {mg mb : Str → Option Value} {CX : CXT} {k : Nat} {fa a : Addr} {cs : List (Addr × Addr)} {fd : FuncData} {x : Str} {sp : Sp} {s₁ : Shared} {vs : List Value} {ns : List Int}
    (KX : K.In s₁.heap) (hns : s₁.heap.Ns mainGlobals mg) (hb : s₁.heap.Ns builtinsNs mb) (hbb : ∀ x : Str, x ≠ "__name__" → mb x = bootBuiltins x) (hlim : s₁.heap.NoLimit) (hg : s₁.gens = #[])
    (hbm : ∃ (bm : Addr) (ob : Obj), mg "__builtins__" = some (.ref bm) ∧ bm ≠ builtinsNs ∧ s₁.heap.get? bm = some ob ∧ ob.cls = .type "module" ∧ ob.dict = some builtinsNs ∧ ob.data = .plain)
    (hT : ∀ p ∈ cs, s₁.heap.get? p.2 = some tab0 ∧ K.lookup p.2 = none ∧ PySem.W.codeHdIn K p.1 p.2 = true)
    (ha : s₁.heap.get? a = some { cls := .type "list", data := .seq vs.toArray }) (hi : IntsAre vs ns) (hl : ns.length ≤ sizeLine) (hr : Room k callerA)
    (F : ∀ base : Heap, K.In base → base.Ns mainGlobals mg → (∀ p ∈ cs, LamX.TabB base mg p.1 p.2) → FnG P w K mg base CX k fa fd [x] sp) (hbd : ∀ (s : Shared) (u : Value), BindsTo s fd ⟨[u], []⟩ [(x, u)])
    (hsp : ∀ H : Hp, OnlyT cs H → SqL K H a (ns.map V.int) → sp [.ref a] H (fun v _ => v = .bl true) fun _ _ _ => False) (hCX : ∀ H e s', CX [] H s₁ (fun _ _ _ => False) e s' → False) :
    codeAny (model P w) callerA (.call (.ref fa) ⟨[.ref a], []⟩) (fun r s' => r = .ok (.ret (.bool true)) ∧ OldK s₁.heap s'.heap ∧ s'.os = s₁.os ∧ AllBare s'.gens) s₁ := by
  have rv := vals_ints hi
  have inT : ∀ b, b ∈ cs.map (·.2) → ∃ p ∈ cs, p.2 = b := fun b z => by
    obtain ⟨p, hp, e⟩ := List.mem_map.mp z
    exact ⟨p, hp, e⟩
  have aT : a ∉ cs.map (·.2) := fun z => by
    obtain ⟨p, hp, e⟩ := inT a z
    have q := (hT p hp).1
    rw [e, ha] at q
    cases q
  have gN : ∀ {b : Addr} {m : Str → Option Value}, s₁.heap.Ns b m → ∀ p ∈ cs, b ≠ p.2 := fun {b m} ⟨o, es, ep, e, d, _⟩ p hp z => by
    rw [z, (hT p hp).1] at e
    cases e
    cases d
  have core : ∀ H : Hp, OnlyT cs H → SqL K H a (ns.map V.int) → HOk P w H s₁.heap → (∀ b u, H b = some u → b ∈ cs.map (·.2) ∨ (b = a ∧ K.lookup a = none)) →
      codeAny (model P w) callerA (.call (.ref fa) ⟨[.ref a], []⟩) (fun r s' => r = .ok (.ret (.bool true)) ∧ OldK s₁.heap s'.heap ∧ s'.os = s₁.os ∧ AllBare s'.gens) s₁ := fun H hO hS hok hA => by
    have un0 : ∀ {b : Addr} {o : Obj}, s₁.heap.get? b = some o → (∀ xs n, o.data ≠ .seq xs n) → (∀ xs, o.data ≠ .fields xs) → H b = none := fun {b o} e n1 n2 => by
      cases q : H b with
      | none => rfl
      | some u =>
        rcases hA b u q with z | ⟨z, _⟩
        · obtain ⟨p, hp, ep⟩ := inT b z
          rw [← ep, (hT p hp).1] at e
          cases e
          exact absurd rfl (n2 _)
        · rw [z, ha] at e
          cases e
          exact absurd rfl (n1 _ _)
    have toK : ∀ {b : Addr} {m : Str → Option Value}, s₁.heap.Ns b m → (hidT s₁.heap H).Ns b m := fun {b m} ⟨o, es, ep, e, d, r⟩ => ⟨o, es, ep, hidT_get e (un0 e (fun _ _ z => by rw [d] at z; cases z) fun _ z => by rw [d] at z; cases z), d, r⟩
    have KB : K.In (hidT s₁.heap H) := fun b o e => hidT_get (KX b o e) (by
      cases q : H b with
      | none => rfl
      | some u =>
        rcases hA b u q with z | ⟨z, y⟩
        · obtain ⟨p, hp, ep⟩ := inT b z
          rw [← ep, (hT p hp).2.1] at e
          cases e
        · rw [z, y] at e
          cases e)
    have md : Mod K mg (hidT s₁.heap H) := ⟨KB, toK hns, ⟨mb, toK hb, hbb⟩, let ⟨mc, h1, h2⟩ := hlim; ⟨mc, toK h1, h2⟩⟩
    have TB : ∀ p ∈ cs, LamX.TabB (hidT s₁.heap H) mg p.1 p.2 := fun p hp => by
      obtain ⟨bm, ob, b1, b2, b3, b4, b5, b6⟩ := hbm
      refine NdefX.tabB_of_K KB (hT p hp).2.2 ⟨bm, ob, b1, b2, fun z => ?_, fun z => ?_, hidT_get b3 (un0 b3 (fun _ _ z => by rw [b6] at z; cases z) fun _ z => by rw [b6] at z; cases z), b4, b5, b6⟩ (gN hns p hp)
      · obtain ⟨o, es, ep, e, d, _⟩ := hns
        rw [z, e] at b3
        cases b3
        rw [d] at b6
        cases b6
      · rw [z, (hT p hp).1] at b3
        cases b3
        cases b6
    have e0 : Env0 P w K mg (hidT s₁.heap H) callerA [] s₁ H := ⟨rfl, md, fun b o e => of_hidT e, Nat.le_of_eq (hidT_size _ _), trivial, fun b hb => (by cases hb), hok, .of_eq hg⟩
    refine codeAny_mono ((F _ KB (toK hns) TB).go callerA [] s₁ H ⟨[.ref a], []⟩ [.ref a] [.ref a] _ _ hr rfl e0 (hbd s₁ (.ref a)) (.cons rfl .nil) (hsp H hO hS)) fun r s' h => ?_
    match r, h with
    | .error e, h => exact (hCX H e s' h).elim
    | .ok (.ret u), ⟨v, H', os, bare, un, hok', r', q⟩ =>
      have q' : v = .bl true := q
      subst q'
      obtain rfl : u = Value.bool true := r'
      have all : ∀ b o, s₁.heap.get? b = some o → s'.heap.get? b = some o ∨ ∃ p ∈ cs, p.2 = b ∧ o = tab0 ∧ ∃ more, s'.heap.get? b = some { cls := .none, data := .fields (#[] ++ more) } := fun b o e => by
        cases q : H b with
        | none => exact .inl (un.keep b o e q (fun z => by cases z) (by simp))
        | some u =>
          rcases hO.oth b u q with z | ⟨ob, xs, z⟩
          · obtain ⟨p, hp, ep⟩ := inT b z
            obtain ⟨more, y⟩ := un.tbls p.2 #[] (hO.tab p hp)
            subst ep
            rw [(hT p hp).1] at e
            cases e
            exact .inr ⟨p, hp, rfl, rfl, more, hok' p.2 _ y⟩
          · subst z
            have e1 := (hok b _ q).1
            have e2 := (hok' b _ (un.frzs b ob _ q)).1
            rw [e] at e1
            cases e1
            exact .inl e2
      refine ⟨rfl, ⟨fun b o e => ?_, fun b o e => ?_⟩, os, bare⟩
      · rcases all b o e with z | ⟨p, hp, ep, eo, more, y⟩
        · exact .inl z
        · subst ep eo
          exact .inr (.inl ⟨((PySem.W.codeHd_of_K KX (hT p hp).2.2).tab (hT p hp).1).isCodeTable, rfl, #[], more, rfl, y⟩)
      · rcases all b o e with z | ⟨p, hp, ep, eo, more, y⟩
        · exact ⟨o, z⟩
        · exact ⟨_, y⟩
  have hTok : ∀ {H : Hp} {b : Addr} {u : HO}, b ∈ cs.map (·.2) → u = .tbl #[] → ObjOk P w H s₁.heap b u := fun {H b u} hb hu => by
    obtain ⟨p, hp, ep⟩ := inT b hb
    subst ep hu
    exact (hT p hp).1
  have mT : ∀ p ∈ cs, p.2 ∈ cs.map (·.2) := fun p hp => List.mem_map.mpr ⟨p, hp, rfl⟩
  cases hk : K.lookup a with
  | some o =>
    have e := KX a o hk
    rw [ha] at e
    cases e
    have of_ : ∀ {b : Addr} {u : HO}, (if b ∈ cs.map (·.2) then some (HO.tbl #[]) else none) = some u → b ∈ cs.map (·.2) ∧ u = .tbl #[] := fun {b u} z => by
      by_cases hb : b ∈ cs.map (·.2)
      · rw [if_pos hb] at z
        exact ⟨hb, (Option.some.inj z).symm⟩
      · rw [if_neg hb] at z
        cases z
    exact core (fun b => if b ∈ cs.map (·.2) then some (.tbl #[]) else none) ⟨fun p hp => if_pos (mT p hp), fun b u z => .inl (of_ z).1⟩ (.inr ⟨_, vs.toArray, _, hk, rfl, rfl, rfl, by rw [List.size_toArray, hi.length]; exact hl, by simpa using rv⟩)
      (fun b u z => hTok (of_ z).1 (of_ z).2) fun b u z => .inl (of_ z).1
  | none =>
    have of_ : ∀ {b : Addr} {u : HO}, (if b = a then some (HO.frz { cls := .type "list", data := .seq vs.toArray } (.lst (ns.map V.int))) else if b ∈ cs.map (·.2) then some (HO.tbl #[]) else none) = some u →
        (b = a ∧ u = .frz { cls := .type "list", data := .seq vs.toArray } (.lst (ns.map V.int))) ∨ (b ∈ cs.map (·.2) ∧ u = .tbl #[]) := fun {b u} z => by
      by_cases hb : b = a
      · rw [if_pos hb] at z
        exact .inl ⟨hb, (Option.some.inj z).symm⟩
      · rw [if_neg hb] at z
        by_cases hb2 : b ∈ cs.map (·.2)
        · rw [if_pos hb2] at z
          exact .inr ⟨hb2, (Option.some.inj z).symm⟩
        · rw [if_neg hb2] at z
          cases z
    refine core (fun b => if b = a then some (.frz { cls := .type "list", data := .seq vs.toArray } (.lst (ns.map V.int))) else if b ∈ cs.map (·.2) then some (.tbl #[]) else none)
      ⟨fun p hp => by rw [if_neg fun z => aT (by rw [← z]; exact mT p hp), if_pos (mT p hp)], fun b u z => ?_⟩ (.inl (.inr ⟨{ cls := .type "list", data := .seq vs.toArray }, if_pos rfl⟩)) (fun b u z => ?_) (fun b u z => ?_)
    · rcases of_ z with ⟨_, y⟩ | ⟨y, _⟩
      · exact .inr ⟨_, _, y⟩
      · exact .inl y
    · rcases of_ z with ⟨rfl, rfl⟩ | ⟨y1, y2⟩
      · exact ⟨ha, by rw [List.length_map]; exact hl, vs, _, rv, ha⟩
      · exact hTok y1 y2
    · rcases of_ z with ⟨y, _⟩ | ⟨y, _⟩
      · exact .inr ⟨y, hk⟩
      · exact .inl y
/-- the goal that the head leaves, from the law's promise -/
theorem walk_ofT {l : PySem.W.OpenLaw} {n k : Nat} {q : Program} {loose : List Str} {XP : (Str → Option Value) → Heap → Prop} {YP : World → Heap → Prop} {d : DefRec} {K : Params → PySem.W.Frag} {CX : World → CXT} {sp : World → Sp} {x : Str}
    (hn : l.most = some n) (hn2 : n ≤ sizeLine) (hdf : d.params.defaults = []) (hr : Room k callerA) (hY : ∀ (w : World) (h : Heap), YP w h → (K w.params).In h)
    (F : ∀ (w : World) (mg : Str → Option Value) (fa : Addr) (h : Heap), YP w h → (K w.params).In h → h.Ns mainGlobals mg → mg d.name = some (.ref fa) →
      ∃ (fd : FuncData) (cs : List (Addr × Addr)), (∀ p ∈ cs, h.get? p.2 = some tab0 ∧ (K w.params).lookup p.2 = none ∧ PySem.W.codeHdIn (K w.params) p.1 p.2 = true) ∧ (∀ P q, TbN (K w.params) P q → P ∈ cs.map (·.2)) ∧ (∀ (s : Shared) (u : Value), BindsTo s fd ⟨[u], []⟩ [(x, u)]) ∧
        ∀ base : Heap, (K w.params).In base → base.Ns mainGlobals mg → (∀ p ∈ cs, LamX.TabB base mg p.1 p.2) → FnG l.prog w (K w.params) mg base (CX w) k fa fd [x] (sp w))
    (hsp : ∀ (w : World) (H : Hp) (a : Addr) (ns : List Int), ns.length ≤ n → TabK (K w.params) H → SqL (K w.params) H a (ns.map V.int) → sp w [.ref a] H (fun v _ => v = .bl true) fun _ _ _ => False)
    (hCX : ∀ (w : World) (H : Hp) (s : Shared) (e : Value) (s' : Shared), CX w [] H s (fun _ _ _ => False) e s' → False) : PySem.W.WalkO q loose XP YP l.row.toRowW d [] (fun f vs => PySem.call f vs) :=
  Att.attach_call hn hdf fun w s₀ s₁ mg mb fa o pm cd doc a vs ns G Y ho hd hcd hmg hobj hints hlen hg => by
    have KX := hY w _ Y
    obtain ⟨fd, cs, hT, hcs, hb, hF⟩ := F w mg fa _ Y KX G.T.g hmg
    refine law_callT KX G.T.g G.T.b G.T.builtins G.T.nolimit hg G.T.bmain hT hobj hints (Nat.le_trans hlen hn2) hr hF hb (fun H hO hS => hsp w H a ns hlen (fun P q hP => ?_) hS) fun H e s' => hCX w H s₁ e s'
    obtain ⟨p, hp, e⟩ := List.mem_map.mp (hcs P q hP)
    exact LamX.TabS.nil (by rw [← e]; exact hO.tab p hp)
/-- a def that makes a lambda -/
theorem fnG_okL {P : Program} {w : World} {K : PySem.W.Frag} {mg : Str → Option Value} {base : Heap} {x qual q : Str} {st : Stmt} {f : Addr} {fd : FuncData} {N ps : List Str} {k : Nat} {F : FS} (Fu : Fun K x qual st f fd) (L : LamAt K mg base fd.code q) (S : FnScope N ps (defScope st)) (len : ∀ ws μ R, F ws μ R → ws.length = ps.length)
    (hbody : ∀ (cdv : Value) (A : Around) (fr : List Env) (s : Shared) (H : Hp) (E : XK), LamAt K mg base cdv q → Room k (A.deeper (envOfC qual (defScope st) s.heap.objs.size f cdv)) → (A.deeper (envOfC qual (defScope st) s.heap.objs.size f cdv)).guards = some [] →
      ∃ t, PSs (cxOf CX0 P w K mg base N qual (defScope st) f cdv A fr s H E).nox (defBody st) t ∧ ∀ ws μ R, F ws μ R → AS K t { nx := fun _ μ' => R (.d .none) μ', rt := R } (stG N ws) μ) : FnG P w K mg base CX0 (k + 1) f fd ps (spD K F) := by
  obtain ⟨oc, od, kV, doc, pm, an, cdv, ct, osl, rfl, lk, hcd⟩ := Fu.ex
  refine fnG_of lk hcd S (fun vs H Q E ⟨A, M, μ, ws, R, mo, r, h, _⟩ => by rw [r.length]; exact len ws μ R h) fun A fr s H vs Q E hr hgd ⟨A', M, μ, ws, R, mo, r, h, q⟩ => ?_
  obtain ⟨t, ht, hs⟩ := hbody cdv A fr s H E L hr hgd
  exact ⟨t, ht.nox, hs ws μ R h A' M _ H ⟨mo, gr_start r⟩ _ ⟨fun M' σ' H' Γ' μ' c e h => q M' H' _ _ μ' c.mo e (.d .non) h, fun M' H' v w μ' mo' e' r' h => q M' H' v w μ' mo' e' r' h, fun _ _ _ _ _ _ _ h => h.elim, fun _ _ _ _ _ _ _ h => h.elim, fun _ _ _ _ _ _ _ _ _ _ _ _ h => h.elim⟩⟩
end Pd

/-! Pd26: zip of a list and a tuple. -/
namespace L2
open PySem PySem.Spec PyProof.Rows
/-- what an iterator at it over the object at l does, its items xs: At where it stands, Sr what its object is -/
structure Src (it l : Addr) (At : Nat → Heap → Prop) (Sr : Heap → Prop) (xs : Array Value) : Prop where
  keepA : ∀ i h h', At i h → (∀ o, h.get? it = some o → h'.get? it = some o) → At i h'
  keepS : ∀ h h', Sr h → (∀ o, h.get? l = some o → h'.get? l = some o) → Sr h'
  alive : ∀ i h, At i h → it < h.objs.size
  item : ∀ (P : Program) (w : World) (A : Around) (E : Value → Shared → Prop) (s : Shared) (i : Nat) (x : Value) (Q : Value → Shared → Prop), At i s.heap → Sr s.heap → xs[i]? = some x →
    (∀ g, At (i + 1) g → Heap.SameBut it s.heap g → Q x { s with heap := g }) → wpAny (model P w) A (Builtin.SmallTypes.nextOf (.ref it)) Q E s
  stop : ∀ (P : Program) (w : World) (A : Around) (E : Value → Shared → Prop) (s : Shared) (i : Nat) (Q : Value → Shared → Prop), A.handled = none → At i s.heap → Sr s.heap → xs[i]? = none →
    (∀ g e, Heap.ExtBut it s.heap g → (∃ o, g.get? e = some o ∧ o.cls = .type "StopIteration") → E (.ref e) { s with heap := g }) → wpAny (model P w) A (Builtin.SmallTypes.nextOf (.ref it)) Q E s
theorem src_list (it l : Addr) (xs : Array Value) : Src it l (fun i h => h.IsListIter it l i) (fun h => h.IsList l xs) xs where
  keepA := fun _ _ _ a k => a.at k
  keepS := fun _ _ ⟨o, e, r⟩ k => ⟨o, k o e, r⟩
  alive := fun _ _ ⟨_, e, _⟩ => Heap.lt_size e
  item := fun _ _ _ _ _ _ _ _ a s hx q => wpAny_nextOf_list_item a s hx q
  stop := fun _ _ _ _ _ _ _ hh a s hx q => wpAny_nextOf_list_end hh a s hx q
theorem src_tup (it l : Addr) (xs : Array Value) : Src it l (fun i h => h.IsTupleIter it l i) (fun h => h.IsTuple l xs) xs where
  keepA := fun _ _ _ a k => a.at k
  keepS := fun _ _ ⟨o, e, r⟩ k => ⟨o, k o e, r⟩
  alive := fun _ _ ⟨_, e, _⟩ => Heap.lt_size e
  item := fun _ _ _ _ _ _ _ _ a s hx q => RZ.nextOf_tuple_item a s hx q
  stop := fun _ _ _ _ _ _ _ hh a s hx q => RZ.nextOf_tuple_end hh a s hx q
section
variable {P : Program} {w : World} {A : Around} {E : Value → Shared → Prop} {s : Shared} {z TI TO i1 i2 l1 l2 : Addr} {At1 At2 : Nat → Heap → Prop} {Sr1 Sr2 : Heap → Prop} {xs ys : Array Value} {n m : Nat} {a b : Value}
theorem zipS_item {x y : Value} {Q : Value → Shared → Prop} (S1 : Src i1 l1 At1 Sr1 xs) (S2 : Src i2 l2 At2 Sr2 ys) (D : ZipApart z TI TO i1 i2 l1 l2) (hz : IsZip s.heap z TI TO .none) (hI : IsPair s.heap TI (.ref i1) (.ref i2)) (hO : IsPair s.heap TO a b)
    (p1 : At1 n s.heap) (p2 : At2 m s.heap) (r1 : Sr1 s.heap) (r2 : Sr2 s.heap) (hx : xs[n]? = some x) (hy : ys[m]? = some y)
    (q : ∀ g, IsZip g z TI TO (rawInt s.heap.objs.size) → IsPair g TO x y → At1 (n + 1) g → At2 (m + 1) g → IsPair g s.heap.objs.size x y → g.objs.size = s.heap.objs.size + 1 →
      (∀ c o, c ≠ z → c ≠ TO → c ≠ i1 → c ≠ i2 → s.heap.get? c = some o → g.get? c = some o) → Q (.ref s.heap.objs.size) { s with heap := g }) :
    wpAny (model P w) A (Builtin.«zip.__next__» ⟨[.ref z], []⟩) (fun fin s' => ∃ v, fin = .done (.ret v) ∧ Q v s') E s := by
  show wpAny _ _ (field (.ref z) 2 >>= _) _ _ _
  refine wpAny_bind (wpAny_field hz rfl (x := .bool false) rfl ?_)
  show wpAny _ _ (field (.ref z) 3 >>= _) _ _ _
  refine wpAny_bind (wpAny_field hz rfl (x := .ref TI) rfl (wpAny_bind (wpAny_seqItems hI rfl ?_)))
  show wpAny _ _ (Builtin.SmallTypes.ownedTupleIsFree (.ref z) >>= _) _ _ _
  refine wpAny_bind ?_
  unfold Builtin.SmallTypes.ownedTupleIsFree
  refine wpAny_bind (wpAny_field hz rfl (x := .none) rfl (wpAny_pure ?_))
  simp only [if_true]
  refine wpAny_bind (wpAny_rule (wpAny_bind (wpAny_field hz rfl (x := .ref TO) rfl (wpAny_bind (wpAny_setField_rec hz (by simp) fun g1 z1 k1 => ?_)))))
  replace z1 : IsZip g1 z TI TO .ellipsis := z1
  refine wpAny_bind ?_
  simp only [List.zipIdx_cons, List.zipIdx_nil, List.forIn_cons, List.forIn_nil]
  refine wpAny_bind (wpAny_bind (wpAny_onRaise ?_))
  show wpAny _ _ (Builtin.SmallTypes.nextOf (.ref i1) >>= _) _ _ _
  have e1 : ∀ {c : Addr} {o : Obj}, c ≠ z → s.heap.get? c = some o → g1.get? c = some o := fun n e => k1.extBut _ _ n e
  refine wpAny_bind (S1.item _ _ _ _ _ n x _ (S1.keepA _ _ _ p1 fun o => e1 D.i1z) (S1.keepS _ _ r1 fun o => e1 D.l1z) hx fun g2 p1' k2 => wpAny_pure ?_)
  have e2 : ∀ {c : Addr} {o : Obj}, c ≠ z → c ≠ i1 → s.heap.get? c = some o → g2.get? c = some o := fun n n' e => k2.extBut _ _ n' (e1 n e)
  have hO2 : IsPair g2 TO a b := e2 D.TOz D.TOi1 hO
  refine wpAny_bind (wpAny_seqItems hO2 rfl (wpAny_bind (wpAny_updateSeq_pair hO2 fun g3 hO3 k3 => ?_)))
  replace hO3 : IsPair g3 TO x b := hO3
  have e3 : ∀ {c : Addr} {o : Obj}, c ≠ z → c ≠ i1 → c ≠ TO → s.heap.get? c = some o → g3.get? c = some o := fun n n' n'' e => k3.extBut _ _ n'' (e2 n n' e)
  refine wpAny_bind (wpAny_letGo (wpAny_pure (wpAny_bind (wpAny_bind (wpAny_onRaise ?_)))))
  show wpAny _ _ (Builtin.SmallTypes.nextOf (.ref i2) >>= _) _ _ _
  refine wpAny_bind (S2.item _ _ _ _ _ m y _ (S2.keepA _ _ _ p2 fun o => e3 D.i2z D.i12.symm D.TOi2.symm) (S2.keepS _ _ r2 fun o => e3 D.l2z D.l2i1 D.l2TO) hy fun g4 p2' k4 => wpAny_pure ?_)
  have hO4 : IsPair g4 TO x b := k4.extBut _ _ D.TOi2 hO3
  refine wpAny_bind (wpAny_seqItems hO4 rfl (wpAny_bind (wpAny_updateSeq_pair hO4 fun g5 hO5 k5 => ?_)))
  replace hO5 : IsPair g5 TO x y := hO5
  refine wpAny_bind (wpAny_letGo (wpAny_pure (wpAny_pure (wpAny_bind (wpAny_seqItems hO5 rfl (wpAny_bind (wpAny_newTuple ?_)))))))
  have sz : g5.objs.size = s.heap.objs.size := by rw [k5.1, k4.1, k3.1, k2.1, k1.1]
  have z5 : IsZip g5 z TI TO .ellipsis := k5.extBut _ _ D.TOz.symm (k4.extBut _ _ D.i2z.symm (k3.extBut _ _ D.TOz.symm (k2.extBut _ _ D.i1z.symm z1)))
  have e5 : ∀ c o, c ≠ z → c ≠ TO → c ≠ i1 → c ≠ i2 → s.heap.get? c = some o → g5.get? c = some o := fun c o n n' n'' n3 e => k5.extBut _ _ n' (k4.extBut _ _ n3 (e3 n n'' n' e))
  have q1 : At1 (n + 1) g5 := S1.keepA _ _ _ p1' fun o e => k5.extBut _ _ D.TOi1.symm (k4.extBut _ _ D.i12 (k3.extBut _ _ D.TOi1.symm e))
  have q2 : At2 (m + 1) g5 := S2.keepA _ _ _ p2' fun o e => k5.extBut _ _ D.TOi2.symm e
  have zlt : z < g5.objs.size := Heap.lt_size z5
  show wpAny _ _ (Builtin.SmallTypes.ownedTupleHandOut (.ref z) (.ref g5.objs.size) >>= _) _ _ _
  refine wpAny_bind ?_
  unfold Builtin.SmallTypes.ownedTupleHandOut
  have z6 : IsZip (g5.push { cls := .type "tuple", data := .seq #[x, y] }) z TI TO .ellipsis := Heap.get?_push_of_some _ z5
  refine wpAny_bind (wpAny_setField_rec z6 (by simp) fun g7 z7 k7 => ?_)
  replace z7 : IsZip g7 z TI TO (rawInt g5.objs.size) := z7
  refine wpAny_setField_rec z7 (by simp) fun g8 z8 k8 => ?_
  replace z8 : IsZip g8 z TI TO (rawInt g5.objs.size) := z8
  have up : ∀ c o, c ≠ z → g5.get? c = some o → g8.get? c = some o := fun c o n e => k8.extBut _ _ n (k7.extBut _ _ n (Heap.get?_push_of_some _ e))
  have hT : IsPair g8 g5.objs.size x y := k8.extBut _ _ (Nat.ne_of_gt zlt) (k7.extBut _ _ (Nat.ne_of_gt zlt) (Heap.get?_push_size _ rfl))
  have sz8 : g8.objs.size = g5.objs.size + 1 := by rw [k8.1, k7.1, Heap.size_push]
  rw [sz] at z8 hT sz8
  refine wpAny_pure ⟨_, rfl, ?_⟩
  show Q (.ref g5.objs.size) _
  rw [sz]
  exact q g8 z8 (up _ _ D.TOz hO5) (S1.keepA _ _ _ q1 fun o => up _ o D.i1z) (S2.keepA _ _ _ q2 fun o => up _ o D.i2z) hT sz8 fun c o n n' n'' n3 e => up c o n (e5 c o n n' n'' n3 e)
theorem zipS_end {Q : PySem.Fin → Shared → Prop} (hh : A.handled = none) (S1 : Src i1 l1 At1 Sr1 xs) (S2 : Src i2 l2 At2 Sr2 ys) (D : ZipApart z TI TO i1 i2 l1 l2) (hz : IsZip s.heap z TI TO .none) (hI : IsPair s.heap TI (.ref i1) (.ref i2)) (hO : IsPair s.heap TO a b)
    (p1 : At1 n s.heap) (p2 : At2 m s.heap) (r1 : Sr1 s.heap) (r2 : Sr2 s.heap) (hend : xs[n]? = none ∨ ys[m]? = none)
    (q : ∀ g e, (∀ c o, c ≠ z → c ≠ TO → c ≠ i1 → c ≠ i2 → s.heap.get? c = some o → g.get? c = some o) → (∃ o, g.get? e = some o ∧ o.cls = .type "StopIteration") → E (.ref e) { s with heap := g }) :
    wpAny (model P w) A (Builtin.«zip.__next__» ⟨[.ref z], []⟩) Q E s := by
  show wpAny _ _ (field (.ref z) 2 >>= _) _ _ _
  refine wpAny_bind (wpAny_field hz rfl (x := .bool false) rfl ?_)
  show wpAny _ _ (field (.ref z) 3 >>= _) _ _ _
  refine wpAny_bind (wpAny_field hz rfl (x := .ref TI) rfl (wpAny_bind (wpAny_seqItems hI rfl ?_)))
  show wpAny _ _ (Builtin.SmallTypes.ownedTupleIsFree (.ref z) >>= _) _ _ _
  refine wpAny_bind ?_
  unfold Builtin.SmallTypes.ownedTupleIsFree
  refine wpAny_bind (wpAny_field hz rfl (x := .none) rfl (wpAny_pure ?_))
  simp only [if_true]
  refine wpAny_bind (wpAny_rule (wpAny_bind (wpAny_field hz rfl (x := .ref TO) rfl (wpAny_bind (wpAny_setField_rec hz (by simp) fun g1 z1 k1 => ?_)))))
  replace z1 : IsZip g1 z TI TO .ellipsis := z1
  refine wpAny_bind ?_
  simp only [List.zipIdx_cons, List.zipIdx_nil, List.forIn_cons, List.forIn_nil]
  refine wpAny_bind (wpAny_bind (wpAny_onRaise ?_))
  show wpAny _ _ (Builtin.SmallTypes.nextOf (.ref i1) >>= _) _ _ _
  have e1 : ∀ {c : Addr} {o : Obj}, c ≠ z → s.heap.get? c = some o → g1.get? c = some o := fun n e => k1.extBut _ _ n e
  have a1 := S1.keepA _ _ _ p1 fun o => e1 D.i1z
  have b1 := S1.keepS _ _ r1 fun o => e1 D.l1z
  have nez : ∀ {g : Heap} {e : Addr} {oe : Obj}, IsZip g z TI TO .ellipsis → g.get? e = some oe → oe.cls = .type "StopIteration" → e ≠ z := fun {g e oe} hz he hc z' => by
    subst z'
    rw [hz] at he
    cases he
    simp at hc
  cases hx : xs[n]? with
  | none =>
    refine wpAny_bind (S1.stop _ _ _ _ _ n _ hh a1 b1 hx fun g2 e k2 ⟨oe, he, hc⟩ => ?_)
    have z2 : IsZip g2 z TI TO .ellipsis := k2 _ _ D.i1z.symm z1
    refine wpAny_setField_rec z2 (by simp) fun g3 _ k3 => q g3 e (fun c o n _ n' _ x => k3.extBut _ _ n (k2 _ _ n' (e1 n x))) ⟨oe, k3.extBut _ _ (nez z2 he hc) he, hc⟩
  | some x =>
    have hy : ys[m]? = none := hend.resolve_left fun z => by rw [hx] at z; cases z
    refine wpAny_bind (S1.item _ _ _ _ _ n x _ a1 b1 hx fun g2 _ k2 => wpAny_pure ?_)
    have e2 : ∀ {c : Addr} {o : Obj}, c ≠ z → c ≠ i1 → s.heap.get? c = some o → g2.get? c = some o := fun n n' e => k2.extBut _ _ n' (e1 n e)
    have hO2 : IsPair g2 TO a b := e2 D.TOz D.TOi1 hO
    refine wpAny_bind (wpAny_seqItems hO2 rfl (wpAny_bind (wpAny_updateSeq_pair hO2 fun g3 hO3 k3 => ?_)))
    have e3 : ∀ {c : Addr} {o : Obj}, c ≠ z → c ≠ i1 → c ≠ TO → s.heap.get? c = some o → g3.get? c = some o := fun n n' n'' e => k3.extBut _ _ n'' (e2 n n' e)
    refine wpAny_bind (wpAny_letGo (wpAny_pure (wpAny_bind (wpAny_bind (wpAny_onRaise ?_)))))
    show wpAny _ _ (Builtin.SmallTypes.nextOf (.ref i2) >>= _) _ _ _
    refine wpAny_bind (S2.stop _ _ _ _ _ m _ hh (S2.keepA _ _ _ p2 fun o => e3 D.i2z D.i12.symm D.TOi2.symm) (S2.keepS _ _ r2 fun o => e3 D.l2z D.l2i1 D.l2TO) hy fun g4 e k4 ⟨oe, he, hc⟩ => ?_)
    have z4 : IsZip g4 z TI TO .ellipsis := k4 _ _ D.i2z.symm (k3.extBut _ _ D.TOz.symm (k2.extBut _ _ D.i1z.symm z1))
    refine wpAny_setField_rec z4 (by simp) fun g5 _ k5 => q g5 e (fun c o n n' n'' n3 x => k5.extBut _ _ n (k4 _ _ n3 (e3 n n'' n' x))) ⟨oe, k5.extBut _ _ (nez z4 he hc) he, hc⟩
theorem nextS_item {x y : Value} {Q : Option Value → Shared → Prop} (S1 : Src i1 l1 At1 Sr1 xs) (S2 : Src i2 l2 At2 Sr2 ys) (D : ZipApart z TI TO i1 i2 l1 l2) (hz : IsZip s.heap z TI TO .none) (hI : IsPair s.heap TI (.ref i1) (.ref i2)) (hO : IsPair s.heap TO a b)
    (p1 : At1 n s.heap) (p2 : At2 m s.heap) (r1 : Sr1 s.heap) (r2 : Sr2 s.heap) (hx : xs[n]? = some x) (hy : ys[m]? = some y)
    (q : ∀ g, IsZip g z TI TO (rawInt s.heap.objs.size) → IsPair g TO x y → At1 (n + 1) g → At2 (m + 1) g → IsPair g s.heap.objs.size x y → g.objs.size = s.heap.objs.size + 1 →
      (∀ c o, c ≠ z → c ≠ TO → c ≠ i1 → c ≠ i2 → s.heap.get? c = some o → g.get? c = some o) → Q (some (.ref s.heap.objs.size)) { s with heap := g }) : wpAny (model P w) A (pyNext (.ref z)) Q E s := by
  have hT : s.TypeIs (.ref z) "zip" := ⟨_, hz, rfl⟩
  unfold pyNext
  refine wpAny_bind (wpAny_attempt (wpAny_callSpecial?_slot (name := Str.ofString "__next__") hT F.slot_zip_next (wpAny_call_entry F.slot_zip_next hT F.entry_zip_next ?_ (F.args_zip_next_1 _))))
  exact zipS_item S1 S2 D hz hI hO p1 p2 r1 r2 hx hy fun g a1 a2 a3 a4 a5 a6 a7 => wpAny_pure (q g a1 a2 a3 a4 a5 a6 a7)
theorem nextS_end {Q : Option Value → Shared → Prop} (hh : A.handled = none) (S1 : Src i1 l1 At1 Sr1 xs) (S2 : Src i2 l2 At2 Sr2 ys) (D : ZipApart z TI TO i1 i2 l1 l2) (hz : IsZip s.heap z TI TO .none) (hI : IsPair s.heap TI (.ref i1) (.ref i2)) (hO : IsPair s.heap TO a b)
    (p1 : At1 n s.heap) (p2 : At2 m s.heap) (r1 : Sr1 s.heap) (r2 : Sr2 s.heap) (hend : xs[n]? = none ∨ ys[m]? = none)
    (q : ∀ g, (∀ c o, c ≠ z → c ≠ TO → c ≠ i1 → c ≠ i2 → s.heap.get? c = some o → g.get? c = some o) → Q none { s with heap := g }) : wpAny (model P w) A (pyNext (.ref z)) Q E s := by
  have hT : s.TypeIs (.ref z) "zip" := ⟨_, hz, rfl⟩
  unfold pyNext
  refine wpAny_bind (wpAny_attempt (wpAny_callSpecial?_slot (name := Str.ofString "__next__") hT F.slot_zip_next (wpAny_call_entry F.slot_zip_next hT F.entry_zip_next ?_ (F.args_zip_next_1 _))))
  refine zipS_end hh S1 S2 D hz hI hO p1 p2 r1 r2 hend fun g e k ⟨o, he, hc⟩ => ?_
  exact wpAny_bind (wpAny_isInstance (T := "StopIteration") (b := true) ⟨o, he, hc⟩ isSubtype_stop (wpAny_pure (q _ k)))
end
/-! the making of it -/
abbrev objIL (l : Addr) : Obj := { cls := .type "list_iterator", data := .fields #[.ref l, .int 0 0] }
abbrev objIT (l : Addr) : Obj := { cls := .type "tuple_iterator", data := .fields #[.ref l, .int 0 0] }
abbrev zm2 (h : Heap) (l k : Addr) : Heap := (h.push (objIL l)).push (objIT k)
abbrev zm3 (h : Heap) (l k : Addr) : Heap := (zm2 h l k).push { cls := .type "tuple", data := .seq #[.ref h.objs.size, .ref (h.push (objIL l)).objs.size] }
abbrev zm4 (h : Heap) (l k : Addr) : Heap := (zm3 h l k).push { cls := .type "tuple", data := .seq #[.none, .none] }
abbrev zm5 (h : Heap) (l k : Addr) : Heap := (zm4 h l k).push { cls := .type "zip", data := .fields #[.none, .bool false, .bool false, .ref (zm2 h l k).objs.size, .ref (zm3 h l k).objs.size] }
theorem meets_zm (l k : Addr) (xs ys : Array Value) : Meets (Builtin.«zip.__new__» ⟨[.type "zip", .ref l, .ref k], []⟩) (fun _ R s => s.heap.IsList l xs ∧ s.heap.IsTuple k ys ∧ R (.ok (.ret (.ref (zm4 s.heap l k).objs.size))) { s with heap := zm5 s.heap l k }) :=
  .of_wp fun prog w A R s h => by
    obtain ⟨hp, g, d, tk, os⟩ := s
    obtain ⟨q1, q2, h⟩ := h
    have hsub := sub_zip
    have p1 : Heap.IsList (Shared.heap ⟨hp, g, d, tk, os⟩) l xs := q1
    have p2 : Heap.IsTuple (Shared.heap ⟨hp.push (objIL l), g, d, tk, os⟩) k ys := Heap.IsTuple.push q2 _
    wp_walk using wpAny_pyIter_list p1, wpAny_pyIter_tuple p2
    exact ⟨_, rfl, h⟩
theorem call_zm {P : Program} {w : World} {A : Around} {E : Value → Shared → Prop} {s : Shared} {l k : Addr} {xs ys : Array Value} {Q : Value → Shared → Prop} (h1 : s.heap.IsList l xs) (h2 : s.heap.IsTuple k ys)
    (q : ∀ g, IsZip g (s.heap.objs.size + 4) (s.heap.objs.size + 2) (s.heap.objs.size + 3) .none → IsPair g (s.heap.objs.size + 2) (.ref s.heap.objs.size) (.ref (s.heap.objs.size + 1)) → IsPair g (s.heap.objs.size + 3) .none .none →
      g.IsListIter s.heap.objs.size l 0 → g.IsTupleIter (s.heap.objs.size + 1) k 0 → (∀ c o, s.heap.get? c = some o → g.get? c = some o) → Q (.ref (s.heap.objs.size + 4)) { s with heap := g }) : wpAny (model P w) A (call (.type "zip") [.ref l, .ref k]) Q E s := by
  refine callType_new F.called_zip (by decide) (F.typeCall_zip_2 _ _) (F.newCall_zip_2 _ _) (fun obj => F.args_object_init_3 obj _ _) F.entry_zip_new (meets_zm l k xs ys) ⟨h1, h2, ?_⟩
  have n1 : (s.heap.push (objIL l)).objs.size = s.heap.objs.size + 1 := Heap.size_push ..
  have n2 : (zm2 s.heap l k).objs.size = s.heap.objs.size + 2 := by rw [Heap.size_push, n1]
  have n3 : (zm3 s.heap l k).objs.size = s.heap.objs.size + 3 := by rw [Heap.size_push, n2]
  have n4 : (zm4 s.heap l k).objs.size = s.heap.objs.size + 4 := by rw [Heap.size_push, n3]
  have f5 : (zm5 s.heap l k).get? (zm4 s.heap l k).objs.size = some _ := Heap.get?_push_size _ rfl
  have u5 : ∀ c o, (zm4 s.heap l k).get? c = some o → (zm5 s.heap l k).get? c = some o := fun c o e => Heap.get?_push_of_some _ e
  have u4 : ∀ c o, (zm3 s.heap l k).get? c = some o → (zm5 s.heap l k).get? c = some o := fun c o e => u5 c o (Heap.get?_push_of_some _ e)
  have u3 : ∀ c o, (zm2 s.heap l k).get? c = some o → (zm5 s.heap l k).get? c = some o := fun c o e => u4 c o (Heap.get?_push_of_some _ e)
  have u2 : ∀ c o, (s.heap.push (objIL l)).get? c = some o → (zm5 s.heap l k).get? c = some o := fun c o e => u3 c o (Heap.get?_push_of_some _ e)
  have f4 : (zm5 s.heap l k).get? (zm3 s.heap l k).objs.size = some _ := u5 _ _ (Heap.get?_push_size _ rfl)
  have f3 : (zm5 s.heap l k).get? (zm2 s.heap l k).objs.size = some _ := u4 _ _ (Heap.get?_push_size _ rfl)
  have f2 : (zm5 s.heap l k).get? (s.heap.push (objIL l)).objs.size = some _ := u3 _ _ (Heap.get?_push_size _ rfl)
  have f1 : (zm5 s.heap l k).get? s.heap.objs.size = some _ := u2 _ _ (Heap.get?_push_size _ rfl)
  show _ ∧ _
  rw [n2, n3, n4] at f5
  rw [n1, n2] at f3
  rw [n3] at f4
  rw [n1] at f2
  rw [n4]
  exact ⟨⟨_, f5, rfl⟩, q _ f5 f3 f4 ⟨_, f1, rfl, rfl⟩ ⟨_, f2, rfl, rfl⟩ fun c o e => u2 c o (Heap.get?_push_of_some _ e)⟩
/-- the list at a, the tuple at b, as they stand at each turn -/
def ItzM (K : PySem.W.Frag) (a b : Addr) : It :=
  ⟨fun i H => ∃ (xs ys : List V) (x y : V), SqL K H a xs ∧ SqT K H b ys ∧ xs[i]? = some x ∧ ys[i]? = some y,
    fun i H v H' => ∃ T x y, v = .ref T ∧ H T = none ∧ H' = upd H T (.tup [x, y]) ∧ (∀ xs, SqL K H a xs → xs[i]? = some x) ∧ ∀ ys, SqT K H b ys → ys[i]? = some y,
    fun i H => ∃ xs ys : List V, SqL K H a xs ∧ SqT K H b ys ∧ (xs.length ≤ i ∨ ys.length ≤ i)⟩
theorem five {z TI TO i1 i2 c : Addr} (h : c ∈ [z, TI, TO, i1, i2]) : c = z ∨ c = TI ∨ c = TO ∨ c = i1 ∨ c = i2 := by simpa using h
theorem turn_zm {P : Program} {w : World} {K : PySem.W.Frag} {elts : List Expr} {kk : Nat} {tpos : Pos} {a b z TI TO i1 i2 : Addr} (D : ZipApart z TI TO i1 i2 a b) :
    Turn P w K (.Tuple elts kk tpos) (ItzM K a b) [z, TI, TO, i1, i2] z (fun i h => IsZip h z TI TO .none ∧ IsPair h TI (.ref i1) (.ref i2) ∧ (∃ x y, IsPair h TO x y) ∧ h.IsListIter i1 a i ∧ h.IsTupleIter i2 b i) where
  mem := List.mem_cons_self
  obj := fun i h ⟨hz, hI, ⟨x, y, hO⟩, ⟨o1, e1, _, d1⟩, ⟨o2, e2, _, d2⟩⟩ c hc => by
    rcases five hc with rfl | rfl | rfl | rfl | rfl
    · exact ⟨_, hz, fun v q => nomatch q⟩
    · exact ⟨_, hI, fun v q => nomatch q⟩
    · exact ⟨_, hO, fun v q => nomatch q⟩
    · exact ⟨o1, e1, fun v q => by rw [d1] at q; cases q⟩
    · exact ⟨o2, e2, fun v q => by rw [d2] at q; cases q⟩
  keep := fun i h h' ⟨hz, hI, ⟨x, y, hO⟩, h1, h2⟩ k => ⟨k z (by simp) _ hz, k TI (by simp) _ hI, ⟨x, y, k TO (by simp) _ hO⟩, h1.at fun o q => k i1 (by simp) o q, h2.at fun o q => k i2 (by simp) o q⟩
  item := by
    intro X hP hw hK hc i pins s σ H E I hf ⟨hz, hI, ⟨x0, y0, hO⟩, h1, h2⟩ ⟨xs, ys, x, y, qx, qy, hx, hy⟩
    subst hP hw hK
    obtain ⟨us, rv, p1, _⟩ := I.list qx
    obtain ⟨us2, rv2, p2, _⟩ := I.tuple qy
    obtain ⟨u, hu, ru⟩ := rv.get hx
    obtain ⟨u2, hu2, ru2⟩ := rv2.get hy
    have zlt : z < s.heap.objs.size := Heap.lt_size hz
    refine nextS_item (src_list i1 a us.toArray) (src_tup i2 b us2.toArray) D hz hI hO h1 h2 p1.isList p2 (x := u) (y := u2) (by simpa using hu) (by simpa using hu2) fun g z' O' h1' h2' hT hsz hk => ?_
    refine ⟨_, rfl, wpAny_letOwnedTupleGo_zip (s := { s with heap := g }) z' fun g' z'' sb => ?_⟩
    have hT2 : g'.get? s.heap.objs.size = some { cls := .type "tuple", data := .seq #[u, u2] } := (sb.2 _ (Nat.ne_of_gt zlt)).trans hT
    have nin : ∀ {c : Addr}, c ∉ [z, TI, TO, i1, i2] → c ≠ z ∧ c ≠ TO ∧ c ≠ i1 ∧ c ≠ i2 := fun {c} hc => by
      simp only [List.mem_cons, List.not_mem_nil, or_false, not_or] at hc
      exact ⟨hc.1, hc.2.2.1, hc.2.2.2.1, hc.2.2.2.2⟩
    have new : ObjOk X.prog X.w (upd H s.heap.objs.size (.tup [x, y])) g' s.heap.objs.size (.tup [x, y]) := ⟨by show 2 ≤ sizeLine; decide, [u, u2], .cons ru (.cons ru2 .nil), ⟨_, hT2, rfl, _, rfl⟩⟩
    have I1 : Inv X pins σ (upd H s.heap.objs.size (.tup [x, y])) { s with heap := g' } :=
      I.turnedNew (t' := s.toks) (ch := [z, TI, TO, i1, i2]) (fun c o hc e => (sb.2 c (nin hc).1).trans (hk c o (nin hc).1 (nin hc).2.1 (nin hc).2.2.1 (nin hc).2.2.2 e)) hf (Nat.le_refl _) new
    refine ⟨.ref s.heap.objs.size, _, I1, rfl, ⟨_, x, y, rfl, I.hok.fresh (Nat.le_refl _), rfl, fun l hl => by rw [I.list_inj hl qx]; exact hx, fun l hl => by rw [I.tuple_inj hl qy]; exact hy⟩, ⟨z'', ?_, ⟨u, u2, ?_⟩, ?_, ?_⟩, fun c hcm => ?_⟩
    · exact (sb.2 _ D.TIz).trans (hk _ _ D.TIz D.TITO D.TIi1 D.TIi2 hI)
    · exact (sb.2 _ D.TOz).trans O'
    · exact h1'.at fun o q => (sb.2 _ D.i1z).trans q
    · exact h2'.at fun o q => (sb.2 _ D.i2z).trans q
    · have hlt : c < s.heap.objs.size := by
        rcases five hcm with rfl | rfl | rfl | rfl | rfl
        · exact zlt
        · exact Heap.lt_size hI
        · exact Heap.lt_size hO
        · obtain ⟨_, e, _⟩ := h1
          exact Heap.lt_size e
        · obtain ⟨_, e, _⟩ := h2
          exact Heap.lt_size e
      rw [upd_ne (Nat.ne_of_lt hlt)]
      exact (hf c hcm).1
  done := by
    intro X hP hw hK hc i pins s σ H E I hf ⟨hz, hI, ⟨x0, y0, hO⟩, h1, h2⟩ ⟨xs, ys, qx, qy, hend⟩
    subst hP hw hK
    obtain ⟨us, rv, p1, _⟩ := I.list qx
    obtain ⟨us2, rv2, p2, _⟩ := I.tuple qy
    have l1 := rv.length
    have l2 := rv2.length
    have he : us.toArray[i]? = none ∨ us2.toArray[i]? = none := hend.imp (fun q => by simp; omega) fun q => by simp; omega
    refine nextS_end (I.ok.hd hc) (src_list i1 a us.toArray) (src_tup i2 b us2.toArray) D hz hI hO h1 h2 p1.isList p2 he fun g hk => ⟨rfl, I.turnedL (t' := s.toks) (ch := [z, TI, TO, i1, i2]) (fun c o hc e => ?_) hf⟩
    simp only [List.mem_cons, List.not_mem_nil, or_false, not_or] at hc
    exact hk c o hc.1 hc.2.2.1 hc.2.2.2.1 hc.2.2.2.2 e
  self := fun A i s Q E st h => wpAny_pyIter_zip st.1 h
def iZipM (K : PySem.W.Frag) (ta : TA) : TI := fun σ H R => ta σ H fun vs H1 => ∃ a b xs ys, vs = [.ref a, .ref b] ∧ SqL K H1 a xs ∧ SqT K H1 b ys ∧ R (ItzM K a b) H1
theorem pi_zipM {X : Cx} {e e2 : Expr} {ta : TA} {p pos tpos : Pos} {elts : List Expr} {kk : Nat} (hg : Gl X "zip") (hm : X.mg "zip" = none) (ha : PA X [e, e2] ta) (n1 : starEach [e, e2] X.env = (false, eval e X.env) :: starEach [e2] X.env := by rfl) (n2 : (backTo pos (starEach [e2] X.env)).any (·.1) = false := by rfl) :
    PI X (.Tuple elts kk tpos) (.Call (.Name "zip" p) [e, e2] [] pos) (iZipM X.K ta) := by
  refine ⟨fun pins s σ H R I h => Call_ (ld_blt I hg hm PyProof.Rows.boot_zip (PyProof.Rows.callWith_type1 (thn (ha.run pos pins s σ H _ I h) fun us s1 ⟨vs, H1, I1, r1, a, b, xs, ys, ex, qx, qy, q⟩ => ?_) n1 n2))⟩
  subst ex
  cases r1 with
  | cons r rr =>
    cases rr with
    | cons r' rr =>
      cases rr
      cases r
      cases r'
      obtain ⟨us, rv, p1, _⟩ := I1.list qx
      obtain ⟨us2, rv2, p2, _⟩ := I1.tuple qy
      obtain ⟨o2, ho2, _⟩ := id p2
      have fr : ∀ c, c ∈ [s1.heap.objs.size + 4, s1.heap.objs.size + 2, s1.heap.objs.size + 3, s1.heap.objs.size, s1.heap.objs.size + 1] → FpOk X pins H1 c := fun c hc => by
        have hle : s1.heap.objs.size ≤ c := by
          rcases five hc with z | z | z | z | z <;> rw [z] <;> first | exact Nat.le_refl _ | exact Nat.le_add_right _ _
        exact I1.fpOk hle (I1.hok.fresh hle)
      refine call_zm p1.isList (show s1.heap.IsTuple b us2.toArray from p2) fun g hz hI hO h1 h2 hk => wpAny_pyIter_zip hz ?_
      have I2 : Inv X pins σ H1 { s1 with heap := g } := I1.kept (t' := s1.toks) hk
      exact ⟨s1.heap.objs.size + 4, [s1.heap.objs.size + 4, s1.heap.objs.size + 2, s1.heap.objs.size + 3, s1.heap.objs.size, s1.heap.objs.size + 1], _, _, H1, rfl, I2, turn_zm (PySem.W.ktu_apart s1.heap.objs.size a b p1.lt (Heap.lt_size ho2)), ⟨hz, hI, ⟨_, _, hO⟩, h1, h2⟩, fr, q⟩
end L2
namespace Pd
open PySem PySem.Spec L2
open Evl (Ex)
open PyProof.Rows
theorem ai_zipM {K : PySem.W.Frag} {Γ : G} {μ : Mu} {ta : TA} {R : List W → (Mu → Prop) → Mu → Prop} (h : AXA K ta Γ μ fun ws μ1 => ∃ w1 w2 xs ys, ws = [w1, w2] ∧ LW μ1 w1 xs ∧ TW w2 ys ∧ R (List.zipWith pairW xs ys) (fun μ' => LW μ' w1 xs) μ1) : AI K (iZipM K ta) Γ μ R := fun A M σ H c Q q =>
  h A M σ H c _ fun M1 H1 vs ws μ1 mo1 e1 r1 ⟨w1, w2, zs, zs2, hw, hl1, hl2, hR⟩ => by
    subst hw
    cases r1 with
    | cons ra rn =>
      cases rn with
      | cons rb rn =>
        cases rn
        obtain ⟨a, us, rfl, hs, rs⟩ := hl1.get mo1 ra
        obtain ⟨b, us2, rfl, hs2, rs2⟩ := hl2.get rb
        refine ⟨a, b, us, us2, rfl, hs, Evl.ex_t vw_le hs2, q M1 H1 _ _ _ μ1 mo1 e1 (fun A' M' H' μ' mo' ex pr hS i => ?_) hR⟩
        obtain ⟨a2, u1, ea, hu, ru⟩ := LW.get mo' (ra.mono ex pr) hS
        cases ea
        obtain ⟨b2, u2, eb, hu2, ru2⟩ := hl2.get (rb.mono ex pr)
        cases eb
        have hu2 := Evl.ex_t vw_le hu2
        refine ⟨fun w' hw => ?_, fun hn => ⟨u1, u2, hu, hu2, ?_⟩⟩
        · rw [List.getElem?_zipWith] at hw
          cases hz : zs[i]? with
          | none => rw [hz] at hw; cases hw
          | some z =>
            cases hz2 : zs2[i]? with
            | none => rw [hz, hz2] at hw; cases hw
            | some z2 =>
              rw [hz, hz2] at hw
              cases hw
              obtain ⟨y, hy, ry⟩ := ru.getW hz
              obtain ⟨y2, hy2, ry2⟩ := ru2.getW hz2
              refine ⟨⟨u1, u2, y, y2, hu, hu2, hy, hy2⟩, fun x H2 ⟨T, x2, x3, ev, hT, eH, hx, hx3⟩ => ?_⟩
              subst ev eH
              have z1 : y = x2 := Option.some.inj (hy.symm.trans (hx u1 hu))
              subst z1
              have z2 : y2 = x3 := Option.some.inj (hy2.symm.trans (hx3 u2 hu2))
              subst z2
              exact ⟨Ex.new hT, vr_pair mo' hT ry ry2⟩
        · rw [List.getElem?_zipWith] at hn
          rw [ru.length, ru2.length]
          by_cases h1 : i < zs.length
          · by_cases h2 : i < zs2.length
            · rw [List.getElem?_eq_getElem h1, List.getElem?_eq_getElem h2] at hn
              cases hn
            · exact .inr (by omega)
          · exact .inl (by omega)
/-- xs.index(i), ints -/
theorem am_indexI {K : PySem.W.Frag} {μ : Mu} {R : W → Mu → Prop} {x : W} {ns : List Int} {i : Int} (hx : LW μ x (wInts ns)) (hi : i ∈ ns) (q : R (.d (.int (ns.idxOf i : Nat))) μ) : AM K (rIndex K) x [.d (.int i)] μ R := fun A M H v vs mo rv rs Q h => by
  obtain ⟨a, us, rfl, hs, ru⟩ := hx.get mo rv
  have e := vrs_int ru
  subst e
  cases rs with
  | cons ri rn =>
    cases rn
    rw [vr_int ri]
    have hl := List.idxOf_lt_length_of_mem hi
    refine ⟨a, _, _, ns.idxOf i, .int ns[ns.idxOf i], rfl, rfl, hs, rfl, flat_ints ns, by rw [List.getElem?_map, List.getElem?_eq_getElem hl]; rfl, ?_, fun m z hm hz => ?_, h M H _ _ μ mo Eff.refl (.d (.int _)) q⟩
    · show (ns[ns.idxOf i] == i) = true
      rw [List.getElem_idxOf hl]
      exact beq_self_eq_true _
    · have hml : m < ns.length := by omega
      rw [List.getElem?_map, List.getElem?_eq_getElem hml] at hz
      cases hz
      show (ns[m] == i) = false
      have z := List.not_of_lt_findIdx (p := fun a => a == i) (xs := ns) hm
      exact z
end Pd

/-! Pd27: [.., *xs]; == of data with bools at like places. -/
namespace Pd
open PySem PySem.Spec L2
open Evl (Ex)
open PyProof.Rows
section
variable {K : PySem.W.Frag} {Γ : G} {μ : Mu} {te : TE} {tr : TA} {RA : List W → Mu → Prop}
theorem aa_starL (h : AX K te Γ μ fun x μ1 => ∃ ws, LW μ1 x ws ∧ AXA K tr Γ μ1 fun us μ2 => RA (ws ++ us) μ2) : AXA K (StX.tStar K te tr) Γ μ RA := fun A M σ H c Q q =>
  h A M σ H c _ fun M1 H1 v x μ1 mo1 e1 r1 ⟨ws, hl, h1⟩ => by
    obtain ⟨a, vs, rfl, hs, rs⟩ := hl.get mo1 r1
    exact ⟨a, vs, rfl, .inr hs, h1 A M1 σ H1 (c.eff e1 mo1) _ fun M2 H2 us ys μ2 mo2 e2 r2 h2 => q M2 H2 (vs ++ us) (ws ++ ys) μ2 mo2 (e1.trans e2) ((rs.mono e2.ex e2.pre).append r2) h2⟩
/-- what holds behind a statement -/
theorem as_mid {t : TS} {D : AEn} (Mid : G → Mu → Prop) (h : AS K t { D with nx := Mid } Γ μ) (k : ∀ Γ1 μ1, Mid Γ1 μ1 → D.nx Γ1 μ1) : AS K t D Γ μ := as_weak h k (fun _ _ z => z) (fun _ _ z => z) fun _ _ z => z
/-- a comprehension with a test, that changes nothing -/
theorem ax_lcF {wi : TI} {g : TG} {tt : TT} {vs : List Nat} {R : W → Mu → Prop} {α : Type} (f : α → W) (ns : List α) (pf : α → Bool) (gf : α → W) (hz : ns.length ≤ sizeLine) (hw : WipeOk g vs) (h : AI K wi Γ μ fun items S μ1 => items = ns.map f ∧ S μ ∧ μ1 = μ)
    (hs : ∀ x, x ∈ ns → AG K g (f x) (wipeG Γ vs) μ fun Γ2 μ2 => AXT K tt Γ2 μ2 fun b μ3 => b = pf x ∧ μ3 = μ ∧ (b = true → AX K te Γ2 μ3 fun w μ4 => w = gf x ∧ μ4 = μ)) (q : NL ((ns.filter pf).map gf) μ R) : AX K (tLc wi g tt te vs) Γ μ R := by
  refine ax_lc f ns (fun pre acc μ' => acc = (pre.filter pf).map gf ∧ μ' = μ) hz hw ?_ ?_ ?_
  · refine ai_weak h fun items S μ1 ⟨a, b, c⟩ => ⟨a, fun pre acc μ' e => ?_, rfl, c⟩
    rw [e.2]
    exact b
  · rintro pre x post acc μ' e hl ⟨rfl, rfl⟩
    refine ag_weak (hs x (by rw [e]; simp)) fun Γ2 μ2 h2 => ?_
    intro A M σ H c Q q
    refine h2 A M σ H c Q fun M1 H1 b μ1 mo1 e1 ⟨hb, hm, hk⟩ => q M1 H1 b μ1 mo1 e1 ?_
    subst hb
    cases hp : pf x with
    | true =>
      rw [if_pos rfl]
      refine ax_weak (hk hp) fun w μ4 h4 => ⟨?_, h4.2⟩
      rw [h4.1, List.filter_append, List.filter_cons, if_pos hp, List.filter_nil, List.map_append]
      rfl
    | false =>
      rw [if_neg (by decide)]
      refine ⟨?_, hm⟩
      rw [List.filter_append, List.filter_cons, if_neg (by rw [hp]; decide), List.filter_nil, List.append_nil]
  · rintro acc μ' ⟨rfl, rfl⟩
    exact q
end
theorem cut_tail1 (x : W) (xs : List W) : cutW (x :: xs) (some 1) none = xs := by
  unfold cutW
  rw [show (some (1 : Int)) = some ((1 : Nat) : Int) from rfl, HT.sIx_none, HT.sIx_nat, List.length_cons, Nat.min_eq_left (by omega), List.drop_succ_cons, List.drop_zero, List.take_of_length_le (by omega)]
theorem cut_init (x : W) (xs : List W) : cutW (xs ++ [x]) none (some (-1)) = xs := by
  unfold cutW
  have e : HT.sIx (xs ++ [x]).length (xs ++ [x]).length (some (-1)) = xs.length := by
    unfold HT.sIx
    simp
    try omega
  rw [e, HT.sIx_none, List.drop_zero, Nat.sub_zero, List.take_left]
theorem cut_dropN (xs : List W) (n : Nat) : cutW xs (some (n : Int)) none = xs.drop n := by
  unfold cutW
  rw [HT.sIx_none, HT.sIx_nat]
  by_cases h : n ≤ xs.length
  · rw [Nat.min_eq_left h, List.take_of_length_le (by simp)]
  · rw [Nat.min_eq_right (by omega), Nat.sub_self, List.take_zero, List.drop_eq_nil_of_le (by omega)]
theorem cut_takeN (xs : List W) (n : Nat) : cutW xs none (some (n : Int)) = xs.take n := by
  unfold cutW
  rw [HT.sIx_none, HT.sIx_nat, List.drop_zero, Nat.sub_zero]
  by_cases h : n ≤ xs.length
  · rw [Nat.min_eq_left h]
  · rw [Nat.min_eq_right (by omega), List.take_of_length_le (by omega), List.take_of_length_le (by omega)]
end Pd

/-! Pd28: a module's own dict, None in a dict, del d[k], sorted(d) of a dict with int keys. -/
namespace L2
open PySem PySem.Spec PyProof.Rows
def rDInN : V → V → Hp → VK → Prop := fun y x H Q => (∃ a o, x = .ref a ∧ DGet H a y o ∧ Q (.bl o.isSome) H) ∨ ∃ a kvs, x = .ref a ∧ y = .non ∧ Rd H a (.dK kvs) ∧ Q (.bl false) H
def rDNotInN : V → V → Hp → VK → Prop := fun y x H Q => (∃ a o, x = .ref a ∧ DGet H a y o ∧ Q (.bl (!o.isSome)) H) ∨ ∃ a kvs, x = .ref a ∧ y = .non ∧ Rd H a (.dK kvs) ∧ Q (.bl true) H
section
variable {X : Cx} {o i e : Expr} {pos : Pos} {td ty : TE}
theorem pe_dinCN (hu : X.A.units + 1 < cLine) (hi : PE X i ty) (ho : PE X o td) (hb : behindInMarks .In o = false := by rfl) : PE X (.Compare i [.In] [o] pos) (tOp rDInN ty td) := pe_cmp (pc_dinN hu hi ho) hb
theorem pe_dnotinCN (hu : X.A.units + 1 < cLine) (hi : PE X i ty) (ho : PE X o td) (hb : behindInMarks .NotIn o = false := by rfl) : PE X (.Compare i [.NotIn] [o] pos) (tOp rDNotInN ty td) := pe_cmp (pc_dnotinN hu hi ho) hb
theorem pt_dinCN (hu : X.A.units + 1 < cLine) (hi : PE X i ty) (ho : PE X o td) (hb : behindInMarks .In o = false := by rfl) : PT X (.Compare i [.In] [o] pos) (tTest (tOp rDInN ty td)) := pt_cmp (pc_dinN hu hi ho) hb
theorem pt_dnotinCN (hu : X.A.units + 1 < cLine) (hi : PE X i ty) (ho : PE X o td) (hb : behindInMarks .NotIn o = false := by rfl) : PT X (.Compare i [.NotIn] [o] pos) (tTest (tOp rDNotInN ty td)) := pt_cmp (pc_dnotinN hu hi ho) hb
/-- the module's x is a dict with these entries, which nobody changes -/
def CDi (P : Program) (w : World) (K : PySem.W.Frag) (mg : Str → Option Value) (x : Str) (kvs : List (Key × V)) : Prop :=
  ∃ a o es ep vs, mg x = some (.ref a) ∧ K.lookup a = some o ∧ o.ExactDict ∧ o.data = .dict es ep ∧ KeysOf (mixKind P w) es ∧ Pairs (mixKind P w) es.toList vs ∧ (vs.map (·.1)).Nodup ∧ KV kvs vs ∧ (a == sysModules) = false
def tCGet (kvs : List (Key × V)) (ty : TE) : TE := fun σ H Q => ty σ H fun y H1 => ∃ k, y = kV k ∧ Q ((valV kvs k).getD .non) H1
theorem pe_cget {x : Str} {p apos cpos : Pos} {kvs : List (Key × V)} (C : CDi X.prog X.w X.K X.mg x kvs) (hg : Gl X x) (he : PE X e ty) (m : M1 X (.Name x p) "get" apos e cpos) (hd : (x == ("__debug__" : Str)) = false := by decide) :
    PE X (.Call (.Attribute (.Name x p) "get" apos) [e] [] cpos) (tCGet kvs ty) := by
  obtain ⟨a, o, es, ep, vs, hm, hk, hc, hdt, ks, ps, nd, rel, hsm⟩ := C
  refine ⟨fun pins s σ H Q I h => ?_⟩
  have dd : ∀ {s : Shared} {H : Hp}, Inv X pins σ H s → s.heap.DictOf (mixKind X.prog X.w) a vs := fun I => ⟨o, es, ep, I.kIn a o hk, hc, hdt, ks, ps, nd⟩
  refine wpAny_Call_method m.base m.few m.line PySem.F.plainAttrs_dict PySem.F.slot_dict_get PySem.F.type_dict_get (ld_glob I hg hm ?_ hd)
  have d0 := dd I
  refine ⟨d0.typeIs, fun b q => ?_, ?_⟩
  · cases q
    exact ⟨o, I.kIn a o hk, hc.2.1⟩
  rw [m.trees]
  refine Calls.callWith_builtin rfl (Calls.evalArgs_plain (Calls.spliced_cons (thn (he.run pins s σ H _ I h) fun iv s2 ⟨y, H2, I2, ry, k, ey, q2⟩ => Calls.spliced_nil ?_)))
  subst ey
  have d1 := dd I2
  refine call_meetsIn PySem.F.slot_dict_get d1.typeIs PySem.F.entry_dict_get (PySem.F.args_dict_get_2 _ _) (meets_dict_get (mixKind X.prog X.w) a (kV_is ry) hsm) ⟨_, d1.mapOf, _, _, I2.tok _, ?_, q2⟩
  exact (rel.val k).getD rfl
end
def rSortD : List V → Hp → VK → Prop := fun xs H Q => ∃ (a : Addr) (kvs : List (Key × V)) (ks : List Int), xs = [.ref a] ∧ Rd H a (.dK kvs) ∧ kvs.map (·.1) = ks.map Sum.inl ∧ ks.length < 64 ∧
    ∀ (ys : List Int) (p : Addr), ys.Perm ks → ys.Pairwise (· ≤ ·) → H p = none → Q (.ref p) (upd H p (.lst (ys.map V.int)))
end L2
namespace Pd
open PySem PySem.Spec L2
open Evl (Ex)
open PyProof.Rows
theorem krs_keys {K : PySem.W.Frag} {Hv : Hp} {M : List Addr} : ∀ {us : List (Key × V)} {kvs : List (Key × W)}, KRs K Hv M us kvs → us.map (·.1) = kvs.map (·.1)
  | [], [], _ => rfl
  | (k1, u) :: us, (k2, x) :: kvs, h => by
    have e : k1 = k2 := h.1
    have ih := krs_keys h.2.2
    rw [List.map_cons, List.map_cons, ih, e]
section
variable {K : PySem.W.Frag} {Γ : G} {μ : Mu} {R : W → Mu → Prop}
theorem o_dinN {k : Nat} {kvs : List (Key × W)} (hk : DkAt μ k kvs) (q : R (.d (.bool false)) μ) : AO K rDInN (.d .none) (.m k) μ R := fun A M H v u mo rv ru Q h => by
  rw [vr_none rv]
  obtain ⟨a, us, rfl, _, rd, _⟩ := dk_get mo ru hk
  exact .inr ⟨a, us, rfl, rfl, rd, h M H _ _ μ mo Eff.refl (.d (.bl _)) q⟩
theorem o_dinNI {k : Nat} {kvs : List (Key × W)} {i : Int} (hk : DkAt μ k kvs) (q : R (.d (.bool (getW kvs (.inl i)).isSome)) μ) : AO K rDInN (.d (.int i)) (.m k) μ R := fun A M H v u mo rv ru Q h =>
  .inl (o_din (y := .inl i) hk q A M H v u mo rv ru Q h)
theorem ax_cget {kvs : List (Key × V)} {ty : TE} (h : AX K ty Γ μ fun y μ1 => ∃ (k : Key) (z : W), y = .d (keyD k) ∧ (∀ Hv M, VR K Hv M ((valV kvs k).getD .non) z) ∧ R z μ1) : AX K (tCGet kvs ty) Γ μ R := fun A M σ H c Q q =>
  h A M σ H c _ fun M1 H1 v w μ1 mo1 e1 r1 ⟨k, z, ey, hz, hR⟩ => by
    subst ey
    exact ⟨k, vr_key r1, q M1 H1 _ z μ1 mo1 e1 (hz _ _) hR⟩
/-- x, y = a list of two -/
theorem ag_unl {gs : TGs} {n : Nat} {w : W} {ws : List W} {R : G → Mu → Prop} (hw : LW μ w ws) (hn : ws.length = n) (h : AGs K gs ws Γ μ R) : AG K (gUnl K n gs) w Γ μ R := fun A M σ H v c rv Q q => by
  obtain ⟨a, vs, rfl, hs, rs⟩ := hw.get c.mo rv
  exact ⟨a, vs, rfl, hs, by rw [rs.length]; exact hn, h A M σ H vs c rs Q q⟩
theorem as_ddel {td ty : TE} {D : AEn} (h : AX K td Γ μ fun x μ1 => AX K ty Γ μ1 fun y μ2 => ∃ k kvs key, x = .m k ∧ μ2[k]? = some (some (.dk kvs)) ∧ y = .d (keyD key) ∧ (getW kvs key).isSome = true ∧ D.nx Γ (μ2.set k (some (.dk (dropW kvs key))))) :
    AS K (sDDel td ty) D Γ μ := fun A M σ H c E hE =>
  h A M σ H c _ fun M1 H1 x wx μ1 mo1 e1 r1 h1 => h1 A M1 σ H1 (c.eff e1 mo1) _ fun M2 H2 y wy μ2 mo2 e2 r2 ⟨k, kvs, key, ex, hk, ey, hs, q⟩ => by
    subst ex ey
    obtain ⟨a, us, rfl, hm, ea, rk⟩ := dk_own mo2 (r1.mono e2.ex e2.pre) hk
    rw [vr_key r2]
    refine ⟨a, us, key, rfl, ea, rfl, by rw [valV_isSome rk]; exact hs, ?_⟩
    have mo4 : MOk K A M2 (upd H2 a (.dK (dropK us key))) (μ2.set k (some (.dk (dropW kvs key)))) := mo2.write hm hk ⟨_, rfl, krs_drop rk⟩
    have e4 : Eff A M2 μ2 H2 M2 (μ2.set k (some (.dk (dropW kvs key)))) (upd H2 a (.dK (dropK us key))) := Eff.write mo2 hm hk
    exact hE.nx M2 σ _ Γ _ (((c.eff e1 mo1).eff e2 mo2).eff e4 mo4) ((e1.trans e2).trans e4) q
theorem c_sortD {x : W} {k : Nat} {kvs : List (Key × W)} {ks : List Int} (ex : x = .m k) (hk : DkAt μ k kvs) (hks : kvs.map (·.1) = ks.map Sum.inl) (hl : ks.length < 64) (q : ∀ ys : List Int, ys.Perm ks → ys.Pairwise (· ≤ ·) → NL (wInts ys) μ R) : AC K rSortD [x] μ R := fun A M H vs mo rs Q h => by
  subst ex
  cases rs with
  | cons rw rn =>
    cases rn
    obtain ⟨a, us, rfl, _, rd, rk⟩ := dk_get mo rw hk
    have hk2 : us.map (·.1) = kvs.map (·.1) := krs_keys rk
    refine ⟨a, us, ks, rfl, rd, hk2.trans hks, hl, fun ys p h1 h2 hp => ?_⟩
    have rv : VRs K (vw A M μ H) M (ys.map V.int) (wInts ys) := by
      unfold wInts
      clear h1 h2 hl
      induction ys with
      | nil => exact .nil
      | cons y ys ih => exact .cons (.d (.int y)) ih
    obtain ⟨M3, μ3, w, m3, e3, r3, hR⟩ := (q ys h1 h2).use mo rv hp
    exact h M3 _ _ w μ3 m3 e3 r3 hR
end
end Pd

/-! Pd29: a module's own dict from what the statement's table says of it. -/
namespace Pd
open PySem PySem.Spec PyProof.Rows L2
/-- the entries of a dict, in order -/
def Ents (w : World) : List DictEntry → List (Key × V) → Prop
  | [], [] => True
  | e :: es, kv :: kvs => (e.hash = keyH w kv.1 ∧ RelV (kV kv.1) e.key ∧ RelV kv.2 e.val) ∧ Ents w es kvs
  | _, _ => False
theorem Ents.all {P : Program} {w : World} : ∀ {es : List DictEntry} {kvs : List (Key × V)}, Ents w es kvs → (∀ e ∈ es, ∃ k, (mixKind P w).is k e.key = true ∧ e.hash = (mixKind P w).hash k) ∧ ∃ vs : List (Key × Value), Pairs (mixKind P w) es vs ∧ KV kvs vs ∧ vs.map (·.1) = kvs.map (·.1)
  | [], [], _ => ⟨(fun _ h => by cases h), [], .nil, PySem.Paired.nil, rfl⟩
  | e :: es, kv :: kvs, ⟨⟨h1, h2, h3⟩, t⟩ => by
    obtain ⟨a, vs, b, c, d⟩ := Ents.all (P := P) t
    refine ⟨fun x hx => ?_, (kv.1, e.val) :: vs, .cons (kV_is h2) rfl b, PySem.Paired.cons ⟨rfl, h3⟩ c, by rw [List.map_cons, List.map_cons, d]⟩
    rcases List.mem_cons.mp hx with rfl | hx
    · exact ⟨kv.1, kV_is h2, h1⟩
    · exact a x hx
  | [], _ :: _, h => h.elim
  | _ :: _, [], h => h.elim
theorem cdi_of {P : Program} {w : World} {K : PySem.W.Frag} {mg : Str → Option Value} {x : Str} {a : Addr} {es : Array DictEntry} {ep : Nat} {kvs : List (Key × V)} (hm : mg x = some (.ref a)) (hl : K.lookup a = some ⟨.type "dict", none, .dict es ep, #[]⟩) (he : Ents w es.toList kvs) (hn : (kvs.map (·.1)).Nodup) (hs : (a == sysModules) = false) : CDi P w K mg x kvs := by
  obtain ⟨h, vs, p, r, e⟩ := he.all (P := P)
  exact ⟨a, _, es, ep, vs, hm, hl, ⟨rfl, rfl, rfl⟩, rfl, fun e he => h e (Array.mem_toList_iff.mpr he), p, by rw [e]; exact hn, r, hs⟩
/-! dict(xs) of a list of pairs with int keys -/
def rDictP (K : PySem.W.Frag) : List V → Hp → VK → Prop := fun xs H Q => ∃ (a : Addr) (ps : List Addr) (kvs : List (Key × V)), xs = [.ref a] ∧ SqL K H a (ps.map V.ref) ∧ PySem.Paired (fun p kv => SqT K H p [kV kv.1, kv.2]) ps kvs ∧
    ∀ p, H p = none → Q (.ref p) (upd H p (.dK (mergeK [] kvs)))
theorem cr_dictP {X : Cx} (hc : X.calm = true) : CallR X (.type "dict") (rDictP X.K) := call_dictP hc
/-- the dict of these pairs: later ones win -/
def mergeW (kvs more : List (Key × W)) : List (Key × W) := more.foldl (fun acc kv => putW acc kv.1 kv.2) kvs
section
variable {K : PySem.W.Frag} {A : Addr → Prop} {M : List Addr} {H : Hp} {μ : Mu} {R : W → Mu → Prop}
theorem krs_merge {Hv : Hp} : ∀ {us2 : List (Key × V)} {kvs2 : List (Key × W)} {us : List (Key × V)} {kvs : List (Key × W)}, KRs K Hv M us2 kvs2 → KRs K Hv M us kvs → KRs K Hv M (mergeK us us2) (mergeW kvs kvs2)
  | [], [], _, _, _, h => h
  | u :: us2, w :: kvs2, us, kvs, ⟨h1, h2, h3⟩, h => by
    show KRs K Hv M (mergeK (putK us u.1 u.2) us2) (mergeW (putW kvs w.1 w.2) kvs2)
    refine krs_merge h3 ?_
    rw [← h1]
    exact krs_put h h2
  | [], _ :: _, _, _, h, _ => h.elim
  | _ :: _, [], _, _, h, _ => h.elim
theorem prs_of {Hv : Hp} : ∀ {T : List (V × (Int × PyData))}, (∀ t ∈ T, VR K Hv M t.1 (tupW t.2)) → (∀ a o, Hv a = some o → H a = some o) →
    ∃ (ps : List Addr) (kvs : List (Key × V)), T.map (·.1) = ps.map V.ref ∧ PySem.Paired (fun p kv => SqT K H p [kV kv.1, kv.2]) ps kvs ∧ KRs K Hv M kvs (T.map fun t => (.inl t.2.1, .d t.2.2))
  | [], _, _ => ⟨[], [], rfl, .nil, trivial⟩
  | t :: T, h, hv => by
    obtain ⟨ps, kvs, e, pp, kk⟩ := prs_of (T := T) (fun u m => h u (.tail _ m)) hv
    have r := h t (.head _)
    generalize hg : t.1 = v at r
    unfold tupW at r
    cases r with
    | d r =>
      cases r with
      | tup r1 r2 =>
        cases r2 with
        | cons ra rb =>
          cases rb with
          | cons rc rd =>
            cases rd
            cases ra
            exact ⟨_ :: ps, (.inl t.2.1, _) :: kvs, by rw [List.map_cons, List.map_cons, hg, e], .cons (Evl.ex_t hv r1) pp, rfl, .d rc, kk⟩
theorem c_dictF {x : W} {ps : List (Int × PyData)} (hx : LW μ x (ps.map tupW)) (q : R (.m μ.length) (μ ++ [some (.dk (mergeW [] (ps.map fun p => (.inl p.1, .d p.2))))])) : AC K (rDictP K) [x] μ R := fun A M H vs mo rs Q h => by
  cases rs with
  | cons rw' rn =>
    cases rn
    obtain ⟨a, us, rfl, hs, ru⟩ := hx.get mo rw'
    obtain ⟨t1, t2, t3⟩ := vrs_zip ru
    generalize us.zip ps = T at t1 t2 t3
    subst t1 t2
    obtain ⟨as, kvs, e, pp, kk⟩ := prs_of (H := H) t3 vw_le
    refine ⟨a, as, kvs, rfl, by rw [← e]; exact hs, pp, fun p hp => ?_⟩
    have mo' := mo.new hp (c := .dk (mergeW [] (T.map fun t => (.inl t.2.1, .d t.2.2)))) (o := .dK (mergeK [] kvs)) ⟨_, rfl, krs_merge kk trivial⟩
    rw [List.map_map] at q
    refine h _ _ _ _ _ mo' (Eff.new mo hp) (.m ?_) q
    rw [← mo.len, List.getElem?_append_right (Nat.le_refl _)]
    simp
end
end Pd

/-! Pd30: xs[::k] with a written k. -/
namespace L2
open PySem PySem.Spec PyProof.Rows
/-- what xs[::k] picks -/
def pkG {α : Type} (k : Int) (xs : List α) : List α := (sliceRange (sliceBounds none none (some k) xs.length).1 (sliceBounds none none (some k) xs.length).2.1 (sliceBounds none none (some k) xs.length).2.2).filterMap (xs[·]?)
theorem pkG_mem {α : Type} {k : Int} {xs : List α} {x : α} (h : x ∈ pkG k xs) : x ∈ xs := by
  unfold pkG at h
  obtain ⟨i, _, e⟩ := List.mem_filterMap.mp h
  exact List.mem_of_getElem? e
theorem pkG_map {α β : Type} (f : α → β) (k : Int) (xs : List α) : pkG k (xs.map f) = (pkG k xs).map f := by
  unfold pkG
  rw [List.map_filterMap, List.length_map]
  congr 1
  funext i
  rw [List.getElem?_map]
theorem pkG_pick (k : Int) (its : List Value) : slicePick its.toArray none none (some k) = (pkG k its).toArray := by
  unfold slicePick pkG
  simp
theorem pkG_lenV (k : Int) (its : List Value) : (pkG k its).length ≤ its.length := by
  have h := slicePick_size_le its.toArray none none (some k)
  rw [pkG_pick] at h
  simpa using h
theorem pkG_len {α : Type} (k : Int) (xs : List α) : (pkG k xs).length ≤ xs.length := by
  have h := pkG_lenV k (xs.map fun _ => Value.none)
  rw [pkG_map, List.length_map, List.length_map] at h
  exact h
theorem vals_fm {vs : List V} {us : List Value} (r : Vals vs us) : ∀ l : List Nat, Vals (l.filterMap (vs[·]?)) (l.filterMap (us[·]?))
  | [] => .nil
  | i :: l => by
    have ih := vals_fm r l
    rw [List.filterMap_cons, List.filterMap_cons]
    cases h : vs[i]? with
    | none =>
      have hl : us[i]? = none := by
        rw [List.getElem?_eq_none_iff] at h ⊢
        rw [← r.length]
        exact h
      rw [hl]
      exact ih
    | some v =>
      obtain ⟨u, hu, hr⟩ := r.get h
      rw [hu]
      exact .cons hr ih
/-- xs[::k] -/
def tStepG (K : PySem.W.Frag) (k : Int) (te ts : TE) : TE := fun σ H Q => te σ H fun x H1 => ∃ a, x = .ref a ∧ ts σ H1 fun y H2 => ∃ i, y = .int i ∧ ∃ xs, SqL K H2 a xs ∧ some i = some k ∧ ∀ p, H2 p = none → Q (.ref p) (upd H2 p (.lst (pkG k xs)))
theorem pe_stepG {X : Cx} {k : Int} {e es : Expr} {te ts : TE} {p3 pos : Pos} (h0 : some k ≠ some (0 : Int)) (he : PE X e te) (hs : PE X es ts) (hst0 : ∀ (o i : Value), subscripted (.Slice none none (some es) p3) false o i = operate [o, i] (getItem o i) := by intros; with_unfolding_all rfl) : PE X (.Subscript e (.Slice none none (some es) p3) pos) (tStepG X.K k te ts) := by
  refine ⟨fun pz s σ H Q I h => ?_⟩
  refine Subscript_ (thn (he.run pz s σ H _ I h) fun v s1 ⟨x, H1, I1, r1, a, ex, q1⟩ => ?_)
  subst ex
  cases r1
  have hst : PO X (some es) (tPart ts) := po_some hs
  refine wpAny_Slice (thn (po_none.run pz s1 σ H1 (fun o H2 => o = none ∧ H2 = H1) I1 ⟨rfl, rfl⟩) fun vl s2 ⟨l, H2, I2, pl, el, e2⟩ => ?_)
  subst el e2
  refine thn (po_none.run pz s2 σ H2 (fun o H3 => o = none ∧ H3 = H2) I2 ⟨rfl, rfl⟩) fun vu s3 ⟨u, H3, I3, pu, eu, e3⟩ => ?_
  subst eu e3
  have h3 : tPart ts σ H3 fun o H4 => ∃ xs, SqL X.K H4 a xs ∧ o = some k ∧ ∀ p, H4 p = none → Q (.ref p) (upd H4 p (.lst (pkG k xs))) := q1
  refine thn (hst.run pz s3 σ H3 _ I3 h3) fun vs s4 ⟨o, H4, I4, ps, xs, hx, eo, q⟩ => ?_
  subst eo
  have I9 : Inv X pz σ H4 { s4 with heap := s4.heap.push { cls := .type "slice", data := .fields #[vl, vu, vs] } } := I4.kept (t' := s4.toks) fun b ob q => Heap.get?_push_of_some _ q
  obtain ⟨its, r, ht, hzz⟩ := I9.list hx
  have hlen := r.length
  show wpAny (model X.prog X.w) X.A (subscriptTail e (.Slice none none (some es) p3) (.ref a) (.ref s4.heap.objs.size)) (EP X pz σ Q) X.xe { s4 with heap := s4.heap.push { cls := .type "slice", data := .fields #[vl, vu, vs] } }
  refine tail_any (ops := [.ref a, .ref s4.heap.objs.size]) ht.isList.typeIs (PySem.slot_list_getitem.lookup) ?_ (hst0 _ _)
  refine wpAny_getItem_list_slice ht.isList (Heap.IsSliceOf.new _ vl vu vs) pl pu ps h0 ?_ (by rw [List.size_toArray]; omega)
  rw [pkG_pick]
  have rb : Vals (pkG k xs) (pkG k its) := by
    unfold pkG
    rw [hlen]
    exact vals_fm r _
  have hl2 : (pkG k xs).length ≤ sizeLine := Nat.le_trans (pkG_len k xs) hzz
  refine ⟨.ref _, _, I9.laid (t' := s4.toks) (o := .lst (pkG k xs)) (fun b ob q => Heap.get?_push_of_some _ q) (Nat.le_refl _) ?_, rfl, q _ (I9.hok.fresh (Nat.le_refl _))⟩
  exact ⟨hl2, _, 0, rb, Heap.get?_push_size _ rfl⟩
end L2
namespace Pd
open PySem PySem.Spec L2
open Evl (Ex)
open PyProof.Rows
section
variable {K : PySem.W.Frag} {Γ : G} {μ : Mu} {R : W → Mu → Prop} {te ts : TE}
theorem vrs_fm {H : Hp} {M : List Addr} {vs : List V} {ws : List W} (r : VRs K H M vs ws) : ∀ l : List Nat, VRs K H M (l.filterMap (vs[·]?)) (l.filterMap (ws[·]?))
  | [] => .nil
  | i :: l => by
    have ih := vrs_fm r l
    rw [List.filterMap_cons, List.filterMap_cons]
    cases h : vs[i]? with
    | none =>
      have hl : ws[i]? = none := by
        rw [List.getElem?_eq_none_iff] at h ⊢
        rw [← r.length]
        exact h
      rw [hl]
      exact ih
    | some v =>
      obtain ⟨u, hu, hr⟩ := r.get h
      rw [hu]
      exact .cons hr ih
theorem ax_stepG {k : Int} (h : AX K te Γ μ fun x μ1 => (∃ ws, LW μ1 x ws) ∧ AX K ts Γ μ1 fun y μ2 => ∃ ws : List W, y = .d (.int k) ∧ LW μ2 x ws ∧ NL (pkG k ws) μ2 R) : AX K (tStepG K k te ts) Γ μ R := fun A M σ H c Q q =>
  h A M σ H c _ fun M1 H1 v x μ1 mo1 e1 r1 ⟨⟨ws0, h0⟩, h1⟩ => by
    obtain ⟨a, _, rfl, _, _⟩ := h0.get mo1 r1
    refine ⟨a, rfl, h1 A M1 σ H1 (c.eff e1 mo1) _ fun M2 H2 u y μ2 mo2 e2 r2 ⟨ws, hy, hx, hn⟩ => ?_⟩
    subst hy
    obtain ⟨a', vs, ea, hs, rs⟩ := hx.get mo2 (r1.mono e2.ex e2.pre)
    cases ea
    refine ⟨_, vr_int r2, vs, hs, rfl, fun p hp => ?_⟩
    have rb : VRs K (vw A M2 μ2 H2) M2 (pkG k vs) (pkG k ws) := by
      unfold pkG
      rw [rs.length]
      exact vrs_fm rs _
    obtain ⟨M3, μ3, w, m3, e3, r3, hR⟩ := hn.use mo2 rb hp
    exact q M3 _ _ w μ3 m3 ((e1.trans e2).trans e3) r3 hR
end
end Pd

/-! Pd31: instances of own classes: attributes, methods, making, calling. -/
namespace Pd
open PySem PySem.Spec L2
open Evl (Ex)
open PyProof.Rows
/-- the instances of x have f as an attribute of their own (the class has none of that name) -/
def AttrOk (K : PySem.W.Frag) (x f : Str) : Prop := ∀ C, clA K x C → L2.Cls K C ∧ L2.NoAttr K C f
def putFW (f : Str) (w : W) : List (Str × W) → List (Str × W)
  | [] => [(f, w)]
  | (k, x) :: r => if k = f then (k, w) :: r else (k, x) :: putFW f w r
section
variable {K : PySem.W.Frag} {A : Addr → Prop} {M : List Addr} {H Hv : Hp} {μ : Mu}
theorem fr_lookup {f : Str} : ∀ {us : List (Str × V)} {fs : List (Str × W)}, KRs K Hv M us fs → (fs.lookup f = none → us.lookup f = none) ∧ ∀ w, fs.lookup f = some w → ∃ v, us.lookup f = some v ∧ VR K Hv M v w
  | [], [], _ => ⟨fun _ => rfl, fun _ h => by cases h⟩
  | u :: us, g :: fs, ⟨h1, h2, h3⟩ => by
    obtain ⟨a, b⟩ := fr_lookup (f := f) h3
    obtain ⟨u1, u2⟩ := u
    obtain ⟨g1, g2⟩ := g
    have h1 : u1 = g1 := h1
    subst h1
    rw [List.lookup_cons, List.lookup_cons]
    cases hb : f == u1 with
    | true => exact ⟨(fun h => by cases h), (fun w h => by cases h; exact ⟨u2, rfl, h2⟩)⟩
    | false => exact ⟨a, b⟩
  | [], _ :: _, h => h.elim
  | _ :: _, [], h => h.elim
theorem fr_put {f : Str} {v : V} {w : W} (r : VR K Hv M v w) : ∀ {us : List (Str × V)} {fs : List (Str × W)}, KRs K Hv M us fs → KRs K Hv M (L2.putF f v us) (putFW f w fs)
  | [], [], _ => ⟨rfl, r, trivial⟩
  | u :: us, g :: fs, ⟨h1, h2, h3⟩ => by
    obtain ⟨u1, u2⟩ := u
    obtain ⟨g1, g2⟩ := g
    have h1 : u1 = g1 := h1
    subst h1
    show KRs K Hv M (if u1 = f then (u1, v) :: us else (u1, u2) :: L2.putF f v us) (if u1 = f then (u1, w) :: fs else (u1, g2) :: putFW f w fs)
    by_cases hf : u1 = f
    · rw [if_pos hf, if_pos hf]
      exact ⟨rfl, r, h3⟩
    · rw [if_neg hf, if_neg hf]
      exact ⟨rfl, h2, fr_put r h3⟩
  | [], _ :: _, h => h.elim
  | _ :: _, [], h => h.elim
theorem fr_len : ∀ {us : List (Str × V)} {fs : List (Str × W)}, KRs K Hv M us fs → us.length = fs.length
  | [], [], _ => rfl
  | _ :: _, _ :: _, h => by rw [List.length_cons, List.length_cons, fr_len h.2.2]
  | [], _ :: _, h => h.elim
  | _ :: _, [], h => h.elim
theorem ob_own {k : Nat} {x : Str} {fs : List (Str × W)} {v : V} (mo : MOk K A M H μ) (rv : VR K (vw A M μ H) M v (.m k)) (hk : μ[k]? = some (some (.ob x fs))) :
    ∃ a C dx us, v = .ref a ∧ M[k]? = some a ∧ clA K x C ∧ H a = some (.ins C dx us) ∧ KRs K (vw A M μ H) M us fs := by
  cases rv with
  | m hm =>
    obtain ⟨o, e, C, dx, us, c, rfl, r⟩ := mo.ct _ _ _ hm hk
    exact ⟨_, C, dx, us, rfl, hm, c, e, r⟩
end
section
variable {K : PySem.W.Frag} {Γ : G} {μ : Mu} {R : W → Mu → Prop} {ta tv : TE} {t : TA} {f x m : Str} {D : AEn} {E : L2.St → XK}
/-- e.f -/
theorem ax_fld (h : AX K ta Γ μ fun y μ1 => ∃ k x fs w, y = .m k ∧ μ1[k]? = some (some (.ob x fs)) ∧ AttrOk K x f ∧ fs.lookup f = some w ∧ R w μ1) : AX K (tFld K ta f) Γ μ R := fun A M σ H c Q q =>
  h A M σ H c _ fun M1 H1 v w μ1 mo1 e1 r1 ⟨k, x, fs, w', hw, hk, ok, hl, hR⟩ => by
    subst hw
    obtain ⟨a, C, dx, us, rfl, hm, cl, ha, rk⟩ := ob_own mo1 r1 hk
    obtain ⟨u, hu, ru⟩ := (fr_lookup rk).2 w' hl
    exact ⟨a, C, dx, us, u, rfl, ha, (ok C cl).1, (ok C cl).2, hu, q M1 H1 u w' μ1 mo1 e1 ru hR⟩
/-- e.f = v -/
theorem as_fld (h : AX K tv Γ μ fun v μ1 => AX K ta Γ μ1 fun y μ2 => ∃ k x fs, y = .m k ∧ μ2[k]? = some (some (.ob x fs)) ∧ AttrOk K x f ∧ fs.length < 1000 ∧ D.nx Γ (μ2.set k (some (.ob x (putFW f v fs))))) : AS K (sFld K ta tv f) D Γ μ := fun A M σ H c E hE =>
  h A M σ H c _ fun M1 H1 v wv μ1 mo1 e1 r1 h1 => h1 A M1 σ H1 (c.eff e1 mo1) _ fun M2 H2 y wy μ2 mo2 e2 r2 ⟨k, x, fs, hw, hk, ok, hl, q⟩ => by
    subst hw
    obtain ⟨a, C, dx, us, rfl, hm, cl, ha, rk⟩ := ob_own mo2 r2 hk
    refine ⟨a, C, dx, us, rfl, ha, (ok C cl).1, (ok C cl).2, by rw [fr_len rk]; exact hl, ?_⟩
    have mo3 : MOk K A M2 (upd H2 a (.ins C dx (L2.putF f v us))) (μ2.set k (some (.ob x (putFW f wv fs)))) := mo2.write hm hk ⟨C, dx, _, cl, rfl, fr_put (r1.mono e2.ex e2.pre) rk⟩
    have e3 : Eff A M2 μ2 H2 M2 (μ2.set k (some (.ob x (putFW f wv fs)))) (upd H2 a (.ins C dx (L2.putF f v us))) := Eff.write mo2 hm hk
    exact hE.nx M2 σ _ Γ _ (((c.eff e1 mo1).eff e2 mo2).eff e3 mo3) ((e1.trans e2).trans e3) q
/-- o.m(..), o an instance of the class x -/
def tMethX (K : PySem.W.Frag) (x m : Str) (sp : Sp) (E : L2.St → XK) (ta : TE) (t : TA) : TE := fun σ H Q => ta σ H fun y H1 => ∃ a C dx fs, y = .ref a ∧ clA K x C ∧ H1 a = some (.ins C dx fs) ∧ fs.lookup m = none ∧ t σ H1 fun vs H2 => sp (y :: vs) H2 Q (E σ)
theorem ax_meth {F : FS} (h : AX K ta Γ μ fun y μ1 => ∃ k fs, y = .m k ∧ μ1[k]? = some (some (.ob x fs)) ∧ fs.lookup m = none ∧ AXA K t Γ μ1 fun ws μ2 => F (.m k :: ws) μ2 R) : AX K (tMethX K x m (spD K F) E ta t) Γ μ R := fun A M σ H c Q q =>
  h A M σ H c _ fun M1 H1 v w μ1 mo1 e1 r1 ⟨k, fs, hw, hk, hl, h1⟩ => by
    subst hw
    obtain ⟨a, C, dx, us, rfl, hm, cl, ha, rk⟩ := ob_own mo1 r1 hk
    refine ⟨a, C, dx, us, rfl, cl, ha, (fr_lookup rk).1 hl, h1 A M1 σ H1 (c.eff e1 mo1) _ fun M2 H2 vs ws μ2 mo2 e2 r2 h2 => ?_⟩
    exact ⟨A, M2, μ2, _, R, mo2, .cons (r1.mono e2.ex e2.pre) r2, h2, fun M' H' v w μ' mo' e' r' hR => q M' H' v w μ' mo' ((e1.trans e2).trans e') r' hR⟩
/-- where it does not raise -/
theorem ax_methX {F : FX} (h : AX K ta Γ μ fun y μ1 => ∃ k fs, y = .m k ∧ μ1[k]? = some (some (.ob x fs)) ∧ fs.lookup m = none ∧ AXA K t Γ μ1 fun ws μ2 => F (.m k :: ws) μ2 R NoX) : AX K (tMethX K x m (spX K F) E ta t) Γ μ R := fun A M σ H c Q q =>
  h A M σ H c _ fun M1 H1 v w μ1 mo1 e1 r1 ⟨k, fs, hw, hk, hl, h1⟩ => by
    subst hw
    obtain ⟨a, C, dx, us, rfl, hm, cl, ha, rk⟩ := ob_own mo1 r1 hk
    refine ⟨a, C, dx, us, rfl, cl, ha, (fr_lookup rk).1 hl, h1 A M1 σ H1 (c.eff e1 mo1) _ fun M2 H2 vs ws μ2 mo2 e2 r2 h2 => ?_⟩
    exact ⟨A, M2, μ2, _, R, NoX, mo2, .cons (r1.mono e2.ex e2.pre) r2, h2, fun M' H' v w μ' mo' e' r' hR => q M' H' v w μ' mo' ((e1.trans e2).trans e') r' hR, fun _ _ _ _ _ _ _ _ _ _ z => z.elim⟩
/-- where it may raise -/
theorem axx_meth {F : FX} {xw : L2.WX} {xc : Str → W → G → Mu → Prop} (h : AX K ta Γ μ fun y μ1 => ∃ k fs, y = .m k ∧ μ1[k]? = some (some (.ob x fs)) ∧ fs.lookup m = none ∧ AXA K t Γ μ1 fun ws μ2 => F (.m k :: ws) μ2 R fun y w μ3 => xc y w Γ μ3) : AXx K xw xc (tMethX K x m (spX K F) (WE xw) ta t) Γ μ R := fun A M σ H c X Q q =>
  h A M σ H c _ fun M1 H1 v w μ1 mo1 e1 r1 ⟨k, fs, hw, hk, hl, h1⟩ => by
    subst hw
    obtain ⟨a, C, dx, us, rfl, hm, cl, ha, rk⟩ := ob_own mo1 r1 hk
    refine ⟨a, C, dx, us, rfl, cl, ha, (fr_lookup rk).1 hl, h1 A M1 σ H1 (c.eff e1 mo1) _ fun M2 H2 vs ws μ2 mo2 e2 r2 h2 => ?_⟩
    exact ⟨A, M2, μ2, _, R, _, mo2, .cons (r1.mono e2.ex e2.pre) r2, h2, fun M' H' v w μ' mo' e' r' hR => q M' H' v w μ' mo' ((e1.trans e2).trans e') r' hR,
      fun M' H' y a d w μ' hc mo' e' hS => X M' σ H' Γ y a d w μ' hc (c.eff ((e1.trans e2).trans e') mo') ((e1.trans e2).trans e') hS⟩
/-- x(..): a new instance, then its __init__ -/
def tMakeX (K : PySem.W.Frag) (x : Str) (sp : Sp) (E : L2.St → XK) (t : TA) : TE := fun σ H Q => t σ H fun vs H1 => ∀ C p dx, clA K x C → H1 p = none → H1 dx = none → dx ≠ p → sp (.ref p :: vs) (upd (upd H1 dx (.own p)) p (.ins C dx [])) (fun v H2 => v = .non ∧ Q (.ref p) H2) (E σ)
theorem made_ok {A : Addr → Prop} {M : List Addr} {H : Hp} {C p dx : Addr} (mo : MOk K A M H μ) (cl : clA K x C) (hp : H p = none) (hd : H dx = none) (ne : dx ≠ p) :
    MOk K A (M ++ [p]) (upd (upd H dx (.own p)) p (.ins C dx [])) (μ ++ [some (.ob x [])]) ∧ Eff A M μ H (M ++ [p]) (μ ++ [some (.ob x [])]) (upd (upd H dx (.own p)) p (.ins C dx [])) := by
  have ex : Ex H (upd H dx (.own p)) := fun a o e => by rw [upd_ne (ne_of_none e hd)]; exact e
  have mo1 := mo.ex ex
  have hp1 : upd H dx (.own p) p = none := by rw [upd_ne ne.symm]; exact hp
  have mo2 : MOk K A (M ++ [p]) (upd (upd H dx (.own p)) p (.ins C dx [])) (μ ++ [some (.ob x [])]) := mo1.new hp1 ⟨C, dx, [], cl, rfl, trivial⟩
  exact ⟨mo2, (Eff.of_ex ex).trans (Eff.new mo1 hp1)⟩
theorem ax_make {F : FS} (h : AXA K t Γ μ fun ws μ1 => F (.m μ1.length :: ws) (μ1 ++ [some (.ob x [])]) fun w μ2 => w = .d .none ∧ R (.m μ1.length) μ2) : AX K (tMakeX K x (spD K F) E t) Γ μ R := fun A M σ H c Q q =>
  h A M σ H c _ fun M1 H1 vs ws μ1 mo1 e1 r1 h1 C p dx cl hp hd ne => by
    obtain ⟨mo2, e2⟩ := made_ok mo1 cl hp hd ne
    have rp : VR K (vw A (M1 ++ [p]) (μ1 ++ [some (.ob x [])]) (upd (upd H1 dx (.own p)) p (.ins C dx []))) (M1 ++ [p]) (.ref p) (.m μ1.length) := .m (by rw [← mo1.len, List.getElem?_append_right (Nat.le_refl _)]; simp)
    refine ⟨A, _, _, _, _, mo2, .cons rp (r1.mono e2.ex e2.pre), h1, fun M' H' v w μ' mo' e' r' hR => ?_⟩
    obtain ⟨hw, hR⟩ := hR
    subst hw
    cases r' with
    | d r' =>
      cases r' with
      | non => exact ⟨rfl, q M' H' _ _ μ' mo' ((e1.trans e2).trans e') (rp.mono e'.ex e'.pre) hR⟩
theorem ax_makeX {F : FX} (h : AXA K t Γ μ fun ws μ1 => F (.m μ1.length :: ws) (μ1 ++ [some (.ob x [])]) (fun w μ2 => w = .d .none ∧ R (.m μ1.length) μ2) NoX) : AX K (tMakeX K x (spX K F) E t) Γ μ R := fun A M σ H c Q q =>
  h A M σ H c _ fun M1 H1 vs ws μ1 mo1 e1 r1 h1 C p dx cl hp hd ne => by
    obtain ⟨mo2, e2⟩ := made_ok mo1 cl hp hd ne
    have rp : VR K (vw A (M1 ++ [p]) (μ1 ++ [some (.ob x [])]) (upd (upd H1 dx (.own p)) p (.ins C dx []))) (M1 ++ [p]) (.ref p) (.m μ1.length) := .m (by rw [← mo1.len, List.getElem?_append_right (Nat.le_refl _)]; simp)
    refine ⟨A, _, _, _, _, NoX, mo2, .cons rp (r1.mono e2.ex e2.pre), h1, fun M' H' v w μ' mo' e' r' hR => ?_, fun _ _ _ _ _ _ _ _ _ _ z => z.elim⟩
    obtain ⟨hw, hR⟩ := hR
    subst hw
    cases r' with
    | d r' =>
      cases r' with
      | non => exact ⟨rfl, q M' H' _ _ μ' mo' ((e1.trans e2).trans e') (rp.mono e'.ex e'.pre) hR⟩
end
end Pd

/-! Pd32: instances of own classes: the rules for the text. -/
namespace Pd
open PySem PySem.Spec L2
open Evl (Ex)
open PyProof.Rows
theorem clA_eq {K : PySem.W.Frag} {x : Str} {C D : Addr} (h : clA K x C) (g : clA K x D) : C = D := by
  have z := h.symm.trans g
  simpa using z
/-- the class x has the method m, which promises sp -/
def HasM (P : Program) (w : World) (K : PySem.W.Frag) (mg : Str → Option Value) (base : Heap) (CX : CXT) (x m : Str) (ps : List Str) (k : Nat) (sp : Sp) : Prop :=
  ∃ f fd C, FnG P w K mg base CX k f fd ps sp ∧ clA K x C ∧ L2.Cls K C ∧ L2.Meth K C m f ∧ Binds K fd ps []
/-- the class x is made by an __init__ that promises sp -/
def HasI (P : Program) (w : World) (K : PySem.W.Frag) (mg : Str → Option Value) (base : Heap) (CX : CXT) (x : Str) (ps : List Str) (k : Nat) (sp : Sp) : Prop :=
  ∃ f fd C, FnG P w K mg base CX k f fd ps sp ∧ clA K x C ∧ mg x = some (.ref C) ∧ L2.Mk K C f ∧ Binds K fd ps []
/-- the instances of x may be called -/
def HasO (P : Program) (w : World) (K : PySem.W.Frag) (mg : Str → Option Value) (base : Heap) (CX : CXT) (x : Str) (ps : List Str) (k : Nat) (sp : Sp) : Prop :=
  ∃ f fd C, FnG P w K mg base CX k f fd ps sp ∧ clA K x C ∧ StX.CallO K C f ∧ Binds K fd ps []
section
variable {X : Cx} {CX : CXT} {k : Nat} {f : Addr} {fd : FuncData} {ps : List Str} {sp : Sp} {E : L2.St → XK} {x m : Str} {p pos apos : Pos} {o e : Expr} {es : List Expr} {ta tf : TE} {t : TA}
theorem run_gA {pz : List (Addr × Obj)} {σ : L2.St} {H : Hp} {s : Shared} {Q : VK} {us : List Value} {vs : List V} (F : FnG X.prog X.w X.K X.mg X.base CX k f fd ps sp) (hr : Room k X.A) (hd : X.A.guards = some []) (hb : Binds X.K fd ps []) (hx : PassesAt CX X σ (E σ)) (I : Inv X pz σ H s) (r : Vals vs us) (q : sp vs H Q (E σ)) :
    codeAny (model X.prog X.w) X.A (.call (.ref f) ⟨us, []⟩) (fun r s' => match r with | .ok (.ret u) => EP X pz σ Q u s' | .ok _ => False | .error e => X.xe e s') s := by
  have hlen : us.length = ps.length := by
    rw [← r.length]
    exact F.len _ _ _ _ q
  have b := hb s us I.kIn (by rw [List.append_nil]; exact hlen)
  rw [List.append_nil] at b
  exact back_of hx I (F.go X.A X.stack s H ⟨us, []⟩ us vs _ _ hr hd I.env0 b r q)
theorem pe_hM {pl : Sem Bool} (h : HasM X.prog X.w X.K X.mg X.base CX x m ps k sp) (hr : Room k X.A) (hgd : X.A.guards = some []) (hx : ∀ σ, PassesAt CX X σ (E σ)) (he : PE X o ta) (ha : PA X (e :: es) t)
    (hpl : (backTo pos (starEach es X.env)).any (·.1) = false := by rfl) (hst : starEach (e :: es) X.env = (false, eval e X.env) :: starEach es X.env := by rfl)
    (ht : eval (.Call (.Attribute o m apos) (e :: es) [] pos) X.env = (do { let ov ← eval o X.env; standAt apos.atName; let (f, first) ← holding [ov] (getMethod ov m pl); callWith pos f first (backTo pos (starEach (e :: es) X.env)) (backToKw pos (keywordEach [] X.env)) }) := by rfl) :
    PE X (.Call (.Attribute o m apos) (e :: es) [] pos) (tMethX X.K x m sp E ta t) := by
  obtain ⟨f, fd, C0, F, cl0, c, hm, hb⟩ := h
  refine ⟨fun pz s σ H Q I h => ?_⟩
  refine PySem.W.methodCall_KW (pl := pl) (thn (he.run pz s σ H _ I h) fun u s1 ⟨y, H1, I1, rx1, a, C, dx, fs, ey, cl, ea, lo, q⟩ => ?_) ht
  subst ey
  obtain rfl := clA_eq cl cl0
  obtain rfl : u = Value.ref a := rx1
  refine getmeth_ok I1 ea c hm lo ?_
  refine PySem.W.callWith_K (first := [.ref a]) (h₀ := X.base) I.ok.mod.kin hm.kp (thn (ha.run pos pz s1 σ H1 _ I1 q) fun us s2 ⟨vs, H2, I2, r, q2⟩ => ⟨I2.kIn, ?_⟩) hst hpl
  exact (wpAny_call (run_gA (us := .ref a :: us) (vs := .ref a :: vs) F hr hgd hb (hx σ) I2 (.cons rfl r) q2) : wpAny _ _ (call (.ref f) (.ref a :: us)) _ _ _)
theorem pe_hM0 {pl : Sem Bool} (h : HasM X.prog X.w X.K X.mg X.base CX x m ps k sp) (hr : Room k X.A) (hgd : X.A.guards = some []) (hx : ∀ σ, PassesAt CX X σ (E σ)) (he : PE X o ta)
    (ht : eval (.Call (.Attribute o m apos) [] [] pos) X.env = (do { let ov ← eval o X.env; standAt apos.atName; let (f, first) ← holding [ov] (getMethod ov m pl); callWith pos f first (backTo pos (starEach [] X.env)) (backToKw pos (keywordEach [] X.env)) }) := by rfl) :
    PE X (.Call (.Attribute o m apos) [] [] pos) (tMethX X.K x m sp E ta tNil) := by
  obtain ⟨f, fd, C0, F, cl0, c, hm, hb⟩ := h
  refine ⟨fun pz s σ H Q I h => ?_⟩
  refine PySem.W.methodCall_KW (pl := pl) (thn (he.run pz s σ H _ I h) fun u s1 ⟨y, H1, I1, rx1, a, C, dx, fs, ey, cl, ea, lo, q⟩ => ?_) ht
  subst ey
  obtain rfl := clA_eq cl cl0
  obtain rfl : u = Value.ref a := rx1
  refine getmeth_ok I1 ea c hm lo ?_
  exact PySem.W.callWith_K0 (first := [.ref a]) I1.kIn hm.kp (wpAny_call (run_gA (us := [.ref a]) (vs := [.ref a]) F hr hgd hb (hx σ) I1 (.cons rfl .nil) q) : wpAny _ _ (call (.ref f) [.ref a]) _ _ _)
/-- x(e, ..) -/
theorem pe_hI (h : HasI X.prog X.w X.K X.mg X.base CX x ps k sp) (hr : Room (k + 1) X.A) (hgd : X.A.guards = some []) (hx : ∀ σ, PassesAt CX X σ (E σ)) (ha : PA X (e :: es) t) (hg : Gl X x := by rfl) (hdbg : (x == ("__debug__" : Str)) = false := by decide)
    (hpl : (backTo pos (starEach es X.env)).any (·.1) = false := by rfl) (he : starEach (e :: es) X.env = (false, eval e X.env) :: starEach es X.env := by rfl) :
    PE X (.Call (.Name x p) (e :: es) [] pos) (tMakeX X.K x sp E t) := by
  obtain ⟨f, fd, C, F, cl, hm, M, hb⟩ := h
  refine ⟨fun pz s σ H Q I h => ?_⟩
  refine wpAny_Call_Name_kw (ld_glob I hg hm ?_ hdbg)
  refine PySem.W.callWith_K (h₀ := X.base) I.ok.mod.kin M.kp (thn (ha.run pos pz s σ H _ I h) fun us s1 ⟨vs, H1, I1, r, q⟩ => ⟨I1.kIn, ?_⟩) he hpl
  have hq := q C (s1.heap.objs.size + 1) s1.heap.objs.size cl (I1.hok.fresh (Nat.le_succ _)) (I1.hok.fresh (Nat.le_refl _)) (Nat.ne_of_lt (Nat.lt_succ_self _))
  have I2 := Inv.made (C := C) I1
  have r2 : Vals (V.ref (s1.heap.objs.size + 1) :: vs) (Value.ref (s1.heap.objs.size + 1) :: us) := .cons rfl r
  have hlen : (Value.ref (s1.heap.objs.size + 1) :: us).length = ps.length := by
    rw [← r2.length]
    exact F.len _ _ _ _ hq
  have b := hb _ (Value.ref (s1.heap.objs.size + 1) :: us) I2.kIn (by rw [List.append_nil]; exact hlen)
  rw [List.append_nil] at b
  refine (wpAny_call (make_map (f := f) I1.kIn M.makes M.init (beq_iff_eq.mp M.fn) (codeAny_mono (F.go _ X.stack _ _ ⟨Value.ref (s1.heap.objs.size + 1) :: us, []⟩ (Value.ref (s1.heap.objs.size + 1) :: us) _ _ (E σ) (hr.make C us []) hgd (I2.env0.make C us []) b r2 hq) fun r s' hz' => ?_)) : wpAny _ _ (call (.ref C) us) _ _ _)
  cases r with
  | error e => exact hx σ pz _ _ e s' I2 hz'
  | ok fl =>
    cases fl with
    | ret u =>
      obtain ⟨v, H', I3, rv, ev, q9⟩ := I2.after hz'
      subst ev
      exact ⟨rv, ⟨V.ref (s1.heap.objs.size + 1), H', I3, rfl, q9⟩⟩
    | next => exact False.elim hz'
    | brk => exact False.elim hz'
    | cont => exact False.elim hz'
/-- o(e, ..), o an instance of x -/
def tCallOX (K : PySem.W.Frag) (x : Str) (sp : Sp) (E : L2.St → XK) (tf : TE) (t : TA) : TE := fun σ H Q => tf σ H fun y H1 => ∃ a, y = .ref a ∧ t σ H1 fun vs H2 => (∃ C dx fs, clA K x C ∧ H2 a = some (.ins C dx fs)) ∧ sp (.ref a :: vs) H2 Q (E σ)
theorem pe_hO (h : HasO X.prog X.w X.K X.mg X.base CX x ps k sp) (hr : Room k X.A) (hgd : X.A.guards = some []) (hx : ∀ σ, PassesAt CX X σ (E σ)) (hf : PE X o tf) (ha : PA X (e :: es) t)
    (ht : eval (.Call o (e :: es) [] pos) X.env = (do callWith pos (← eval o X.env) [] (backTo pos (starEach (e :: es) X.env)) (backToKw pos (keywordEach [] X.env))) := by rfl)
    (hpl : (backTo pos (starEach es X.env)).any (·.1) = false := by rfl) (he : starEach (e :: es) X.env = (false, eval e X.env) :: starEach es X.env := by rfl) : PE X (.Call o (e :: es) [] pos) (tCallOX X.K x sp E tf t) := by
  obtain ⟨f, fd, C0, F, cl0, c, hb⟩ := h
  refine ⟨fun pz s σ H Q I h => ?_⟩
  refine Call_ (thn (hf.run pz s σ H _ I h) fun u s1 ⟨y, H1, I1, ry1, a, ey, q⟩ => ?_) ht
  subst ey
  obtain rfl : u = Value.ref a := ry1
  refine StX.callO_with (thn (ha.run pos pz s1 σ H1 _ I1 q) fun us s2 ⟨vs, H2, I2, r, ⟨C, dx, fs, cl, ea⟩, q2⟩ => ?_) he hpl
  obtain rfl := clA_eq cl cl0
  obtain ⟨ox, od, J, hd⟩ := StX.insC_at I2 (.inr ⟨dx, fs, ea⟩)
  exact ⟨⟨C, ox, od, J, hd⟩, wpAny_call (PySem.W.kco_code I2.kIn J hd c.at_ c.fn c.fi (run_gA (us := .ref a :: us) (vs := .ref a :: vs) F hr hgd hb (hx σ) I2 (.cons rfl r) q2))⟩
end
section
variable {K : PySem.W.Frag} {Γ : G} {μ : Mu} {R : W → Mu → Prop} {tf : TE} {t : TA} {x : Str} {E : L2.St → XK}
theorem ax_callO {F : FS} (h : AX K tf Γ μ fun y μ1 => ∃ k, y = .m k ∧ AXA K t Γ μ1 fun ws μ2 => (∃ fs, μ2[k]? = some (some (.ob x fs))) ∧ F (.m k :: ws) μ2 R) : AX K (tCallOX K x (spD K F) E tf t) Γ μ R := fun A M σ H c Q q =>
  h A M σ H c _ fun M1 H1 v w μ1 mo1 e1 r1 ⟨k, hw, h1⟩ => by
    subst hw
    have r1' := r1
    cases r1' with
    | m hm =>
      refine ⟨_, rfl, h1 A M1 σ H1 (c.eff e1 mo1) _ fun M2 H2 vs ws μ2 mo2 e2 r2 ⟨⟨fs, hk⟩, h2⟩ => ?_⟩
      have r3 := r1.mono e2.ex e2.pre
      obtain ⟨a, C, dx, us, ea, hm2, cl, ha, rk⟩ := ob_own mo2 r3 hk
      cases ea
      exact ⟨⟨C, dx, us, cl, ha⟩, A, M2, μ2, _, R, mo2, .cons r3 r2, h2, fun M' H' v w μ' mo' e' r' hR => q M' H' v w μ' mo' ((e1.trans e2).trans e') r' hR⟩
theorem ax_callOX {F : FX} (h : AX K tf Γ μ fun y μ1 => ∃ k, y = .m k ∧ AXA K t Γ μ1 fun ws μ2 => (∃ fs, μ2[k]? = some (some (.ob x fs))) ∧ F (.m k :: ws) μ2 R NoX) : AX K (tCallOX K x (spX K F) E tf t) Γ μ R := fun A M σ H c Q q =>
  h A M σ H c _ fun M1 H1 v w μ1 mo1 e1 r1 ⟨k, hw, h1⟩ => by
    subst hw
    have r1' := r1
    cases r1' with
    | m hm =>
      refine ⟨_, rfl, h1 A M1 σ H1 (c.eff e1 mo1) _ fun M2 H2 vs ws μ2 mo2 e2 r2 ⟨⟨fs, hk⟩, h2⟩ => ?_⟩
      have r3 := r1.mono e2.ex e2.pre
      obtain ⟨a, C, dx, us, ea, hm2, cl, ha, rk⟩ := ob_own mo2 r3 hk
      cases ea
      exact ⟨⟨C, dx, us, cl, ha⟩, A, M2, μ2, _, R, NoX, mo2, .cons r3 r2, h2, fun M' H' v w μ' mo' e' r' hR => q M' H' v w μ' mo' ((e1.trans e2).trans e') r' hR, fun _ _ _ _ _ _ _ _ _ _ z => z.elim⟩
end
end Pd

/-! Pd33: attributes as targets among others; len(o) of an own __len__. -/
namespace L2
open PySem PySem.Spec PyProof.Rows
def gFld (K : PySem.W.Frag) (ta : TE) (f : Str) : TG := fun y σ H Q => ta σ H fun x H2 => ∃ a C dx fs, x = .ref a ∧ H2 a = some (.ins C dx fs) ∧ Cls K C ∧ NoAttr K C f ∧ fs.length < 1000 ∧ Q σ (upd H2 a (.ins C dx (putF f y fs)))
section
variable {X : Cx} {o : Expr} {ta : TE} {f : Str} {pos : Pos}
theorem pg_fld (ha : PE X o ta) : PG X (.Attribute o f pos) (gFld X.K ta f) := by
  refine ⟨fun pz s σ H v u Q I r h => ?_⟩
  rw [assign_Attribute]
  refine wpAny_bind (wpAny_holding (thn (ha.run pz s σ H _ I h) fun ov s1 ⟨x, H1, I1, r1, a, C, dx, fs, ex, ea, c, n, l, q⟩ => ?_))
  subst ex
  obtain rfl : ov = Value.ref a := r1
  exact wpAny_bind (wpAny_standAt (wpAny_bind (wpAny_holding (setattr_ok I1 ea c n l r fun s3 I3 => wpAny_release ⟨σ, _, I3, q⟩))))
end
end L2
namespace Pd
open PySem PySem.Spec L2
open Evl (Ex)
open PyProof.Rows
theorem ag_fld {K : PySem.W.Frag} {Γ : G} {μ : Mu} {R : G → Mu → Prop} {ta : TE} {f : Str} {w : W} (h : AX K ta Γ μ fun y μ1 => ∃ k x fs, y = .m k ∧ μ1[k]? = some (some (.ob x fs)) ∧ AttrOk K x f ∧ fs.length < 1000 ∧ R Γ (μ1.set k (some (.ob x (putFW f w fs))))) : AG K (gFld K ta f) w Γ μ R := fun A M σ H v c r Q q =>
  h A M σ H c _ fun M1 H1 y wy μ1 mo1 e1 r1 ⟨k, x, fs, hw, hk, ok, hl, hR⟩ => by
    subst hw
    obtain ⟨a, C, dx, us, rfl, hm, cl, ha, rk⟩ := ob_own mo1 r1 hk
    refine ⟨a, C, dx, us, rfl, ha, (ok C cl).1, (ok C cl).2, by rw [fr_len rk]; exact hl, ?_⟩
    have mo3 : MOk K A M1 (upd H1 a (.ins C dx (L2.putF f v us))) (μ1.set k (some (.ob x (putFW f w fs)))) := mo1.write hm hk ⟨C, dx, _, cl, rfl, fr_put (r.mono e1.ex e1.pre) rk⟩
    have e3 : Eff A M1 μ1 H1 M1 (μ1.set k (some (.ob x (putFW f w fs)))) (upd H1 a (.ins C dx (L2.putF f v us))) := Eff.write mo1 hm hk
    exact q M1 σ _ Γ _ ((c.eff e1 mo1).eff e3 mo3) (e1.trans e3) hR
/-- len(o), o an instance of x whose __len__ promises sp -/
def rLenO (K : PySem.W.Frag) (x : Str) (sp : Sp) : List V → Hp → VK → Prop := fun xs H Q => ∃ a C dx fs, xs = [.ref a] ∧ clA K x C ∧ H a = some (.ins C dx fs) ∧ sp [.ref a] H (fun v H2 => ∃ n : Int, v = .int n ∧ (0 ≤ n ∧ n < 2 ^ 63) ∧ Q (.int n) H2) E0
theorem call_lenO {X : Cx} {k : Nat} {x : Str} {ps : List Str} {sp : Sp} (h : HasM X.prog X.w X.K X.mg X.base CX0 x "__len__" ps k sp) (hr : Room (k + 1) X.A) (hgd : X.A.guards = some []) : CallR X (.builtin "len") (rLenO X.K x sp) := by
  obtain ⟨f, fd, C0, F, cl0, c, hm, hb⟩ := h
  rintro pz s σ H vs us Q I r ⟨a, C, dx, fs, rfl, cl, ea, q⟩
  obtain rfl := clA_eq cl cl0
  have eu : us = [Value.ref a] := by
    cases r with
    | cons r1 r2 =>
      cases r2
      have r1 : _ = Value.ref a := r1
      rw [r1]
  subst eu
  obtain ⟨mB1, O, _⟩ := ins_get I.hok ea
  obtain ⟨od, J, _⟩ := O.look
  obtain ⟨m, fr⟩ := I.fr
  have hl : [Value.ref a].length = ps.length := by
    have := F.len _ _ _ _ q
    simpa using this
  have b := hb s [Value.ref a] I.kIn (by rw [List.append_nil]; exact hl)
  rw [List.append_nil] at b
  refine PySem.W.len_K fr I.ok.mod.kin J hm.at_ hm.fn ?_
  refine wpAny_call (codeAny_mono (F.go X.A.in1 X.stack s H ⟨[.ref a], []⟩ [.ref a] [.ref a] _ E0 hr.in1 hgd I.env0.in1 b r q) fun rr s' hq => ?_)
  match rr, hq with
  | .error e, hq => exact hq.elim
  | .ok (.ret u), hq =>
    obtain ⟨v, H', I3, rv, ⟨n, ev, hn, q3⟩⟩ := I.after hq
    subst ev
    obtain ⟨t, rfl⟩ := (show ∃ t, u = Value.int n t from rv)
    exact ⟨hn, .int n, H', I3.tok _, ⟨_, rfl⟩, q3⟩
theorem c_lenO {K : PySem.W.Frag} {μ : Mu} {R : W → Mu → Prop} {x : Str} {F : FS} {k : Nat} {fs : List (Str × W)} (hk : μ[k]? = some (some (.ob x fs))) (h : F [.m k] μ fun w μ' => ∃ n : Int, w = .d (.int n) ∧ (0 ≤ n ∧ n < 2 ^ 63) ∧ R (.d (.int n)) μ') : AC K (rLenO K x (spD K F)) [.m k] μ R := fun A M H vs mo rs Q q => by
  cases rs with
  | cons r1 r2 =>
    cases r2
    obtain ⟨a, C, dx, us, rfl, hm, cl, ha, rk⟩ := ob_own mo r1 hk
    refine ⟨a, C, dx, us, rfl, cl, ha, A, M, μ, _, _, mo, .cons r1 .nil, h, fun M' H' v w μ' mo' e' r' hR => ?_⟩
    obtain ⟨n, hw, hn, hR⟩ := hR
    subst hw
    exact ⟨n, vr_int r', hn, q M' H' _ _ μ' mo' e' (by rw [← vr_int r']; exact r') hR⟩
end Pd

/-! Pd34: == of instances by their own __eq__. -/
namespace Pd
open PySem PySem.Spec L2
open Evl (Ex)
open PyProof.Rows
/-- what may stand behind ==: an instance of the same class, or a tuple -/
def SndOk (K : PySem.W.Frag) (C : Addr) (z : V) (H : Hp) : Prop := (∃ b dx fs, z = .ref b ∧ H b = some (.ins C dx fs)) ∨ ∃ b ys, z = .ref b ∧ SqT K H b ys ∧ PySem.W.notFirst K C (.type "tuple") = true
/-- o == z, o an instance of x whose __eq__ promises sp -/
def rEqO (K : PySem.W.Frag) (x : Str) (sp : Sp) : R2 := fun y z H Q => ∃ a C dx fs, y = .ref a ∧ clA K x C ∧ H a = some (.ins C dx fs) ∧ SndOk K C z H ∧ sp [y, z] H (fun v H2 => ∃ b, v = .bl b ∧ Q (.bl b) H2) E0
theorem op_eqO {X : Cx} {k : Nat} {x : Str} {ps : List Str} {sp : Sp} (h : HasM X.prog X.w X.K X.mg X.base CX0 x "__eq__" ps k sp) (hr : Room k X.A) (hgd : X.A.guards = some []) : OpR X (compareOp .Eq) (rEqO X.K x sp) := by
  obtain ⟨f, fd, C0, F, cl0, c, hm, hb⟩ := h
  intro pz s σ H y z v u Q I rx ry hq
  obtain ⟨a, C, dx, fs, rfl, cl, ea, snd, q⟩ := hq
  obtain rfl := clA_eq cl cl0
  cases rx
  obtain ⟨mB1, O, _⟩ := ins_get I.hok ea
  obtain ⟨od, J, _⟩ := O.look
  obtain ⟨m, fr⟩ := I.fr
  have hl : [Value.ref a, u].length = ps.length := by
    have := F.len _ _ _ _ q
    simpa using this
  have b := hb s [Value.ref a, u] I.kIn (by rw [List.append_nil]; exact hl)
  rw [List.append_nil] at b
  have go : wpAny (model X.prog X.w) X.A (call (.ref f) [.ref a, u]) (PySem.W.CmpBack (EP X pz σ Q)) X.xe s := by
    refine wpAny_call (codeAny_mono (F.go X.A X.stack s H ⟨[.ref a, u], []⟩ [.ref a, u] [.ref a, z] _ E0 hr hgd I.env0 b (.cons rfl (.cons ry .nil)) q) fun rr s' hq => ?_)
    match rr, hq with
    | .error e, hq => exact hq.elim
    | .ok (.ret w), hq =>
      obtain ⟨v, H', I3, rv, ⟨bb, ev, q3⟩⟩ := I.after hq
      subst ev
      cases rv
      exact ⟨.bl bb, H', I3, rfl, q3⟩
  show wpAny (model X.prog X.w) X.A (richCompare .Eq (.ref a) u) (EP X pz σ Q) X.xe s
  rcases snd with ⟨b', dx', fs', rfl, eb⟩ | ⟨b', ys, rfl, eb, hn⟩
  · cases ry
    obtain ⟨mB, O', _⟩ := ins_get I.hok eb
    obtain ⟨od', J', _⟩ := O'.look
    exact PySem.W.cmp_K (op := .Eq) (tb := .ref C) hr.units0 fr I.ok.mod.kin J J'.type (by simp [PySem.W.notFirst]) hm.at_ hm.fn go
  · cases ry
    obtain ⟨its, rt, pt, _⟩ := I.tuple eb
    obtain ⟨o, ho, hc, n, hd⟩ := pt
    refine PySem.W.cmp_K (op := .Eq) (tb := .type "tuple") hr.units0 fr I.ok.mod.kin J (fun A Q E s k q => wpAny_typeOf_ref (k _ _ ho) (by rw [hc]; exact q)) hn hm.at_ hm.fn go
/-- a tuple behind == of an instance of x does not go first -/
def TupOk (K : PySem.W.Frag) (x : Str) : Prop := ∀ C, clA K x C → PySem.W.notFirst K C (.type "tuple") = true
theorem o_eqO {K : PySem.W.Frag} {μ : Mu} {R : W → Mu → Prop} {x : Str} {F : FS} {k : Nat} {fs : List (Str × W)} {z : W} (hk : μ[k]? = some (some (.ob x fs))) (hz : (∃ j gs, z = .m j ∧ μ[j]? = some (some (.ob x gs))) ∨ (∃ ws, TW z ws) ∧ TupOk K x)
    (h : F [.m k, z] μ fun w μ' => ∃ b : Bool, w = .d (.bool b) ∧ R (.d (.bool b)) μ') : AO K (rEqO K x (spD K F)) (.m k) z μ R := fun A M H v u mo rv ru Q q => by
  obtain ⟨a, C, dx, us, rfl, hm, cl, ha, rk⟩ := ob_own mo rv hk
  refine ⟨a, C, dx, us, rfl, cl, ha, ?_, A, M, μ, _, _, mo, .cons rv (.cons ru .nil), h, fun M' H' v w μ' mo' e' r' hR => ?_⟩
  · rcases hz with ⟨j, gs, rfl, hj⟩ | ⟨⟨ws, tw⟩, to⟩
    · obtain ⟨b, D, dy, ys, rfl, hm2, cl2, hb, rk2⟩ := ob_own mo ru hj
      obtain rfl := clA_eq cl cl2
      exact .inl ⟨b, dy, ys, rfl, hb⟩
    · obtain ⟨b, ys, rfl, hb, _⟩ := TW.get ru tw
      exact .inr ⟨b, ys, rfl, Evl.ex_t vw_le hb, to C cl⟩
  · obtain ⟨b, hw, hR⟩ := hR
    subst hw
    cases r' with
    | d r' =>
      cases r' with
      | bl => exact ⟨b, rfl, q M' H' _ _ μ' mo' e' (.d (.bl b)) hR⟩
end Pd

/-! Pd35: isinstance(o, X) of an own class. -/
namespace Pd
open PySem PySem.Spec L2
open Evl (Ex)
open PyProof.Rows
/-- the name of an own class -/
def tClsX (K : PySem.W.Frag) (x : Str) : TE := fun _ H Q => ∀ C, clA K x C → Q (.ref C) H
theorem pe_clsX {X : Cx} {x : Str} {p : Pos} {C : Addr} (cl : clA X.K x C) (hm : X.mg x = some (.ref C)) (hg : Gl X x := by rfl) (hd : (x == ("__debug__" : Str)) = false := by decide) : PE X (.Name x p) (tClsX X.K x) :=
  ⟨fun _ _ _ H _ I h => ld_glob I hg hm ⟨.ref C, H, I, rfl, h C cl⟩ hd⟩
/-- what isinstance says of an instance of x, and of a tuple -/
structure IsiOk (K : PySem.W.Frag) (x : Str) : Prop where
  own : ∀ C, clA K x C → PySem.W.kitOne K (.ref C) (.ref C) = some true
  cls : ∀ C, clA K x C → L2.Cls K C ∧ PySem.W.findIn K (.ref C) "__class__" = some (some (.builtin "object.__class__")) ∧ PySem.W.mroIn K C (.type "object") = some true
  spc : PySem.W.specialIn K (.builtin "object.__class__") "__get__" = some (some (.builtin "getset_descriptor.__get__"))
  tks : PySem.W.takesIn K (.builtin "object.__class__") = some true
  tup : ∀ C, clA K x C → PySem.W.kitOne K (.type "tuple") (.ref C) = some false
section
variable {K : PySem.W.Frag} {Γ : G} {μ : Mu} {R : W → Mu → Prop} {x : Str}
theorem ax_clsX (q : ∀ C, clA K x C → R (.k (.ref C)) μ) : AX K (tClsX K x) Γ μ R := fun A M σ H c Q h C cl => h M H _ _ μ c.mo Eff.refl (.k _) (q C cl)
theorem c_isiO {k : Nat} {fs : List (Str × W)} {C : Addr} (ok : IsiOk K x) (cl : clA K x C) (hk : μ[k]? = some (some (.ob x fs))) (q : R (.d (.bool true)) μ) : AC K (rIsi K) [.m k, .k (.ref C)] μ R := fun A M H vs mo rs Q h => by
  cases rs with
  | cons r1 r2 =>
    cases r2 with
    | cons r3 r4 =>
      cases r4
      obtain ⟨a, D, dx, us, rfl, hm, cl2, ha, rk⟩ := ob_own mo r1 hk
      obtain rfl := clA_eq cl cl2
      cases r3
      exact ⟨.ref a, .ref C, .ref C, .ref C, true, rfl, .own C, .base (.ins ha (ok.cls C cl).1 (ok.cls C cl).2.1 ok.spc ok.tks (ok.cls C cl).2.2), ok.own C cl, h M H _ _ μ mo Eff.refl (.d (.bl true)) q⟩
theorem c_isiT {z : W} {C : Addr} (ok : IsiOk K x) (cl : clA K x C) (tw : TyW μ z "tuple") (q : R (.d (.bool false)) μ) : AC K (rIsi K) [z, .k (.ref C)] μ R := fun A M H vs mo rs Q h => by
  cases rs with
  | cons r1 r2 =>
    cases r2 with
    | cons r3 r4 =>
      cases r4
      cases r3
      exact ⟨_, .ref C, .type "tuple", .ref C, false, rfl, .own C, TyW.ok mo r1 tw, ok.tup C cl, h M H _ _ μ mo Eff.refl (.d (.bl false)) q⟩
end
end Pd

/-! Pd36: instances that are made by keywords. -/
namespace Pd
open PySem PySem.Spec L2
open Evl (Ex)
open PyProof.Rows
def HasIK (P : Program) (w : World) (K : PySem.W.Frag) (mg : Str → Option Value) (base : Heap) (CX : CXT) (x : Str) (ps : List Str) (k : Nat) (sp : Sp) (n : Nat) (ks : List Str) (ix : List Nat) : Prop :=
  ∃ f fd C, FnG P w K mg base CX k f fd ps sp ∧ clA K x C ∧ mg x = some (.ref C) ∧ L2.Mk K C f ∧ KBn K fd ps (n + 1) ks (fun us ws => perm ix (us ++ ws)) (fun vs zs => perm ix (vs ++ zs))
/-- x(k = v, ..) -/
def tMakeKX (K : PySem.W.Frag) (x : Str) (m : Nat) (sp : Sp) (ix : List Nat) (E : L2.St → XK) (tk : TA) : TE := fun σ H Q => tk σ H fun zs H2 => zs.length = m ∧
  ∀ C p dx, clA K x C → H2 p = none → H2 dx = none → dx ≠ p → sp (perm ix (.ref p :: zs)) (upd (upd H2 dx (.own p)) p (.ins C dx [])) (fun v H3 => v = .non ∧ Q (.ref p) H3) (E σ)
theorem pe_hIK0 {X : Cx} {CX : CXT} {k : Nat} {ps ks : List Str} {sp : Sp} {E : L2.St → XK} {x : Str} {p pos : Pos} {kws : List Keyword} {tk : TA} {ix : List Nat} {m : Nat} (h : HasIK X.prog X.w X.K X.mg X.base CX x ps k sp 0 ks ix) (hr : Room (k + 1) X.A) (hgd : X.A.guards = some []) (hx : ∀ σ, PassesAt CX X σ (E σ)) (hkw : PK X kws tk)
    (hall : (backToKw pos (keywordEach kws X.env)).all (·.1.isSome) = true := by rfl) (hks : (backToKw pos (keywordEach kws X.env)).filterMap (·.1) = ks := by rfl) (hg : Gl X x := by rfl) (hdbg : (x == ("__debug__" : Str)) = false := by decide)
    (hpl : ((backTo pos (starEach [] X.env)).any (·.1) || (backToKw pos (keywordEach kws X.env)).any (·.1.isNone)) = false := by rfl) (hmm : ks.length = m := by rfl) :
    PE X (.Call (.Name x p) [] kws pos) (tMakeKX X.K x m sp ix E tk) := by
  subst hmm
  obtain ⟨f, fd, C, F, cl, hm, M, hb⟩ := h
  refine ⟨fun pz s σ H Q I h => wpAny_Call_Name_kw (ld_glob I hg hm (PySem.W.callWith_KW0 (h₀ := X.base) I.ok.mod.kin M.kp hall (thn (hkw.run pos pz s σ H _ I h) fun ws s2 ⟨zs, H2, I2, rz, l2, q2⟩ => ⟨I2.kIn, ?_⟩) hpl) hdbg)⟩
  rw [hks]
  have hq := q2 C (s2.heap.objs.size + 1) s2.heap.objs.size cl (I2.hok.fresh (Nat.le_succ _)) (I2.hok.fresh (Nat.le_refl _)) (Nat.ne_of_lt (Nat.lt_succ_self _))
  have J2 := Inv.made (C := C) I2
  have r1 : Vals [V.ref (s2.heap.objs.size + 1)] [Value.ref (s2.heap.objs.size + 1)] := .cons rfl .nil
  have r2 := hb.rel r1 rz
  have b := hb.to _ [Value.ref (s2.heap.objs.size + 1)] ws J2.kIn rfl (rz.length.symm.trans l2)
  refine (wpAny_call (make_map (f := f) I2.kIn M.makes M.init (beq_iff_eq.mp M.fn) (codeAny_mono (F.go _ X.stack _ _ ⟨[Value.ref (s2.heap.objs.size + 1)], ks.zip ws⟩ _ _ _ (E σ) (hr.make C [] (ks.zip ws)) hgd (J2.env0.make C [] (ks.zip ws)) b r2 hq) fun r s' hz' => ?_)) : wpAny _ _ (call (.ref C) [] (ks.zip ws)) _ _ _)
  match r, hz' with
  | .error e, hz' => exact hx σ pz _ _ e s' J2 hz'
  | .ok (.ret u), hz' =>
    obtain ⟨v, H', J3, rv, ev, q9⟩ := J2.after hz'
    subst ev
    exact ⟨rv, ⟨V.ref (s2.heap.objs.size + 1), H', J3, rfl, q9⟩⟩
theorem ax_makeKX {K : PySem.W.Frag} {Γ : G} {μ : Mu} {R : W → Mu → Prop} {tk : TA} {x : Str} {m : Nat} {ix : List Nat} {E : L2.St → XK} {F : FX} (h : AXA K tk Γ μ fun ws μ1 => ws.length = m ∧ F (perm ix (.m μ1.length :: ws)) (μ1 ++ [some (.ob x [])]) (fun w μ2 => w = .d .none ∧ R (.m μ1.length) μ2) NoX) : AX K (tMakeKX K x m (spX K F) ix E tk) Γ μ R := fun A M σ H c Q q =>
  h A M σ H c _ fun M1 H1 vs ws μ1 mo1 e1 r1 ⟨hl, h1⟩ => ⟨r1.length.trans hl, fun C p dx cl hp hd ne => by
    obtain ⟨mo2, e2⟩ := made_ok mo1 cl hp hd ne
    have rp : VR K (vw A (M1 ++ [p]) (μ1 ++ [some (.ob x [])]) (upd (upd H1 dx (.own p)) p (.ins C dx []))) (M1 ++ [p]) (.ref p) (.m μ1.length) := .m (by rw [← mo1.len, List.getElem?_append_right (Nat.le_refl _)]; simp)
    refine ⟨A, _, _, _, _, NoX, mo2, vrs_perm (.cons rp (r1.mono e2.ex e2.pre)) ix, h1, fun M' H' v w μ' mo' e' r' hR => ?_, fun _ _ _ _ _ _ _ _ _ _ z => z.elim⟩
    obtain ⟨hw, hR⟩ := hR
    subst hw
    cases r' with
    | d r' =>
      cases r' with
      | non => exact ⟨rfl, q M' H' _ _ μ' mo' ((e1.trans e2).trans e') (rp.mono e'.ex e'.pre) hR⟩⟩
end Pd

/-! Pd37: the facts of own classes, put together for the law's end. -/
namespace Pd
open PySem PySem.Spec L2
open PyProof.Rows
section
variable {P : Program} {w : World} {K : PySem.W.Frag} {mg : Str → Option Value} {base : Heap} {CX : CXT} {x m qual : Str} {st : Stmt} {f C : Addr} {fd : FuncData} {ps : List Str} {k : Nat} {sp : Sp}
theorem hasm_of (Fu : Fun K m qual st f fd) (cl : clA K x C) (c : L2.Cls K C) (i : L2.Meth K C m f) (G : FnG P w K mg base CX k f fd ps sp)
    (h : ∀ (kV doc pm : Value) (an : Option Addr) (cdv ct : Value) (us : List Value), us.length = ps.length → bindArgs (PySem.W.fnOf m qual (defArgs st) (defBody st) (defScope st) .none kV doc pm an cdv ct) ⟨us, []⟩ = pure (ps.zip us)) : HasM P w K mg base CX x m ps k sp := ⟨f, fd, C, G, cl, c, i, Fu.binds h⟩
theorem hasi_of (Fu : Fun K m qual st f fd) (cl : clA K x C) (cm : mg x = some (.ref C)) (i : L2.Mk K C f) (G : FnG P w K mg base CX k f fd ps sp)
    (h : ∀ (kV doc pm : Value) (an : Option Addr) (cdv ct : Value) (us : List Value), us.length = ps.length → bindArgs (PySem.W.fnOf m qual (defArgs st) (defBody st) (defScope st) .none kV doc pm an cdv ct) ⟨us, []⟩ = pure (ps.zip us)) : HasI P w K mg base CX x ps k sp := ⟨f, fd, C, G, cl, cm, i, Fu.binds h⟩
theorem haso_of (Fu : Fun K m qual st f fd) (cl : clA K x C) (i : StX.CallO K C f) (G : FnG P w K mg base CX k f fd ps sp)
    (h : ∀ (kV doc pm : Value) (an : Option Addr) (cdv ct : Value) (us : List Value), us.length = ps.length → bindArgs (PySem.W.fnOf m qual (defArgs st) (defBody st) (defScope st) .none kV doc pm an cdv ct) ⟨us, []⟩ = pure (ps.zip us)) : HasO P w K mg base CX x ps k sp := ⟨f, fd, C, G, cl, i, Fu.binds h⟩
theorem hasik_of (Fu : Fun K m qual st f fd) (cl : clA K x C) (cm : mg x = some (.ref C)) (i : L2.Mk K C f) (G : FnG P w K mg base CX k f fd ps sp) (n : Nat) (ks : List Str) (ix : List Nat)
    (h : ∀ (kV doc pm : Value) (an : Option Addr) (cdv ct : Value) (us ws : List Value), us.length = n + 1 → ws.length = ks.length → bindArgs (PySem.W.fnOf m qual (defArgs st) (defBody st) (defScope st) .none kV doc pm an cdv ct) ⟨us, ks.zip ws⟩ = pure (ps.zip (perm ix (us ++ ws)))) : HasIK P w K mg base CX x ps k sp n ks ix := by
  obtain ⟨oc, od, kV, doc, pm, an, cdv, ct, osl, rfl, lk, hcd⟩ := Fu.ex
  exact ⟨f, _, C, G, cl, cm, i, fun s us ws _ h1 h2 => .of_eq (h kV doc pm an cdv ct us ws h1 h2), fun h1 h2 => vals_perm (h1.append h2) ix⟩
theorem attr_of_cls (cl : clA K x C) (c : L2.Cls K C) {a : Str} (n : L2.NoAttr K C a) : AttrOk K x a := fun D hD => by
  obtain rfl := clA_eq cl hD
  exact ⟨c, n⟩
theorem isi_of_cls (cl : clA K x C) (c : L2.Cls K C) (h1 : PySem.W.kitOne K (.ref C) (.ref C) = some true) (h2 : PySem.W.kitOne K (.type "tuple") (.ref C) = some false) (h3 : PySem.W.findIn K (.ref C) "__class__" = some (some (.builtin "object.__class__"))) (h4 : PySem.W.mroIn K C (.type "object") = some true)
    (h5 : PySem.W.specialIn K (.builtin "object.__class__") "__get__" = some (some (.builtin "getset_descriptor.__get__"))) (h6 : PySem.W.takesIn K (.builtin "object.__class__") = some true) : IsiOk K x :=
  ⟨fun D hD => by obtain rfl := clA_eq cl hD; exact h1, fun D hD => by obtain rfl := clA_eq cl hD; exact ⟨c, h3, h4⟩, h5, h6, fun D hD => by obtain rfl := clA_eq cl hD; exact h2⟩
theorem tup_of_cls (cl : clA K x C) (h : PySem.W.notFirst K C (.type "tuple") = true) : TupOk K x := fun D hD => by
  obtain rfl := clA_eq cl hD
  exact h
end
end Pd

/-! Pd38: repr tells plain data apart (no texts, no dicts). -/
namespace Pd
open PySem PySem.Spec PyProof.Rows
/-- the signs of the repr of data -/
abbrev shc (d : PyData) : List Nat := d.shown.cps.toList
def shT : List PyData → List Nat
  | [] => []
  | x :: xs => 44 :: 32 :: (shc x ++ shT xs)
def shJ : List PyData → List Nat
  | [] => []
  | x :: xs => shc x ++ shT xs
theorem textFrom_c : ∀ (xs : List PyData) (k : Nat) (acc : Str), 0 < k → (textFrom k acc (PyData.shownAll xs)).cps.toList = acc.cps.toList ++ shT xs
  | [], k, acc, _ => by simp [PyData.shownAll, textFrom, shT]
  | x :: xs, k, acc, h => by
    simp only [PyData.shownAll, textFrom, if_pos h]
    rw [textFrom_c xs (k + 1) _ (Nat.succ_pos k), cps_toList_append, cps_toList_append]
    have e : (((", " : String) : Str)).cps.toList = [44, 32] := by decide
    rw [e]
    simp [shT, shc]
theorem shc_list (xs : List PyData) : shc (.list xs) = 91 :: (shJ xs ++ [93]) := by
  have e1 : (((("[" : String) : Str))).cps.toList = [91] := by decide
  have e2 : (((("]" : String) : Str))).cps.toList = [93] := by decide
  have e3 : (((("" : String) : Str))).cps.toList = [] := by decide
  cases xs with
  | nil => decide
  | cons x xs =>
    show (listText (PyData.shownAll (x :: xs))).cps.toList = _
    unfold listText
    simp only [PyData.shownAll, textFrom]
    rw [cps_toList_append, textFrom_c xs 1 _ (by decide), cps_toList_append, cps_toList_append, e1, e2]
    simp [e3, shJ, shc]
theorem join_c : ∀ (xs : List PyData) (x : PyData), (Str.join ", " (PyData.shownAll (x :: xs))).cps.toList = shc x ++ shT xs
  | [], x => by simp [PyData.shownAll, join_one, shT, shc]
  | y :: xs, x => by
    have e : (((", " : String) : Str)).cps.toList = [44, 32] := by decide
    have h := join_c xs y
    simp only [PyData.shownAll] at h ⊢
    rw [join_cons_cons, cps_toList_append, cps_toList_append, h, e]
    simp [shT, shc]
theorem shc_tuple (xs : List PyData) : shc (.tuple xs) = 40 :: (shJ xs ++ if xs.length = 1 then [44, 41] else [41]) := by
  have e1 : (((("(" : String) : Str))).cps.toList = [40] := by decide
  have e2 : (((",)" : String) : Str)).cps.toList = [44, 41] := by decide
  have e3 : (((")" : String) : Str)).cps.toList = [41] := by decide
  cases xs with
  | nil => decide
  | cons x xs =>
    show (tupleText (PyData.shownAll (x :: xs))).cps.toList = _
    unfold tupleText
    rw [cps_toList_append, cps_toList_append, join_c, e1, shownAll_eq_map, List.length_map]
    cases xs with
    | nil => simp [e2, shJ, shT]
    | cons y xs => simp [e3, shJ, shT]
/-! integers -/
theorem digs_inj {m n : Nat} (h : (Nat.toDigits 10 m).map Char.toNat = (Nat.toDigits 10 n).map Char.toNat) : m = n := by
  have e : Nat.toDigits 10 m = Nat.toDigits 10 n := List.map_inj_right (fun x y z => Char.ext (UInt32.toNat_inj.mp z)) |>.mp h
  rw [← Nat.ofDigitChars_toDigits (b := 10) (n := m) (by decide) (by decide), e, Nat.ofDigitChars_toDigits (by decide) (by decide)]
theorem shc_nat (m : Nat) : shc (.int (Int.ofNat m)) = (Nat.toDigits 10 m).map Char.toNat := by
  show (Str.ofString (toString (Int.ofNat m))).cps.toList = _
  rw [signs_ofString]
  show (Nat.repr m).toList.map Char.toNat = _
  rw [Nat.repr_eq_ofList_toDigits, String.toList_ofList]
theorem shc_neg (m : Nat) : shc (.int (Int.negSucc m)) = 45 :: (Nat.toDigits 10 (m + 1)).map Char.toNat := by
  show (Str.ofString (toString (Int.negSucc m))).cps.toList = _
  rw [signs_ofString]
  show ("-" ++ Nat.repr (m + 1)).toList.map Char.toNat = _
  rw [Nat.repr_eq_ofList_toDigits, String.toList_append, List.map_append, String.toList_ofList, String.toList_ofList]
  rfl
theorem dig_rng {m c : Nat} (h : c ∈ (Nat.toDigits 10 m).map Char.toNat) : 48 ≤ c ∧ c ≤ 57 := by
  obtain ⟨d, hd, rfl⟩ := List.mem_map.mp h
  have := Nat.isDigit_of_mem_toDigits (by decide) (by decide) hd
  simp only [Char.isDigit, Bool.and_eq_true, decide_eq_true_eq] at this
  have h1 : 48 ≤ d.val.toNat := by simpa using UInt32.le_iff_toNat_le.mp this.1
  have h2 : d.val.toNat ≤ 57 := by simpa using UInt32.le_iff_toNat_le.mp this.2
  exact ⟨h1, h2⟩
theorem shc_int_inj {i j : Int} (h : shc (.int i) = shc (.int j)) : i = j := by
  have no45 : ∀ {m : Nat} {l : List Nat}, (Nat.toDigits 10 m).map Char.toNat ≠ 45 :: l := fun {m l} e => by
    have := dig_rng (m := m) (c := 45) (by rw [e]; exact .head _)
    omega
  cases i with
  | ofNat m =>
    cases j with
    | ofNat n => rw [shc_nat, shc_nat] at h; rw [digs_inj h]
    | negSucc n => rw [shc_nat, shc_neg] at h; exact absurd h no45
  | negSucc m =>
    cases j with
    | ofNat n => rw [shc_nat, shc_neg] at h; exact absurd h.symm no45
    | negSucc n =>
      rw [shc_neg, shc_neg] at h
      have := digs_inj (List.cons.inj h).2
      have : m = n := by omega
      rw [this]
theorem shc_int_mem {i : Int} {c : Nat} (h : c ∈ shc (.int i)) : c = 45 ∨ (48 ≤ c ∧ c ≤ 57) := by
  cases i with
  | ofNat m => rw [shc_nat] at h; exact .inr (dig_rng h)
  | negSucc m =>
    rw [shc_neg] at h
    cases h with
    | head => exact .inl rfl
    | tail _ h => exact .inr (dig_rng h)
theorem shc_int_ne {i : Int} : shc (.int i) ≠ [] := by
  have nn : ∀ m, (Nat.toDigits 10 m).map Char.toNat ≠ [] := fun m e => by
    have e := List.map_eq_nil_iff.mp e
    have := Nat.ofDigitChars_toDigits (b := 10) (n := m) (by decide) (by decide)
    exact absurd e (Nat.toDigits_ne_nil)
  cases i with
  | ofNat m => rw [shc_nat]; exact nn m
  | negSucc m => rw [shc_neg]; simp
/-- what may stand behind a part -/
def Stop (r : List Nat) : Prop := ∀ c t, r = c :: t → c = 44 ∨ c = 41 ∨ c = 93
/-- what may stand behind the last part -/
def EndS (r : List Nat) : Prop := ∃ t, r = 93 :: t ∨ r = 41 :: t ∨ r = 44 :: 41 :: t
mutual
/-- data of None, bools, integers, lists and tuples alone -/
def pln : PyData → Prop
  | .none | .bool _ | .int _ => True
  | .str _ | .dict _ => False
  | .list xs | .tuple xs => plns xs
def plns : List PyData → Prop
  | [] => True
  | x :: xs => pln x ∧ plns xs
end
/-- the kind of the first sign -/
def kd (c : Nat) : Nat := if c = 78 then 1 else if c = 84 then 2 else if c = 70 then 3 else if c = 45 ∨ (48 ≤ c ∧ c ≤ 57) then 4 else if c = 91 then 5 else if c = 40 then 6 else 7
def kdD : PyData → Nat
  | .none => 1
  | .bool true => 2
  | .bool false => 3
  | .int _ => 4
  | .list _ => 5
  | .tuple _ => 6
  | _ => 7
theorem shc_hd {d : PyData} (h : pln d) : ∃ c t, shc d = c :: t ∧ kd c = kdD d ∧ kd c ≠ 7 := by
  cases d with
  | none => exact ⟨78, [111, 110, 101], by decide, rfl, by decide⟩
  | bool b => cases b with
    | true => exact ⟨84, [114, 117, 101], by decide, rfl, by decide⟩
    | false => exact ⟨70, [97, 108, 115, 101], by decide, rfl, by decide⟩
  | int i =>
    cases e : shc (.int i) with
    | nil => exact absurd e shc_int_ne
    | cons c t =>
      have m := shc_int_mem (i := i) (c := c) (by rw [e]; exact .head _)
      have : kd c = 4 := by unfold kd; rw [if_neg (by omega), if_neg (by omega), if_neg (by omega), if_pos m]
      exact ⟨c, t, rfl, this, by rw [this]; decide⟩
  | list xs => exact ⟨91, _, shc_list xs, rfl, by decide⟩
  | tuple xs => exact ⟨40, _, shc_tuple xs, rfl, by decide⟩
  | str x => exact h.elim
  | dict x => exact h.elim
theorem kd_same {d e : PyData} (hd : pln d) (he : pln e) {r s : List Nat} (h : shc d ++ r = shc e ++ s) : kdD d = kdD e := by
  obtain ⟨c, t, e1, k1, _⟩ := shc_hd hd
  obtain ⟨c', t', e2, k2, _⟩ := shc_hd he
  rw [e1, e2] at h
  have := (List.cons.inj h).1
  rw [← k1, ← k2, this]
theorem int_part {i j : Int} {r s : List Nat} (hr : Stop r) (hs : Stop s) (h : shc (.int i) ++ r = shc (.int j) ++ s) : i = j ∧ r = s := by
  have tw : ∀ (a b : List Nat), (∀ c ∈ a, c = 45 ∨ (48 ≤ c ∧ c ≤ 57)) → Stop b → (a ++ b).takeWhile (fun c => decide (c = 45 ∨ (48 ≤ c ∧ c ≤ 57))) = a := fun a b ha hb => by
    rw [List.takeWhile_append_of_pos (fun c hc => decide_eq_true (ha c hc))]
    cases b with
    | nil => simp
    | cons c t =>
      have := hb c t rfl
      rw [List.takeWhile_cons_of_neg (by simp; omega)]
      simp
  have e := congrArg (List.takeWhile fun c => decide (c = 45 ∨ (48 ≤ c ∧ c ≤ 57))) h
  rw [tw _ _ (fun c hc => shc_int_mem hc) hr, tw _ _ (fun c hc => shc_int_mem hc) hs] at e
  refine ⟨shc_int_inj e, ?_⟩
  rw [e] at h
  exact List.append_cancel_left h
theorem stop_T {xs : List PyData} {r : List Nat} (h : EndS r) : Stop (shT xs ++ r) := fun c t e => by
  cases xs with
  | nil =>
    obtain ⟨u, h⟩ := h
    rcases h with h | h | h <;> (rw [h] at e; have := (List.cons.inj e).1; omega)
  | cons x xs => have := (List.cons.inj e).1; omega
mutual
theorem shc_inj : ∀ {d : PyData}, pln d → ∀ {e : PyData}, pln e → ∀ {r s : List Nat}, Stop r → Stop s → shc d ++ r = shc e ++ s → d = e ∧ r = s
  | .none, hd, e, he, r, s, hr, hs, h => by
    have k := kd_same hd he h
    cases e with
    | none => exact ⟨rfl, List.append_cancel_left h⟩
    | bool b => cases b <;> cases k
    | _ => cases k
  | .bool b, hd, e, he, r, s, hr, hs, h => by
    have k := kd_same hd he h
    cases e with
    | bool b' => cases b <;> cases b' <;> first | exact ⟨rfl, List.append_cancel_left h⟩ | cases k
    | none => cases b <;> cases k
    | int i => cases b <;> cases k
    | str i => cases b <;> cases k
    | list i => cases b <;> cases k
    | tuple i => cases b <;> cases k
    | dict i => cases b <;> cases k
  | .int i, hd, e, he, r, s, hr, hs, h => by
    have k := kd_same hd he h
    cases e with
    | int j => obtain ⟨a, b⟩ := int_part hr hs h; exact ⟨by rw [a], b⟩
    | bool b => cases b <;> cases k
    | _ => cases k
  | .list xs, hd, e, he, r, s, hr, hs, h => by
    have k := kd_same hd he h
    cases e with
    | list ys =>
      rw [shc_list, shc_list, List.cons_append, List.cons_append] at h
      have h := (List.cons.inj h).2
      rw [List.append_assoc, List.append_assoc] at h
      obtain ⟨a, b⟩ := shJ_inj hd he ⟨_, .inl rfl⟩ ⟨_, .inl rfl⟩ h
      exact ⟨by rw [a], (List.cons.inj b).2⟩
    | bool b => cases b <;> cases k
    | _ => cases k
  | .tuple xs, hd, e, he, r, s, hr, hs, h => by
    have k := kd_same hd he h
    cases e with
    | tuple ys =>
      rw [shc_tuple, shc_tuple, List.cons_append, List.cons_append] at h
      have h := (List.cons.inj h).2
      rw [List.append_assoc, List.append_assoc] at h
      have en : ∀ (n : Nat) (t : List Nat), EndS ((if n = 1 then [44, 41] else [41]) ++ t) := fun n t => by
        split
        · exact ⟨t, .inr (.inr rfl)⟩
        · exact ⟨t, .inr (.inl rfl)⟩
      obtain ⟨a, b⟩ := shJ_inj hd he (en _ _) (en _ _) h
      rw [a] at b
      exact ⟨by rw [a], List.append_cancel_left b⟩
    | bool b => cases b <;> cases k
    | _ => cases k
theorem shJ_inj : ∀ {xs : List PyData}, plns xs → ∀ {ys : List PyData}, plns ys → ∀ {r s : List Nat}, EndS r → EndS s → shJ xs ++ r = shJ ys ++ s → xs = ys ∧ r = s
  | [], _, [], _, r, s, _, _, h => ⟨rfl, h⟩
  | [], _, y :: ys, hy, r, s, hr, _, h => by
    obtain ⟨c, t, e, _, k⟩ := shc_hd hy.1
    have h : r = (shc y ++ shT ys) ++ s := h
    rw [e] at h
    obtain ⟨u, z⟩ := hr
    rcases z with z | z | z <;> (rw [z] at h; have := (List.cons.inj h).1; subst this; exact absurd rfl k)
  | x :: xs, hx, [], _, r, s, _, hs, h => by
    obtain ⟨c, t, e, _, k⟩ := shc_hd hx.1
    have h : (shc x ++ shT xs) ++ r = s := h
    rw [e] at h
    obtain ⟨u, z⟩ := hs
    rcases z with z | z | z <;> (rw [z] at h; have := (List.cons.inj h).1; subst this; exact absurd rfl k)
  | x :: xs, hx, y :: ys, hy, r, s, hr, hs, h => by
    have h : (shc x ++ shT xs) ++ r = (shc y ++ shT ys) ++ s := h
    rw [List.append_assoc, List.append_assoc] at h
    obtain ⟨a, b⟩ := shc_inj hx.1 hy.1 (stop_T hr) (stop_T hs) h
    obtain ⟨c, d⟩ := shT_inj hx.2 hy.2 hr hs b
    exact ⟨by rw [a, c], d⟩
theorem shT_inj : ∀ {xs : List PyData}, plns xs → ∀ {ys : List PyData}, plns ys → ∀ {r s : List Nat}, EndS r → EndS s → shT xs ++ r = shT ys ++ s → xs = ys ∧ r = s
  | [], _, [], _, r, s, _, _, h => ⟨rfl, h⟩
  | [], _, y :: ys, hy, r, s, hr, _, h => by
    have h : r = 44 :: 32 :: ((shc y ++ shT ys) ++ s) := h
    obtain ⟨u, z⟩ := hr
    rcases z with z | z | z <;> (rw [z] at h; simp at h)
  | x :: xs, hx, [], _, r, s, _, hs, h => by
    have h : 44 :: 32 :: ((shc x ++ shT xs) ++ r) = s := h
    obtain ⟨u, z⟩ := hs
    rcases z with z | z | z <;> (rw [z] at h; simp at h)
  | x :: xs, hx, y :: ys, hy, r, s, hr, hs, h => by
    have h : 44 :: 32 :: ((shc x ++ shT xs) ++ r) = 44 :: 32 :: ((shc y ++ shT ys) ++ s) := h
    have h := (List.cons.inj (List.cons.inj h).2).2
    rw [List.append_assoc, List.append_assoc] at h
    obtain ⟨a, b⟩ := shc_inj hx.1 hy.1 (stop_T hr) (stop_T hs) h
    obtain ⟨c, d⟩ := shT_inj hx.2 hy.2 hr hs b
    exact ⟨by rw [a, c], d⟩
end
theorem shown_inj {d e : PyData} (hd : pln d) (he : pln e) (h : d.shown = e.shown) : d = e := by
  have st : Stop [] := fun c t z => by cases z
  exact (shc_inj hd he st st (by rw [List.append_nil, List.append_nil]; exact congrArg (fun s : Str => s.cps.toList) h)).1
end Pd

/-! Pd39: any of a list of bools. -/
namespace Pd
open PySem PySem.Spec L2
open Evl (Ex)
open PyProof.Rows
section
variable {K : PySem.W.Frag} {μ : Mu} {R : W → Mu → Prop}
theorem ac_any {x : W} {bs : List Bool} (hx : LW μ x (bs.map fun n => W.d (.bool n))) (q : R (.d (.bool (bs.any id))) μ) : AC K (rAny K) [x] μ R := fun A M H vs mo rs Q h => by
  cases rs with
  | cons rw rn =>
    cases rn
    obtain ⟨a, us, rfl, hs, ru⟩ := hx.get mo rw
    rw [vrs_bool ru] at hs
    exact ⟨a, bs, rfl, hs, h M H _ _ μ mo Eff.refl (.d (.bl _)) q⟩
theorem c_anyB {bs : List Bool} (q : R (.d (.bool (bs.any id))) μ) : AC K (rAny K) [.d (.list (bs.map PyData.bool))] μ R := by
  refine ac_any (bs := bs) ?_ q
  have e : bs.map (fun n => W.d (.bool n)) = (bs.map PyData.bool).map W.d := by simp
  rw [e]
  exact .d _
end
end Pd

/-! Pd40: o.f += e; methods by keywords. -/
namespace Pd
open PySem PySem.Spec L2
open Evl (Ex)
open PyProof.Rows
section
variable {K : PySem.W.Frag} {Γ : G} {μ : Mu} {R : W → Mu → Prop} {D : AEn} {ta tv tk : TE} {f : Str}
/-- e.f += v -/
theorem as_fldaug {rd : R2} (h : AX K ta Γ μ fun y μ1 => ∃ k x fs w, y = .m k ∧ μ1[k]? = some (some (.ob x fs)) ∧ AttrOk K x f ∧ fs.lookup f = some w ∧ AX K tv Γ μ1 fun v μ2 => AO K rd w v μ2 fun z μ3 => ∃ gs, μ3[k]? = some (some (.ob x gs)) ∧ gs.length < 1000 ∧ D.nx Γ (μ3.set k (some (.ob x (putFW f z gs))))) : AS K (sFldAug K ta tv rd f) D Γ μ := fun A M σ H c E hE =>
  h A M σ H c _ fun M1 H1 y wy μ1 mo1 e1 r1 ⟨k, x, fs, w, hw, hk, ok, hl, h1⟩ => by
    subst hw
    obtain ⟨a, C, dx, us, rfl, hm, cl, ha, rk⟩ := ob_own mo1 r1 hk
    obtain ⟨u, hu, ru⟩ := (fr_lookup rk).2 w hl
    refine ⟨a, C, dx, us, u, rfl, ha, (ok C cl).1, (ok C cl).2, hu, ?_⟩
    refine h1 A M1 σ H1 (c.eff e1 mo1) _ fun M2 H2 v wv μ2 mo2 e2 r2 h2 => ?_
    refine h2 A M2 H2 u v mo2 (ru.mono e2.ex e2.pre) r2 _ fun M3 H3 z wz μ3 mo3 e3 r3 ⟨gs, hk3, hl3, q⟩ => ?_
    obtain ⟨a', C', dx', us', ea, hm3, cl3, ha3, rk3⟩ := ob_own mo3 (r1.mono (e2.trans e3).ex (e2.trans e3).pre) hk3
    cases ea
    obtain rfl := clA_eq cl cl3
    refine ⟨dx', us', ha3, by rw [fr_len rk3]; exact hl3, ?_⟩
    have mo4 : MOk K A M3 (upd H3 a (.ins C dx' (L2.putF f z us'))) (μ3.set k (some (.ob x (putFW f wz gs)))) := mo3.write hm3 hk3 ⟨C, dx', _, cl, rfl, fr_put r3 rk3⟩
    have e4 : Eff A M3 μ3 H3 M3 (μ3.set k (some (.ob x (putFW f wz gs)))) (upd H3 a (.ins C dx' (L2.putF f z us'))) := Eff.write mo3 hm3 hk3
    exact hE.nx M3 σ _ Γ _ ((((c.eff e1 mo1).eff e2 mo2).eff e3 mo3).eff e4 mo4) (((e1.trans e2).trans e3).trans e4) q
end
theorem in_of {X : Cx} {op : Operator} {r : R2} (h : OpR X (inplaceOp op) r) : InOp X op r := fun pins s σ H x y u v Q I rx ry q => h pins s σ H x y u v Q I rx ry q
/-- the class x has the method m, called with n values and some keywords -/
def HasMK (P : Program) (w : World) (K : PySem.W.Frag) (mg : Str → Option Value) (base : Heap) (CX : CXT) (x m : Str) (ps : List Str) (k : Nat) (sp : Sp) (n : Nat) (ks : List Str) (ix : List Nat) : Prop :=
  ∃ f fd C, FnG P w K mg base CX k f fd ps sp ∧ clA K x C ∧ L2.Cls K C ∧ L2.Meth K C m f ∧ KBn K fd ps (n + 1) ks (fun us ws => perm ix (us ++ ws)) (fun vs zs => perm ix (vs ++ zs))
/-- o.m(k = v, ..) -/
def tMethKX (K : PySem.W.Frag) (x mn : Str) (m : Nat) (sp : Sp) (ix : List Nat) (E : L2.St → XK) (ta : TE) (tk : TA) : TE := fun σ H Q => ta σ H fun y H1 => ∃ a C dx fs, y = .ref a ∧ clA K x C ∧ H1 a = some (.ins C dx fs) ∧ fs.lookup mn = none ∧ tk σ H1 fun zs H2 => zs.length = m ∧ sp (perm ix (y :: zs)) H2 Q (E σ)
theorem pe_hMK0 {X : Cx} {CX : CXT} {k : Nat} {ps ks : List Str} {sp : Sp} {E : L2.St → XK} {x mn : Str} {apos pos : Pos} {o : Expr} {kws : List Keyword} {ta : TE} {tk : TA} {ix : List Nat} {m : Nat} {pl : Sem Bool} (h : HasMK X.prog X.w X.K X.mg X.base CX x mn ps k sp 0 ks ix) (hr : Room k X.A) (hgd : X.A.guards = some []) (hx : ∀ σ, PassesAt CX X σ (E σ)) (he : PE X o ta) (hkw : PK X kws tk)
    (hall : (backToKw pos (keywordEach kws X.env)).all (·.1.isSome) = true := by rfl) (hks : (backToKw pos (keywordEach kws X.env)).filterMap (·.1) = ks := by rfl)
    (hpl : ((backTo pos (starEach [] X.env)).any (·.1) || (backToKw pos (keywordEach kws X.env)).any (·.1.isNone)) = false := by rfl) (hmm : ks.length = m := by rfl)
    (ht : eval (.Call (.Attribute o mn apos) [] kws pos) X.env = (do { let ov ← eval o X.env; standAt apos.atName; let (f, first) ← holding [ov] (getMethod ov mn pl); callWith pos f first (backTo pos (starEach [] X.env)) (backToKw pos (keywordEach kws X.env)) }) := by rfl) :
    PE X (.Call (.Attribute o mn apos) [] kws pos) (tMethKX X.K x mn m sp ix E ta tk) := by
  subst hmm
  obtain ⟨f, fd, C0, F, cl0, c, hm, hb⟩ := h
  refine ⟨fun pz s σ H Q I h => ?_⟩
  refine PySem.W.methodCall_KW (pl := pl) (thn (he.run pz s σ H _ I h) fun u s1 ⟨y, H1, I1, rx1, a, C, dx, fs, ey, cl, ea, lo, q⟩ => ?_) ht
  subst ey
  obtain rfl := clA_eq cl cl0
  obtain rfl : u = Value.ref a := rx1
  refine getmeth_ok I1 ea c hm lo ?_
  refine PySem.W.callWith_KW0 (first := [.ref a]) (h₀ := X.base) I.ok.mod.kin hm.kp hall (thn (hkw.run pos pz s1 σ H1 _ I1 q) fun ws s2 ⟨zs, H2, I2, rz, l2, q2⟩ => ⟨I2.kIn, ?_⟩) hpl
  rw [hks]
  have r1 : Vals [V.ref a] [Value.ref a] := .cons rfl .nil
  have r2 := hb.rel r1 rz
  have b := hb.to s2 [Value.ref a] ws I2.kIn rfl (rz.length.symm.trans l2)
  exact (wpAny_call (back_of (hx σ) I2 (F.go X.A X.stack s2 H2 ⟨[Value.ref a], ks.zip ws⟩ _ _ _ _ hr hgd I2.env0 b r2 q2)) : wpAny _ _ (call (.ref f) [.ref a] (ks.zip ws)) _ _ _)
theorem ax_methKX {K : PySem.W.Frag} {Γ : G} {μ : Mu} {R : W → Mu → Prop} {ta : TE} {tk : TA} {x mn : Str} {m : Nat} {ix : List Nat} {E : L2.St → XK} {F : FX} (h : AX K ta Γ μ fun y μ1 => ∃ k fs, y = .m k ∧ μ1[k]? = some (some (.ob x fs)) ∧ fs.lookup mn = none ∧ AXA K tk Γ μ1 fun ws μ2 => ws.length = m ∧ F (perm ix (.m k :: ws)) μ2 R NoX) : AX K (tMethKX K x mn m (spX K F) ix E ta tk) Γ μ R := fun A M σ H c Q q =>
  h A M σ H c _ fun M1 H1 v w μ1 mo1 e1 r1 ⟨k, fs, hw, hk, hl, h1⟩ => by
    subst hw
    obtain ⟨a, C, dx, us, rfl, hm, cl, ha, rk⟩ := ob_own mo1 r1 hk
    refine ⟨a, C, dx, us, rfl, cl, ha, (fr_lookup rk).1 hl, h1 A M1 σ H1 (c.eff e1 mo1) _ fun M2 H2 vs ws μ2 mo2 e2 r2 ⟨hn, h2⟩ => ⟨r2.length.trans hn, ?_⟩⟩
    exact ⟨A, _, _, _, _, NoX, mo2, vrs_perm (.cons (r1.mono e2.ex e2.pre) r2) ix, h2, fun M' H' v w μ' mo' e' r' hR => q M' H' v w μ' mo' ((e1.trans e2).trans e') r' hR, fun _ _ _ _ _ _ _ _ _ _ z => z.elim⟩
theorem hasmk_of {P : Program} {w : World} {K : PySem.W.Frag} {mg : Str → Option Value} {base : Heap} {CX : CXT} {x m qual : Str} {st : Stmt} {f C : Addr} {fd : FuncData} {ps : List Str} {k : Nat} {sp : Sp} (Fu : Fun K m qual st f fd) (cl : clA K x C) (c : L2.Cls K C) (i : L2.Meth K C m f) (G : FnG P w K mg base CX k f fd ps sp) (n : Nat) (ks : List Str) (ix : List Nat)
    (h : ∀ (kV doc pm : Value) (an : Option Addr) (cdv ct : Value) (us ws : List Value), us.length = n + 1 → ws.length = ks.length → bindArgs (PySem.W.fnOf m qual (defArgs st) (defBody st) (defScope st) .none kV doc pm an cdv ct) ⟨us, ks.zip ws⟩ = pure (ps.zip (perm ix (us ++ ws)))) : HasMK P w K mg base CX x m ps k sp n ks ix := by
  obtain ⟨oc, od, kV, doc, pm, an, cdv, ct, osl, rfl, lk, hcd⟩ := Fu.ex
  exact ⟨f, _, C, G, cl, c, i, fun s us ws _ h1 h2 => .of_eq (h kV doc pm an cdv ct us ws h1 h2), fun h1 h2 => vals_perm (h1.append h2) ix⟩
end Pd

namespace M46
open PySem Pd
def isInt : PyData → Bool
  | .int _ => true
  | _ => false
def okH : PyData → Bool
  | .none => true
  | .int i => decide (0 ≤ i)
  | _ => false
def cnt (g : Int) : PyData → Int
  | .int i => i
  | _ => g
/-- rows, total, depth of a right tree -/
def told (g : Int) : Nat → PyData → Option (Int × Int × Int)
  | _, .none => some (0, 0, 0)
  | n + 1, .tuple [l, h, r, a, b] =>
    if okH h = true then
      match told g n l, told g n r with
      | some x, some y =>
        if 1 < (x.2.2 - y.2.2).natAbs then none else
          match a, b with
          | .int i, .int j => if i = x.1 + 1 + y.1 ∧ j = x.2.1 + cnt g h + y.2.1 then some (i, j, 1 + max x.2.2 y.2.2) else none
          | _, _ => none
      | _, _ => none
    else none
  | _, _ => none
def tdat : Option (Int × Int × Int) → PyData
  | none => .none
  | some (a, b, c) => .tuple [.int a, .int b, .int c]
def hgt : PyData → Prop
  | .none => True
  | .int i => 0 ≤ i ∧ i ≤ 1000000
  | _ => False
def tot (g : Int) (hs : List PyData) : Int := (hs.map (cnt g)).sum
inductive Tr (g : Int) : List PyData → PyData → Nat → Prop
  | nil : Tr g [] .none 0
  | node {l r : List PyData} {tl tr h : PyData} {dl dr : Nat} : Tr g l tl dl → Tr g r tr dr → dl ≤ dr + 1 → dr ≤ dl + 1 → hgt h →
    Tr g (l ++ h :: r) (.tuple [tl, h, tr, .int ((l.length : Int) + 1 + r.length), .int (tot g l + cnt g h + tot g r)]) (1 + max dl dr)
theorem hgt_ok {h : PyData} (x : hgt h) : okH h = true := by
  cases h with
  | none => rfl
  | int i => exact decide_eq_true x.1
  | _ => exact x.elim
theorem tot_app (g : Int) (a b : List PyData) : tot g (a ++ b) = tot g a + tot g b := by
  unfold tot
  rw [List.map_append, List.sum_append]
theorem tot_cons (g : Int) (h : PyData) (b : List PyData) : tot g (h :: b) = cnt g h + tot g b := by
  unfold tot
  rw [List.map_cons, List.sum_cons]
theorem dep_node (tl h tr a b : PyData) : (PyData.tuple [tl, h, tr, a, b]).depth = max tl.depth (max h.depth (max tr.depth (max a.depth (max b.depth 0)))) + 1 := by
  simp only [PyData.depth, PyData.depthAll]
theorem Tr.dep {g : Int} {hs : List PyData} {t : PyData} {d : Nat} (h : Tr g hs t d) : t.depth ≤ hs.length := by
  induction h with
  | nil => exact Nat.le_refl _
  | @node l r tl tr h dl dr _ _ _ _ hh i1 i2 =>
    rw [dep_node]
    have e : h.depth = 0 := by
      cases h with
      | none => rfl
      | int i => rfl
      | _ => exact hh.elim
    have e1 : ∀ i : Int, (PyData.int i).depth = 0 := fun _ => rfl
    rw [e, e1, e1]
    simp only [List.length_append, List.length_cons]
    omega
theorem Tr.told {g : Int} {hs : List PyData} {t : PyData} {d : Nat} (h : Tr g hs t d) : ∀ n, t.depth < n → M46.told g n t = some ((hs.length : Int), tot g hs, (d : Int)) := by
  induction h with
  | nil =>
    intro n _
    cases n <;> rfl
  | @node l r tl tr h dl dr _ _ h1 h2 hh i1 i2 =>
    intro n hn
    rw [dep_node] at hn
    cases n with
    | zero => omega
    | succ n =>
      unfold M46.told
      rw [if_pos (hgt_ok hh), i1 n (by omega), i2 n (by omega)]
      dsimp only
      rw [if_neg (by omega), if_pos ⟨by omega, by omega⟩, tot_app, tot_cons]
      simp only [List.length_append, List.length_cons]
      refine congrArg some (Prod.ext ?_ (Prod.ext ?_ ?_)) <;> dsimp only <;> omega
/-! ### how great -/
theorem Tr.nd {g : Int} {hs : List PyData} {t : PyData} {d : Nat} (h : Tr g hs t d) : Pd.nd t = 5 * hs.length + 1 := by
  induction h with
  | nil => rfl
  | @node l r tl tr h dl dr _ _ h1 h2 hh i1 i2 =>
    have e : Pd.nd h = 1 := by
      cases h with
      | none => rfl
      | int i => rfl
      | _ => exact hh.elim
    show Pd.nd tl + (Pd.nd h + (Pd.nd tr + (1 + (1 + 0)))) + 1 = _
    rw [i1, i2, e]
    simp only [List.length_append, List.length_cons]
    omega
theorem cnt_le {g : Int} {h : PyData} (x : hgt h) (hg : 0 ≤ g ∧ g ≤ 1000000) : 0 ≤ cnt g h ∧ cnt g h ≤ 1000000 := by
  cases h with
  | none => exact hg
  | int i => exact x
  | _ => exact x.elim
theorem Tr.all {g : Int} {hs : List PyData} {t : PyData} {d : Nat} (h : Tr g hs t d) : ∀ x ∈ hs, hgt x := by
  induction h with
  | nil => intro x hx; cases hx
  | @node l r tl tr h dl dr _ _ h1 h2 hh i1 i2 =>
    intro x hx
    rcases List.mem_append.mp hx with hx | hx
    · exact i1 x hx
    · rcases List.mem_cons.mp hx with rfl | hx
      · exact hh
      · exact i2 x hx
theorem tot_le {g : Int} (hg : 0 ≤ g ∧ g ≤ 1000000) : ∀ {hs : List PyData}, (∀ x ∈ hs, hgt x) → 0 ≤ tot g hs ∧ tot g hs ≤ 1000000 * (hs.length : Int)
  | [], _ => ⟨Int.le_refl _, Int.le_refl _⟩
  | h :: hs, hx => by
    have a := cnt_le (hx h (.head _)) hg
    have b := tot_le hg (hs := hs) fun x m => hx x (.tail _ m)
    rw [tot_cons]
    simp only [List.length_cons]
    omega
theorem hgt_bd {h : PyData} (x : hgt h) : bd h := by
  cases h with
  | none => trivial
  | int i =>
    have h5 : (1000000 : Nat) < 10 ^ 50 := by decide
    show i.natAbs < 10 ^ 50
    have := x.1
    have := x.2
    omega
  | _ => exact x.elim
theorem int_bd {i : Int} (h : i.natAbs ≤ 1000000000000) : bd (.int i) := by
  have h5 : (1000000000000 : Nat) < 10 ^ 50 := by decide
  show i.natAbs < 10 ^ 50
  omega
theorem Tr.bd {g : Int} {hs : List PyData} {t : PyData} {d : Nat} (h : Tr g hs t d) (hg : 0 ≤ g ∧ g ≤ 1000000) : hs.length ≤ 1000 → Pd.bd t := by
  induction h with
  | nil => intro _; trivial
  | @node l r tl tr h dl dr x y h1 h2 hh i1 i2 =>
    intro hl
    simp only [List.length_append, List.length_cons] at hl
    have a := tot_le hg x.all
    have b := tot_le hg y.all
    have c := cnt_le hh hg
    exact ⟨i1 (by omega), hgt_bd hh, i2 (by omega), int_bd (by omega), int_bd (by omega), trivial⟩
/-! ### the middle tree -/
def bits (n : Nat) : Nat := if n = 0 then 0 else n.log2 + 1
theorem bits_le {n k : Nat} : bits n ≤ k ↔ n < 2 ^ k := by
  unfold bits
  split
  · rename_i h
    subst h
    simp [Nat.two_pow_pos]
  · rename_i h
    rw [Nat.succ_le_iff, Nat.log2_lt h]
theorem bits_half {n : Nat} (h : 0 < n) : bits n = 1 + bits (n / 2) := by
  have up : bits n ≤ 1 + bits (n / 2) := by
    rw [bits_le]
    have := (bits_le (n := n / 2) (k := bits (n / 2))).mp (Nat.le_refl _)
    rw [Nat.add_comm, Nat.pow_succ]
    omega
  have dn : 1 ≤ bits n := by
    unfold bits
    rw [if_neg (by omega)]
    omega
  have lo : bits (n / 2) ≤ bits n - 1 := by
    rw [bits_le]
    have h1 := (bits_le (n := n) (k := bits n)).mp (Nat.le_refl _)
    have h2 : 2 ^ bits n = 2 ^ (bits n - 1) * 2 := by
      rw [← Nat.pow_succ]
      congr 1
      omega
    omega
  omega
theorem bits_mono {m n : Nat} (h : m ≤ n) : bits m ≤ bits n := by
  rw [bits_le]
  exact Nat.lt_of_le_of_lt h (bits_le.mp (Nat.le_refl _))
theorem bits_succ (m : Nat) : bits (m + 1) ≤ bits m + 1 := by
  rw [bits_le, Nat.pow_succ]
  have := (bits_le (n := m) (k := bits m)).mp (Nat.le_refl _)
  omega
theorem tr_mid {g : Int} {hs : List PyData} {h tl tr : PyData} (hn : hs[hs.length / 2]? = some h) (x : Tr g (hs.take (hs.length / 2)) tl (bits (hs.length / 2))) (y : Tr g (hs.drop (hs.length / 2 + 1)) tr (bits (hs.length - hs.length / 2 - 1))) (hh : hgt h) :
    Tr g hs (.tuple [tl, h, tr, .int (hs.length : Int), .int (tot g hs)]) (bits hs.length) := by
  have hl : hs.length / 2 < hs.length := (List.getElem?_eq_some_iff.mp hn).1
  have m1 : bits (hs.length - hs.length / 2 - 1) ≤ bits (hs.length / 2) := bits_mono (by omega)
  have m2 : bits (hs.length / 2) ≤ bits (hs.length - hs.length / 2 - 1) + 1 := by
    by_cases e : hs.length / 2 = hs.length - hs.length / 2 - 1
    · rw [← e]; omega
    · have e2 : hs.length / 2 = hs.length - hs.length / 2 - 1 + 1 := by omega
      have := bits_succ (hs.length - hs.length / 2 - 1)
      rw [← e2] at this
      exact this
  have z := Tr.node x y (by omega) (by omega) hh
  have e0 : hs.take (hs.length / 2) ++ h :: hs.drop (hs.length / 2 + 1) = hs := by
    obtain ⟨hi, e⟩ := List.getElem?_eq_some_iff.mp hn
    rw [← e, ← List.drop_eq_getElem_cons hi, List.take_append_drop]
  rw [e0] at z
  have e1 : ((hs.take (hs.length / 2)).length : Int) + 1 + (hs.drop (hs.length / 2 + 1)).length = hs.length := by
    rw [List.length_take, List.length_drop]
    omega
  have e2 : tot g (hs.take (hs.length / 2)) + cnt g h + tot g (hs.drop (hs.length / 2 + 1)) = tot g hs := by
    conv => rhs; rw [← e0]
    rw [tot_app, tot_cons]
    omega
  rw [e1, e2] at z
  rw [bits_half (by omega)]
  rw [Nat.max_eq_left m1] at z
  exact z
theorem tr_at {g : Int} {hs : List PyData} {h tl tr : PyData} {i dl dr : Nat} (hn : hs[i]? = some h) (x : Tr g (hs.take i) tl dl) (y : Tr g (hs.drop (i + 1)) tr dr) (h1 : dl ≤ dr + 1) (h2 : dr ≤ dl + 1) (hh : hgt h) :
    Tr g hs (.tuple [tl, h, tr, .int (hs.length : Int), .int (tot g hs)]) (1 + max dl dr) := by
  have z := Tr.node x y h1 h2 hh
  have hi0 : i < hs.length := (List.getElem?_eq_some_iff.mp hn).1
  have e0 : hs.take i ++ h :: hs.drop (i + 1) = hs := by
    obtain ⟨hi, e⟩ := List.getElem?_eq_some_iff.mp hn
    rw [← e, ← List.drop_eq_getElem_cons hi, List.take_append_drop]
  rw [e0] at z
  have e1 : ((hs.take i).length : Int) + 1 + (hs.drop (i + 1)).length = hs.length := by
    rw [List.length_take, List.length_drop]
    omega
  have e2 : tot g (hs.take i) + cnt g h + tot g (hs.drop (i + 1)) = tot g hs := by
    conv => rhs; rw [← e0]
    rw [tot_app, tot_cons]
    omega
  rw [e1, e2] at z
  exact z
end M46

/-! M45: balanced trees of heights. -/
namespace M45
open PySem Pd
open M46 (cnt tot hgt Tr tot_app tot_cons)
inductive Nd where
  | nil
  | node (l : Nd) (h : PyData) (r : Nd)
def rows : Nd → Nat
  | .nil => 0
  | .node l _ r => rows l + 1 + rows r
def dep : Nd → Nat
  | .nil => 0
  | .node l _ r => 1 + max (dep l) (dep r)
/-- the heights, in order -/
def lst : Nd → List PyData
  | .nil => []
  | .node l h r => lst l ++ h :: lst r
theorem rows_lst : ∀ t : Nd, rows t = (lst t).length
  | .nil => rfl
  | .node l h r => by simp only [rows, lst, List.length_append, List.length_cons, rows_lst l, rows_lst r]; omega
/-- a node as the program holds it -/
def dn (g : Int) : Nd → PyData
  | .nil => .none
  | .node l h r => .tuple [dn g l, h, dn g r, .int (rows (.node l h r) : Nat), .int (tot g (lst (.node l h r))), .int (dep (.node l h r) : Nat)]
/-- without depths -/
def pln (g : Int) : Nd → PyData
  | .nil => .none
  | .node l h r => .tuple [pln g l, h, pln g r, .int (rows (.node l h r) : Nat), .int (tot g (lst (.node l h r)))]
def Bal : Nd → Prop
  | .nil => True
  | .node l _ r => Bal l ∧ Bal r ∧ dep l ≤ dep r + 1 ∧ dep r ≤ dep l + 1
def bal (l : Nd) (h : PyData) (r : Nd) : Nd :=
  if dep r + 1 < dep l then
    match l with
    | .nil => .node l h r
    | .node a o b => if dep b ≤ dep a then .node a o (.node b h r) else
      match b with
      | .nil => .node l h r
      | .node c m d => .node (.node a o c) m (.node d h r)
  else if dep l + 1 < dep r then
    match r with
    | .nil => .node l h r
    | .node a o b => if dep a ≤ dep b then .node (.node l h a) o b else
      match a with
      | .nil => .node l h r
      | .node c m d => .node (.node l h c) m (.node d o b)
  else .node l h r
def ins : Nd → Nat → PyData → Nd
  | .nil, _, h => .node .nil h .nil
  | .node l o r, i, h => if i ≤ rows l then bal (ins l i h) o r else bal l o (ins r (i - rows l - 1) h)
def upd : Nd → Nat → PyData → Nd
  | .nil, _, _ => .nil
  | .node l o r, i, h => if i < rows l then .node (upd l i h) o r else if rows l < i then .node l o (upd r (i - rows l - 1) h) else .node l h r
def get : Nd → Nat → PyData
  | .nil, _ => .none
  | .node l o r, i => if i < rows l then get l i else if rows l < i then get r (i - rows l - 1) else o
def del : Nd → Nat → Nd
  | .nil, _ => .nil
  | .node l o r, i => if i < rows l then bal (del l i) o r else if rows l < i then bal l o (del r (i - rows l - 1)) else
    match r with
    | .nil => l
    | .node _ _ _ => bal l (get r 0) (del r 0)
theorem lst_bal (l : Nd) (h : PyData) (r : Nd) : lst (bal l h r) = lst l ++ h :: lst r := by
  unfold bal
  split
  · cases l with
    | nil => rfl
    | node a o b =>
      dsimp only
      split
      · simp [lst]
      · cases b with
        | nil => rfl
        | node c m d => simp [lst]
  · split
    · cases r with
      | nil => rfl
      | node a o b =>
        dsimp only
        split
        · simp [lst]
        · cases a with
          | nil => rfl
          | node c m d => simp [lst]
    · rfl
/-- bal of two balanced nodes whose depths differ by at most 2 -/
theorem bal_ok {l r : Nd} {h : PyData} (bl : Bal l) (br : Bal r) (h1 : dep l ≤ dep r + 2) (h2 : dep r ≤ dep l + 2) : Bal (bal l h r) ∧ max (dep l) (dep r) ≤ dep (bal l h r) ∧ dep (bal l h r) ≤ 1 + max (dep l) (dep r) ∧ (dep l ≤ dep r + 1 → dep r ≤ dep l + 1 → dep (bal l h r) = 1 + max (dep l) (dep r)) := by
  unfold bal
  split
  · rename_i z
    cases l with
    | nil => simp [dep] at z
    | node a o b =>
      obtain ⟨ba, bb, e1, e2⟩ := bl
      simp only [dep] at z h1 h2 ⊢
      split
      · rename_i y
        refine ⟨⟨ba, ⟨bb, br, by omega, by omega⟩, ?_, ?_⟩, ?_, ?_, ?_⟩ <;> (try simp only [dep]) <;> omega
      · rename_i y
        cases b with
        | nil => simp [dep] at y
        | node c m d =>
          obtain ⟨bc, bd, e3, e4⟩ := bb
          simp only [dep] at z y h1 h2 e1 e2 ⊢
          refine ⟨⟨⟨ba, bc, ?_, ?_⟩, ⟨bd, br, ?_, ?_⟩, ?_, ?_⟩, ?_, ?_, ?_⟩ <;> (try simp only [dep]) <;> omega
  · split
    · rename_i x z
      cases r with
      | nil => simp [dep] at z
      | node a o b =>
        obtain ⟨ba, bb, e1, e2⟩ := br
        simp only [dep] at x z h1 h2 ⊢
        split
        · rename_i y
          refine ⟨⟨⟨bl, ba, by omega, by omega⟩, bb, ?_, ?_⟩, ?_, ?_, ?_⟩ <;> (try simp only [dep]) <;> omega
        · rename_i y
          cases a with
          | nil => simp [dep] at y
          | node c m d =>
            obtain ⟨bc, bd, e3, e4⟩ := ba
            simp only [dep] at x z y h1 h2 e1 e2 ⊢
            refine ⟨⟨⟨bl, bc, ?_, ?_⟩, ⟨bd, bb, ?_, ?_⟩, ?_, ?_⟩, ?_, ?_, ?_⟩ <;> (try simp only [dep]) <;> omega
    · rename_i x z
      refine ⟨⟨bl, br, by omega, by omega⟩, ?_, ?_, fun _ _ => rfl⟩ <;> (try simp only [dep]) <;> omega
theorem ins_ok : ∀ {t : Nd} {i : Nat} {h : PyData}, Bal t → Bal (ins t i h) ∧ dep t ≤ dep (ins t i h) ∧ dep (ins t i h) ≤ dep t + 1
  | .nil, i, h, _ => ⟨⟨trivial, trivial, Nat.zero_le _, Nat.zero_le _⟩, Nat.zero_le _, Nat.le_refl _⟩
  | .node l o r, i, h, b => by
    obtain ⟨bl, br, e1, e2⟩ := b
    unfold ins
    split
    · obtain ⟨b1, b2, b3⟩ := ins_ok (i := i) (h := h) bl
      obtain ⟨c1, c2, c3, c4⟩ := bal_ok (h := o) b1 br (by omega) (by omega)
      refine ⟨c1, ?_, ?_⟩ <;> (try simp only [dep]) <;> omega
    · obtain ⟨b1, b2, b3⟩ := ins_ok (i := i - rows l - 1) (h := h) br
      obtain ⟨c1, c2, c3, c4⟩ := bal_ok (h := o) bl b1 (by omega) (by omega)
      refine ⟨c1, ?_, ?_⟩ <;> (try simp only [dep]) <;> omega
theorem upd_ok : ∀ {t : Nd} {i : Nat} {h : PyData}, Bal t → Bal (upd t i h) ∧ dep (upd t i h) = dep t
  | .nil, i, h, _ => ⟨trivial, rfl⟩
  | .node l o r, i, h, b => by
    obtain ⟨bl, br, e1, e2⟩ := b
    unfold upd
    split
    · obtain ⟨b1, b2⟩ := upd_ok (i := i) (h := h) bl
      refine ⟨⟨b1, br, by omega, by omega⟩, ?_⟩
      simp only [dep, b2]
    · split
      · obtain ⟨b1, b2⟩ := upd_ok (i := i - rows l - 1) (h := h) br
        refine ⟨⟨bl, b1, by omega, by omega⟩, ?_⟩
        simp only [dep, b2]
      · exact ⟨⟨bl, br, e1, e2⟩, rfl⟩
theorem del_ok : ∀ {t : Nd} {i : Nat}, Bal t → i < rows t → Bal (del t i) ∧ dep (del t i) ≤ dep t ∧ dep t ≤ dep (del t i) + 1
  | .node l o r, i, b, hi => by
    obtain ⟨bl, br, e1, e2⟩ := b
    simp only [rows] at hi
    unfold del
    split
    · obtain ⟨b1, b2, b3⟩ := del_ok (i := i) bl (by omega)
      obtain ⟨c1, c2, c3, c4⟩ := bal_ok (h := o) b1 br (by omega) (by omega)
      refine ⟨c1, ?_, ?_⟩ <;> (try simp only [dep]) <;> omega
    · split
      · obtain ⟨b1, b2, b3⟩ := del_ok (i := i - rows l - 1) br (by omega)
        obtain ⟨c1, c2, c3, c4⟩ := bal_ok (h := o) bl b1 (by omega) (by omega)
        refine ⟨c1, ?_, ?_⟩ <;> (try simp only [dep]) <;> omega
      · cases r with
        | nil =>
          dsimp only
          simp only [dep] at e1 e2 ⊢
          exact ⟨bl, by omega, by omega⟩
        | node a m b' =>
          obtain ⟨b1, b2, b3⟩ := del_ok (i := 0) br (by simp only [rows]; omega)
          obtain ⟨c1, c2, c3, c4⟩ := bal_ok (h := get (.node a m b') 0) bl b1 (by omega) (by omega)
          dsimp only
          refine ⟨c1, ?_, ?_⟩ <;> simp only [dep] at * <;> omega
theorem lst_ins : ∀ {t : Nd} {i : Nat} {h : PyData}, i ≤ rows t → lst (ins t i h) = (lst t).take i ++ h :: (lst t).drop i
  | .nil, i, h, hi => by simp [ins, lst]
  | .node l o r, i, h, hi => by
    simp only [rows] at hi
    unfold ins
    split
    · rename_i z
      rw [lst_bal, lst_ins z, lst, List.take_append_of_le_length (by rw [← rows_lst]; exact z), List.drop_append_of_le_length (by rw [← rows_lst]; exact z)]
      simp
    · rename_i z
      rw [lst_bal, lst_ins (by omega), lst]
      obtain ⟨j, rfl⟩ : ∃ j, i = (lst l).length + (j + 1) := ⟨i - rows l - 1, by rw [← rows_lst]; omega⟩
      rw [List.take_length_add_append, List.drop_length_add_append, rows_lst l, show (lst l).length + (j + 1) - (lst l).length - 1 = j by omega]
      simp
theorem lst_upd : ∀ {t : Nd} {i : Nat} {h : PyData}, i < rows t → lst (upd t i h) = (lst t).set i h
  | .node l o r, i, h, hi => by
    simp only [rows] at hi
    unfold upd
    split
    · rename_i z
      rw [lst, lst, lst_upd z, List.set_append_left _ _ (by rw [← rows_lst]; exact z)]
    · split
      · rename_i z y
        rw [lst, lst, lst_upd (by omega), List.set_append_right _ _ (by rw [← rows_lst]; omega), ← rows_lst, show i - rows l = (i - rows l - 1) + 1 by omega, List.set_cons_succ]
        rfl
      · rename_i z y
        rw [lst, lst, List.set_append_right _ _ (by rw [← rows_lst]; omega), ← rows_lst, show i - rows l = 0 by omega, List.set_cons_zero]
theorem lst_get : ∀ {t : Nd} {i : Nat}, i < rows t → (lst t)[i]? = some (get t i)
  | .node l o r, i, hi => by
    simp only [rows] at hi
    unfold get
    split
    · rename_i z
      rw [lst, List.getElem?_append_left (by rw [← rows_lst]; exact z), lst_get z]
    · split
      · rename_i z y
        rw [lst, List.getElem?_append_right (by rw [← rows_lst]; omega), ← rows_lst, show i - rows l = (i - rows l - 1) + 1 by omega, List.getElem?_cons_succ, lst_get (by omega)]
        rfl
      · rename_i z y
        rw [lst, List.getElem?_append_right (by rw [← rows_lst]; omega), ← rows_lst, show i - rows l = 0 by omega, List.getElem?_cons_zero]
theorem lst_del : ∀ {t : Nd} {i : Nat}, i < rows t → lst (del t i) = (lst t).take i ++ (lst t).drop (i + 1)
  | .node l o r, i, hi => by
    simp only [rows] at hi
    unfold del
    split
    · rename_i z
      have z' : i < (lst l).length := by rw [← rows_lst]; exact z
      rw [lst_bal, lst_del z, lst, List.take_append_of_le_length (by omega), List.drop_append_of_le_length (by omega)]
      simp
    · split
      · rename_i z y
        rw [lst_bal, lst_del (by omega), lst]
        obtain ⟨j, rfl⟩ : ∃ j, i = (lst l).length + (j + 1) := ⟨i - rows l - 1, by rw [← rows_lst]; omega⟩
        rw [List.take_length_add_append, show (lst l).length + (j + 1) + 1 = (lst l).length + (j + 2) by omega, List.drop_length_add_append, rows_lst l, show (lst l).length + (j + 1) - (lst l).length - 1 = j by omega]
        simp
      · rename_i z y
        have e : i = (lst l).length := by rw [← rows_lst]; omega
        cases r with
        | nil =>
          subst e
          simp [lst]
        | node a m b =>
          dsimp only
          have g0 := lst_get (t := .node a m b) (i := 0) (by simp only [rows]; omega)
          have el : lst (.node l o (.node a m b)) = lst l ++ o :: lst (.node a m b) := rfl
          rw [lst_bal, lst_del (by simp only [rows]; omega), el, e]
          generalize get (.node a m b) 0 = x at g0 ⊢
          generalize lst (.node a m b) = L at g0 ⊢
          cases L with
          | nil => cases g0
          | cons q qs =>
            cases g0
            simp
/-- a balanced node is not deep -/
theorem bal_deep : ∀ {t : Nd}, Bal t → 2 ^ (dep t / 2) ≤ rows t + 1
  | .nil, _ => by decide
  | .node l h r, b => by
    obtain ⟨bl, br, e1, e2⟩ := b
    have i1 := bal_deep bl
    have i2 := bal_deep br
    simp only [dep, rows]
    by_cases z : 1 + max (dep l) (dep r) < 2
    · have : (1 + max (dep l) (dep r)) / 2 = 0 := by omega
      rw [this]
      omega
    · obtain ⟨k, hk⟩ : ∃ k, 1 + max (dep l) (dep r) = k + 2 := ⟨max (dep l) (dep r) - 1, by omega⟩
      rw [hk, show (k + 2) / 2 = k / 2 + 1 by omega, Nat.pow_succ]
      have m1 : 2 ^ (k / 2) ≤ 2 ^ (dep l / 2) := Nat.pow_le_pow_right (by decide) (by omega)
      have m2 : 2 ^ (k / 2) ≤ 2 ^ (dep r / 2) := Nat.pow_le_pow_right (by decide) (by omega)
      omega
theorem bal_deep60 {t : Nd} (b : Bal t) (h : rows t ≤ 1000) : dep t < 22 := by
  have z := bal_deep b
  by_cases y : dep t < 22
  · exact y
  · have : 2 ^ 11 ≤ 2 ^ (dep t / 2) := Nat.pow_le_pow_right (by decide) (by omega)
    omega
theorem tr_pln {g : Int} : ∀ {t : Nd}, Bal t → (∀ x ∈ lst t, hgt x) → Tr g (lst t) (pln g t) (dep t)
  | .nil, _, _ => .nil
  | .node l h r, b, hh => by
    obtain ⟨bl, br, e1, e2⟩ := b
    have z := Tr.node (tr_pln (g := g) bl fun x hx => hh x (by simp [lst, hx])) (tr_pln (g := g) br fun x hx => hh x (by simp [lst, hx])) e1 e2 (hh h (by simp [lst]))
    have e3 : ((rows (.node l h r) : Nat) : Int) = ((lst l).length : Int) + 1 + (lst r).length := by
      simp only [rows, rows_lst]
      omega
    have e4 : tot g (lst (.node l h r)) = tot g (lst l) + cnt g h + tot g (lst r) := by
      rw [lst, tot_app, tot_cons]
      omega
    show Tr g (lst l ++ h :: lst r) (.tuple [pln g l, h, pln g r, .int (rows (.node l h r) : Nat), .int (tot g (lst (.node l h r)))]) (1 + max (dep l) (dep r))
    rw [e3, e4]
    exact z
end M45
namespace M45
open PySem Pd
open M46 (cnt tot hgt Tr tot_app tot_cons)
/-- the row that covers an offset -/
def cov (g : Int) : List PyData → Int → Nat
  | [], _ => 0
  | h :: hs, o => if o < cnt g h then 0 else 1 + cov g hs (o - cnt g h)
def rowAt (g : Int) (hs : List PyData) (o : Int) : PyData := if 0 ≤ o ∧ o < tot g hs then .int (cov g hs o : Nat) else .none
def isn : PyData → Bool
  | .none => true
  | _ => false
/-- how many heights are known -/
def kno (hs : List PyData) : Nat := (hs.filter fun h => !isn h).length
def k1 (h : PyData) : Nat := if isn h = true then 0 else 1
theorem kno_app (a b : List PyData) : kno (a ++ b) = kno a + kno b := by simp [kno]
theorem kno_cons (h : PyData) (b : List PyData) : kno (h :: b) = k1 h + kno b := by
  unfold kno k1
  rw [List.filter_cons]
  cases isn h
  · simp only [Bool.not_false, if_true, List.length_cons]
    simp
    omega
  · simp
theorem kno_le (hs : List PyData) : kno hs ≤ hs.length := List.length_filter_le _ _
theorem kno_ins {t : Nd} {i : Nat} {h : PyData} (hi : i ≤ rows t) : kno (lst (ins t i h)) = kno (lst t) + k1 h := by
  rw [lst_ins hi, kno_app, kno_cons]
  have := kno_app ((lst t).take i) ((lst t).drop i)
  rw [List.take_append_drop] at this
  omega
theorem parts {t : Nd} {i : Nat} (hi : i < rows t) : lst t = (lst t).take i ++ get t i :: (lst t).drop (i + 1) := by
  obtain ⟨h, e⟩ := List.getElem?_eq_some_iff.mp (lst_get hi)
  rw [← e, ← List.drop_eq_getElem_cons h, List.take_append_drop]
theorem kno_upd {t : Nd} {i : Nat} {h : PyData} (hi : i < rows t) : kno (lst (upd t i h)) + k1 (get t i) = kno (lst t) + k1 h := by
  have hl : i < (lst t).length := by rw [← rows_lst]; exact hi
  rw [lst_upd hi, List.set_eq_take_append_cons_drop, if_pos hl, kno_app, kno_cons]
  have e := congrArg kno (parts hi)
  rw [kno_app, kno_cons] at e
  omega
theorem kno_del {t : Nd} {i : Nat} (hi : i < rows t) : kno (lst (del t i)) + k1 (get t i) = kno (lst t) := by
  rw [lst_del hi, kno_app]
  have e := congrArg kno (parts hi)
  rw [kno_app, kno_cons] at e
  omega
theorem rows_ins {t : Nd} {i : Nat} {h : PyData} (hi : i ≤ rows t) : rows (ins t i h) = rows t + 1 := by
  rw [rows_lst, lst_ins hi, List.length_append, List.length_cons, List.length_take, List.length_drop, ← rows_lst]
  omega
theorem rows_upd {t : Nd} {i : Nat} {h : PyData} (hi : i < rows t) : rows (upd t i h) = rows t := by rw [rows_lst, lst_upd hi, List.length_set, ← rows_lst]
theorem rows_del {t : Nd} {i : Nat} (hi : i < rows t) : rows (del t i) + 1 = rows t := by
  rw [rows_lst, lst_del hi, List.length_append, List.length_take, List.length_drop, ← rows_lst]
  omega
theorem get_mem {t : Nd} {i : Nat} (hi : i < rows t) : get t i ∈ lst t := List.mem_of_getElem? (lst_get hi)
def Hs (hs : List PyData) : Prop := ∀ x ∈ hs, hgt x
theorem hs_ins {t : Nd} {i : Nat} {h : PyData} (hi : i ≤ rows t) (H : Hs (lst t)) (hh : hgt h) : Hs (lst (ins t i h)) := fun x hx => by
  rw [lst_ins hi] at hx
  rcases List.mem_append.mp hx with z | z
  · exact H x (List.mem_of_mem_take z)
  · rcases List.mem_cons.mp z with z | z
    · rw [z]; exact hh
    · exact H x (List.mem_of_mem_drop z)
theorem hs_upd {t : Nd} {i : Nat} {h : PyData} (hi : i < rows t) (H : Hs (lst t)) (hh : hgt h) : Hs (lst (upd t i h)) := fun x hx => by
  rw [lst_upd hi] at hx
  rcases List.mem_or_eq_of_mem_set hx with z | z
  · exact H x z
  · rw [z]; exact hh
theorem hs_del {t : Nd} {i : Nat} (hi : i < rows t) (H : Hs (lst t)) : Hs (lst (del t i)) := fun x hx => by
  rw [lst_del hi] at hx
  rcases List.mem_append.mp hx with z | z
  · exact H x (List.mem_of_mem_take z)
  · exact H x (List.mem_of_mem_drop z)
theorem cnt_nn {g : Int} {h : PyData} (hg : 0 ≤ g) (hh : hgt h) : 0 ≤ cnt g h := by
  cases h with
  | int i => exact hh.1
  | none => exact hg
  | _ => exact hh.elim
theorem tot_nn {g : Int} (hg : 0 ≤ g) : ∀ {hs : List PyData}, Hs hs → 0 ≤ tot g hs
  | [], _ => Int.le_refl 0
  | h :: hs, H => by
    rw [tot_cons]
    have := cnt_nn hg (H h (.head _))
    have := tot_nn hg (hs := hs) fun x hx => H x (.tail _ hx)
    omega
theorem cov_app {g : Int} (hg : 0 ≤ g) : ∀ {a : List PyData} {b : List PyData} {o : Int}, Hs a → 0 ≤ o → cov g (a ++ b) o = if o < tot g a then cov g a o else a.length + cov g b (o - tot g a)
  | [], b, o, _, ho => by
    show cov g b o = if o < 0 then 0 else 0 + cov g b (o - 0)
    rw [if_neg (by omega), Nat.zero_add, Int.sub_zero]
  | h :: a, b, o, H, ho => by
    have Ha : Hs a := fun x hx => H x (.tail _ hx)
    have n1 := tot_nn hg Ha
    show (if o < cnt g h then 0 else 1 + cov g (a ++ b) (o - cnt g h)) = if o < tot g (h :: a) then (if o < cnt g h then 0 else 1 + cov g a (o - cnt g h)) else (a.length + 1) + cov g b (o - tot g (h :: a))
    rw [tot_cons]
    by_cases z : o < cnt g h
    · rw [if_pos z, if_pos (by omega), if_pos z]
    · rw [if_neg z, cov_app hg Ha (by omega), if_neg z]
      by_cases y : o < cnt g h + tot g a
      · rw [if_pos (show o - cnt g h < tot g a by omega), if_pos y]
      · rw [if_neg (show ¬ o - cnt g h < tot g a by omega), if_neg y, show o - cnt g h - tot g a = o - (cnt g h + tot g a) by omega]
        omega
theorem hs_take {hs : List PyData} (H : Hs hs) (i : Nat) : Hs (hs.take i) := fun x hx => H x (List.mem_of_mem_take hx)
theorem hs_drop {hs : List PyData} (H : Hs hs) (i : Nat) : Hs (hs.drop i) := fun x hx => H x (List.mem_of_mem_drop hx)
theorem tot_take {g : Int} {hs : List PyData} {i : Nat} {h : PyData} (hi : hs[i]? = some h) : tot g (hs.take (i + 1)) = tot g (hs.take i) + cnt g h := by
  rw [List.take_add_one, hi, tot_app]
  show tot g (hs.take i) + tot g [h] = _
  rw [tot_cons]
  show _ + (cnt g h + 0) = _
  omega
/-- the first row that covers an offset, looked for one by one -/
theorem cov_hit {g : Int} (hg : 0 ≤ g) {hs : List PyData} {i : Nat} {h : PyData} {o : Int} (H : Hs hs) (hi : hs[i]? = some h) (h1 : tot g (hs.take i) ≤ o) (h2 : o < tot g (hs.take i) + cnt g h) : rowAt g hs o = .int (i : Nat) := by
  obtain ⟨hl, e⟩ := List.getElem?_eq_some_iff.mp hi
  have n1 := tot_nn hg (hs_take H i)
  have n2 := tot_nn hg (hs_drop H (i + 1))
  have ep : hs = hs.take i ++ h :: hs.drop (i + 1) := by rw [← e, ← List.drop_eq_getElem_cons hl, List.take_append_drop]
  have et : tot g hs = tot g (hs.take i) + (cnt g h + tot g (hs.drop (i + 1))) := by
    conv => lhs; rw [ep]
    rw [tot_app, tot_cons]
  have ec : cov g hs o = i := by
    conv => lhs; rw [ep]
    rw [cov_app hg (hs_take H i) (by omega), if_neg (by omega), List.length_take, Nat.min_eq_left (by omega)]
    show i + (if o - tot g (hs.take i) < cnt g h then 0 else _) = i
    rw [if_pos (by omega)]
    omega
  unfold rowAt
  rw [if_pos ⟨by omega, by omega⟩, ec]
theorem rowAt_none {g : Int} {hs : List PyData} {o : Int} (h : o < 0 ∨ tot g hs ≤ o) : rowAt g hs o = .none := by
  unfold rowAt
  rw [if_neg (by omega)]
theorem cov_le {g : Int} : ∀ (hs : List PyData) (o : Int), cov g hs o ≤ hs.length
  | [], _ => Nat.le_refl 0
  | h :: hs, o => by
    unfold cov
    split
    · exact Nat.zero_le _
    · have := cov_le (g := g) hs (o - cnt g h)
      rw [List.length_cons]
      omega
theorem hgt_dep {h : PyData} (x : hgt h) : h.depth = 0 := by
  cases h with
  | none => rfl
  | int i => rfl
  | _ => exact x.elim
theorem pln_depth {g : Int} : ∀ {t : Nd}, Hs (lst t) → (pln g t).depth = dep t
  | .nil, _ => rfl
  | .node l h r, H => by
    have il := pln_depth (g := g) (t := l) fun x hx => H x (List.mem_append_left _ hx)
    have ir := pln_depth (g := g) (t := r) fun x hx => H x (List.mem_append_right _ (.tail _ hx))
    have ih := hgt_dep (H h (List.mem_append_right _ (.head _)))
    rw [pln, M46.dep_node, il, ir, ih, dep]
    show max (dep l) (max 0 (max (dep r) (max 0 (max 0 0)))) + 1 = _
    omega
end M45

namespace Lw
open PySem PySem.Spec PyProof.Rows L2 Pd
/-! printed by gen.py: the text's defs -/
def topS (i : Nat) : Stmt := PySem.Challenge.pw_listworks_k45_heights_one_below_the_othe.main.body.getD i (.Pass ⟨0, 0, 0, 0⟩)
/-- the j-th statement of a class's body -/
def inCls : Stmt → Nat → Stmt
  | .ClassDef _ _ _ b _ _ _ _ _ _ _, j => b.getD j (.Pass ⟨0, 0, 0, 0⟩)
  | s, _ => s
abbrev s_counted : Stmt := topS 5
abbrev n_counted : List Str := ["height", "guess"]
abbrev p_counted : List Str := ["height", "guess"]
theorem sc_counted : FnScope n_counted p_counted (defScope s_counted) := ⟨rfl, rfl, rfl, by decide +kernel, rfl, by decide +kernel, by decide +kernel⟩
abbrev s_rows_of : Stmt := topS 6
abbrev n_rows_of : List Str := ["node"]
abbrev p_rows_of : List Str := ["node"]
theorem sc_rows_of : FnScope n_rows_of p_rows_of (defScope s_rows_of) := ⟨rfl, rfl, rfl, by decide +kernel, rfl, by decide +kernel, by decide +kernel⟩
abbrev s_total_of : Stmt := topS 7
abbrev n_total_of : List Str := ["node"]
abbrev p_total_of : List Str := ["node"]
theorem sc_total_of : FnScope n_total_of p_total_of (defScope s_total_of) := ⟨rfl, rfl, rfl, by decide +kernel, rfl, by decide +kernel, by decide +kernel⟩
abbrev s_depth_of : Stmt := topS 8
abbrev n_depth_of : List Str := ["node"]
abbrev p_depth_of : List Str := ["node"]
theorem sc_depth_of : FnScope n_depth_of p_depth_of (defScope s_depth_of) := ⟨rfl, rfl, rfl, by decide +kernel, rfl, by decide +kernel, by decide +kernel⟩
abbrev s_joined : Stmt := topS 9
abbrev n_joined : List Str := ["left", "height", "right", "guess", "rows", "total"]
abbrev p_joined : List Str := ["left", "height", "right", "guess"]
theorem sc_joined : FnScope n_joined p_joined (defScope s_joined) := ⟨rfl, rfl, rfl, by decide +kernel, rfl, by decide +kernel, by decide +kernel⟩
abbrev s_balanced : Stmt := topS 10
abbrev n_balanced : List Str := ["left", "height", "right", "guess", "first", "own", "second", "one", "middle", "other"]
abbrev p_balanced : List Str := ["left", "height", "right", "guess"]
theorem sc_balanced : FnScope n_balanced p_balanced (defScope s_balanced) := ⟨rfl, rfl, rfl, by decide +kernel, rfl, by decide +kernel, by decide +kernel⟩
abbrev s_with_row : Stmt := topS 11
abbrev n_with_row : List Str := ["node", "index", "height", "guess", "left", "own", "right"]
abbrev p_with_row : List Str := ["node", "index", "height", "guess"]
theorem sc_with_row : FnScope n_with_row p_with_row (defScope s_with_row) := ⟨rfl, rfl, rfl, by decide +kernel, rfl, by decide +kernel, by decide +kernel⟩
abbrev s_with_height : Stmt := topS 12
abbrev n_with_height : List Str := ["node", "index", "height", "guess", "left", "own", "right", "place"]
abbrev p_with_height : List Str := ["node", "index", "height", "guess"]
theorem sc_with_height : FnScope n_with_height p_with_height (defScope s_with_height) := ⟨rfl, rfl, rfl, by decide +kernel, rfl, by decide +kernel, by decide +kernel⟩
abbrev s_height_at : Stmt := topS 14
abbrev n_height_at : List Str := ["node", "index", "place"]
abbrev p_height_at : List Str := ["node", "index"]
theorem sc_height_at : FnScope n_height_at p_height_at (defScope s_height_at) := ⟨rfl, rfl, rfl, by decide +kernel, rfl, by decide +kernel, by decide +kernel⟩
abbrev s_without_row : Stmt := topS 13
abbrev n_without_row : List Str := ["node", "index", "guess", "left", "own", "right", "place"]
abbrev p_without_row : List Str := ["node", "index", "guess"]
theorem sc_without_row : FnScope n_without_row p_without_row (defScope s_without_row) := ⟨rfl, rfl, rfl, by decide +kernel, rfl, by decide +kernel, by decide +kernel⟩
abbrev s_offset_of : Stmt := topS 15
abbrev n_offset_of : List Str := ["node", "index", "guess", "left", "own", "right", "behind"]
abbrev p_offset_of : List Str := ["node", "index", "guess"]
theorem sc_offset_of : FnScope n_offset_of p_offset_of (defScope s_offset_of) := ⟨rfl, rfl, rfl, by decide +kernel, rfl, by decide +kernel, by decide +kernel⟩
abbrev s_covering : Stmt := topS 16
abbrev n_covering : List Str := ["node", "offset", "guess", "left", "own", "right", "behind"]
abbrev p_covering : List Str := ["node", "offset", "guess"]
theorem sc_covering : FnScope n_covering p_covering (defScope s_covering) := ⟨rfl, rfl, rfl, by decide +kernel, rfl, by decide +kernel, by decide +kernel⟩
abbrev s_plain_tree : Stmt := topS 17
abbrev n_plain_tree : List Str := ["node", "left", "height", "right", "rows", "total", "depth"]
abbrev p_plain_tree : List Str := ["node"]
theorem sc_plain_tree : FnScope n_plain_tree p_plain_tree (defScope s_plain_tree) := ⟨rfl, rfl, rfl, by decide +kernel, rfl, by decide +kernel, by decide +kernel⟩
abbrev s_heights_of : Stmt := topS 18
abbrev n_heights_of : List Str := ["node"]
abbrev p_heights_of : List Str := ["node"]
theorem sc_heights_of : FnScope n_heights_of p_heights_of (defScope s_heights_of) := ⟨rfl, rfl, rfl, by decide +kernel, rfl, by decide +kernel, by decide +kernel⟩
abbrev s_need_guess : Stmt := topS 20
abbrev n_need_guess : List Str := ["guess"]
abbrev p_need_guess : List Str := ["guess"]
theorem sc_need_guess : FnScope n_need_guess p_need_guess (defScope s_need_guess) := ⟨rfl, rfl, rfl, by decide +kernel, rfl, by decide +kernel, by decide +kernel⟩
abbrev s_need_height : Stmt := topS 21
abbrev n_need_height : List Str := ["height"]
abbrev p_need_height : List Str := ["height"]
theorem sc_need_height : FnScope n_need_height p_need_height (defScope s_need_height) := ⟨rfl, rfl, rfl, by decide +kernel, rfl, by decide +kernel, by decide +kernel⟩
abbrev s_is_integer : Stmt := topS 23
abbrev n_is_integer : List Str := ["value"]
abbrev p_is_integer : List Str := ["value"]
theorem sc_is_integer : FnScope n_is_integer p_is_integer (defScope s_is_integer) := ⟨rfl, rfl, rfl, by decide +kernel, rfl, by decide +kernel, by decide +kernel⟩
abbrev s_measured : Stmt := topS 24
abbrev n_measured : List Str := ["guess", "tree", "left", "height", "right", "rows", "total", "one", "other"]
abbrev p_measured : List Str := ["guess", "tree"]
theorem sc_measured : FnScope n_measured p_measured (defScope s_measured) := ⟨rfl, rfl, rfl, by decide +kernel, rfl, by decide +kernel, by decide +kernel⟩
abbrev s_tree_right : Stmt := topS 25
abbrev n_tree_right : List Str := ["guess", "tree"]
abbrev p_tree_right : List Str := ["guess", "tree"]
theorem sc_tree_right : FnScope n_tree_right p_tree_right (defScope s_tree_right) := ⟨rfl, rfl, rfl, by decide +kernel, rfl, by decide +kernel, by decide +kernel⟩
abbrev s_heights_in : Stmt := topS 26
abbrev n_heights_in : List Str := ["tree"]
abbrev p_heights_in : List Str := ["tree"]
theorem sc_heights_in : FnScope n_heights_in p_heights_in (defScope s_heights_in) := ⟨rfl, rfl, rfl, by decide +kernel, rfl, by decide +kernel, by decide +kernel⟩
abbrev s__law_deck : Stmt := topS 28
abbrev n__law_deck : List Str := ["script", "k", "cell", "mixed", "at"]
abbrev p__law_deck : List Str := ["script", "k"]
theorem sc__law_deck : FnScope n__law_deck p__law_deck (defScope s__law_deck) := ⟨rfl, rfl, rfl, by decide +kernel, rfl, by decide +kernel, by decide +kernel⟩
abbrev s__law_draw : Stmt := topS 29
abbrev n__law_draw : List Str := ["deck", "many", "found", "mixed"]
abbrev p__law_draw : List Str := ["deck", "many"]
theorem sc__law_draw : FnScope n__law_draw p__law_draw (defScope s__law_draw) := ⟨rfl, rfl, rfl, by decide +kernel, rfl, by decide +kernel, by decide +kernel⟩
abbrev s__law_same : Stmt := topS 30
abbrev n__law_same : List Str := ["found", "due", "at"]
abbrev p__law_same : List Str := ["found", "due"]
theorem sc__law_same : FnScope n__law_same p__law_same (defScope s__law_same) := ⟨rfl, rfl, rfl, by decide +kernel, rfl, by decide +kernel, by decide +kernel⟩
abbrev s__law_integer : Stmt := topS 31
abbrev n__law_integer : List Str := ["value"]
abbrev p__law_integer : List Str := ["value"]
theorem sc__law_integer : FnScope n__law_integer p__law_integer (defScope s__law_integer) := ⟨rfl, rfl, rfl, by decide +kernel, rfl, by decide +kernel, by decide +kernel⟩
abbrev s__law_height : Stmt := topS 32
abbrev n__law_height : List Str := ["deck"]
abbrev p__law_height : List Str := ["deck"]
theorem sc__law_height : FnScope n__law_height p__law_height (defScope s__law_height) := ⟨rfl, rfl, rfl, by decide +kernel, rfl, by decide +kernel, by decide +kernel⟩
abbrev s__law_counted : Stmt := topS 33
abbrev n__law_counted : List Str := ["height", "guess"]
abbrev p__law_counted : List Str := ["height", "guess"]
theorem sc__law_counted : FnScope n__law_counted p__law_counted (defScope s__law_counted) := ⟨rfl, rfl, rfl, by decide +kernel, rfl, by decide +kernel, by decide +kernel⟩
abbrev s__law_before : Stmt := topS 34
abbrev n__law_before : List Str := ["heights", "guess", "index", "height"]
abbrev p__law_before : List Str := ["heights", "guess", "index"]
theorem sc__law_before : FnScope n__law_before p__law_before (defScope s__law_before) := ⟨rfl, rfl, rfl, by decide +kernel, rfl, by decide +kernel, by decide +kernel⟩
abbrev s__law_covering : Stmt := topS 35
abbrev n__law_covering : List Str := ["heights", "guess", "offset", "index", "begin"]
abbrev p__law_covering : List Str := ["heights", "guess", "offset"]
theorem sc__law_covering : FnScope n__law_covering p__law_covering (defScope s__law_covering) := ⟨rfl, rfl, rfl, by decide +kernel, rfl, by decide +kernel, by decide +kernel⟩
abbrev s__law_tree_told : Stmt := topS 36
abbrev n__law_tree_told : List Str := ["guess", "tree", "one", "other", "told"]
abbrev p__law_tree_told : List Str := ["guess", "tree"]
theorem sc__law_tree_told : FnScope n__law_tree_told p__law_tree_told (defScope s__law_tree_told) := ⟨rfl, rfl, rfl, by decide +kernel, rfl, by decide +kernel, by decide +kernel⟩
abbrev s__law_tree_rows : Stmt := topS 37
abbrev n__law_tree_rows : List Str := ["tree"]
abbrev p__law_tree_rows : List Str := ["tree"]
theorem sc__law_tree_rows : FnScope n__law_tree_rows p__law_tree_rows (defScope s__law_tree_rows) := ⟨rfl, rfl, rfl, by decide +kernel, rfl, by decide +kernel, by decide +kernel⟩
abbrev s_Heights_total : Stmt := inCls (topS 22) 9
abbrev n_Heights_total : List Str := ["self"]
abbrev p_Heights_total : List Str := ["self"]
theorem sc_Heights_total : FnScope n_Heights_total p_Heights_total (defScope s_Heights_total) := ⟨rfl, rfl, rfl, by decide +kernel, rfl, by decide +kernel, by decide +kernel⟩
abbrev s_Heights_row_at : Stmt := inCls (topS 22) 8
abbrev n_Heights_row_at : List Str := ["self", "offset"]
abbrev p_Heights_row_at : List Str := ["self", "offset"]
theorem sc_Heights_row_at : FnScope n_Heights_row_at p_Heights_row_at (defScope s_Heights_row_at) := ⟨rfl, rfl, rfl, by decide +kernel, rfl, by decide +kernel, by decide +kernel⟩
abbrev s_Heights_need_index : Stmt := inCls (topS 22) 1
abbrev n_Heights_need_index : List Str := ["self", "index", "many"]
abbrev p_Heights_need_index : List Str := ["self", "index", "many"]
theorem sc_Heights_need_index : FnScope n_Heights_need_index p_Heights_need_index (defScope s_Heights_need_index) := ⟨rfl, rfl, rfl, by decide +kernel, rfl, by decide +kernel, by decide +kernel⟩
abbrev s_Heights_height : Stmt := inCls (topS 22) 5
abbrev n_Heights_height : List Str := ["self", "index"]
abbrev p_Heights_height : List Str := ["self", "index"]
theorem sc_Heights_height : FnScope n_Heights_height p_Heights_height (defScope s_Heights_height) := ⟨rfl, rfl, rfl, by decide +kernel, rfl, by decide +kernel, by decide +kernel⟩
abbrev s_Heights_offset : Stmt := inCls (topS 22) 7
abbrev n_Heights_offset : List Str := ["self", "index"]
abbrev p_Heights_offset : List Str := ["self", "index"]
theorem sc_Heights_offset : FnScope n_Heights_offset p_Heights_offset (defScope s_Heights_offset) := ⟨rfl, rfl, rfl, by decide +kernel, rfl, by decide +kernel, by decide +kernel⟩
abbrev s_Heights_known : Stmt := inCls (topS 22) 10
abbrev n_Heights_known : List Str := ["self"]
abbrev p_Heights_known : List Str := ["self"]
theorem sc_Heights_known : FnScope n_Heights_known p_Heights_known (defScope s_Heights_known) := ⟨rfl, rfl, rfl, by decide +kernel, rfl, by decide +kernel, by decide +kernel⟩
abbrev s_Heights_all_heights : Stmt := inCls (topS 22) 13
abbrev n_Heights_all_heights : List Str := ["self"]
abbrev p_Heights_all_heights : List Str := ["self"]
theorem sc_Heights_all_heights : FnScope n_Heights_all_heights p_Heights_all_heights (defScope s_Heights_all_heights) := ⟨rfl, rfl, rfl, by decide +kernel, rfl, by decide +kernel, by decide +kernel⟩
abbrev s_Heights___len__ : Stmt := inCls (topS 22) 12
abbrev n_Heights___len__ : List Str := ["self"]
abbrev p_Heights___len__ : List Str := ["self"]
theorem sc_Heights___len__ : FnScope n_Heights___len__ p_Heights___len__ (defScope s_Heights___len__) := ⟨rfl, rfl, rfl, by decide +kernel, rfl, by decide +kernel, by decide +kernel⟩
abbrev s__law_looks_right : Stmt := topS 38
abbrev n__law_looks_right : List Str := ["deck", "rows", "guess", "heights", "total", "known", "turn", "index", "offset", "height"]
abbrev p__law_looks_right : List Str := ["deck", "rows", "guess", "heights"]
theorem sc__law_looks_right : FnScope n__law_looks_right p__law_looks_right (defScope s__law_looks_right) := ⟨rfl, rfl, rfl, by decide +kernel, rfl, by decide +kernel, by decide +kernel⟩
abbrev s_Heights_tree : Stmt := inCls (topS 22) 11
abbrev n_Heights_tree : List Str := ["self"]
abbrev p_Heights_tree : List Str := ["self"]
theorem sc_Heights_tree : FnScope n_Heights_tree p_Heights_tree (defScope s_Heights_tree) := ⟨rfl, rfl, rfl, by decide +kernel, rfl, by decide +kernel, by decide +kernel⟩
abbrev s_Heights_insert : Stmt := inCls (topS 22) 2
abbrev n_Heights_insert : List Str := ["self", "index", "height"]
abbrev p_Heights_insert : List Str := ["self", "index", "height"]
theorem sc_Heights_insert : FnScope n_Heights_insert p_Heights_insert (defScope s_Heights_insert) := ⟨rfl, rfl, rfl, by decide +kernel, rfl, by decide +kernel, by decide +kernel⟩
abbrev s_Heights_learn : Stmt := inCls (topS 22) 3
abbrev n_Heights_learn : List Str := ["self", "index", "height"]
abbrev p_Heights_learn : List Str := ["self", "index", "height"]
theorem sc_Heights_learn : FnScope n_Heights_learn p_Heights_learn (defScope s_Heights_learn) := ⟨rfl, rfl, rfl, by decide +kernel, rfl, by decide +kernel, by decide +kernel⟩
abbrev s_Heights_remove : Stmt := inCls (topS 22) 4
abbrev n_Heights_remove : List Str := ["self", "index"]
abbrev p_Heights_remove : List Str := ["self", "index"]
theorem sc_Heights_remove : FnScope n_Heights_remove p_Heights_remove (defScope s_Heights_remove) := ⟨rfl, rfl, rfl, by decide +kernel, rfl, by decide +kernel, by decide +kernel⟩
abbrev s_Heights___init__ : Stmt := inCls (topS 22) 0
abbrev n_Heights___init__ : List Str := ["self", "guess"]
abbrev p_Heights___init__ : List Str := ["self", "guess"]
theorem sc_Heights___init__ : FnScope n_Heights___init__ p_Heights___init__ (defScope s_Heights___init__) := ⟨rfl, rfl, rfl, by decide +kernel, rfl, by decide +kernel, by decide +kernel⟩
abbrev s__law_right : Stmt := topS 39
abbrev n__law_right : List Str := ["deck", "guess", "heights", "rows", "turn", "way", "index", "height", "said", "told"]
abbrev p__law_right : List Str := ["deck"]
theorem sc__law_right : FnScope n__law_right p__law_right (defScope s__law_right) := ⟨rfl, rfl, rfl, by decide +kernel, rfl, by decide +kernel, by decide +kernel⟩
abbrev s_law : Stmt := topS 40
abbrev n_law : List Str := ["script", "k"]
abbrev p_law : List Str := ["script"]
theorem sc_law : FnScope n_law p_law (defScope s_law) := ⟨rfl, rfl, rfl, by decide +kernel, rfl, by decide +kernel, by decide +kernel⟩
abbrev s_Heights_counts : Stmt := inCls (topS 22) 6
abbrev n_Heights_counts : List Str := ["self", "index"]
abbrev p_Heights_counts : List Str := ["self", "index"]
theorem sc_Heights_counts : FnScope n_Heights_counts p_Heights_counts (defScope s_Heights_counts) := ⟨rfl, rfl, rfl, by decide +kernel, rfl, by decide +kernel, by decide +kernel⟩
abbrev s_Heights___eq__ : Stmt := inCls (topS 22) 14
abbrev n_Heights___eq__ : List Str := ["self", "other"]
abbrev p_Heights___eq__ : List Str := ["self", "other"]
theorem sc_Heights___eq__ : FnScope n_Heights___eq__ p_Heights___eq__ (defScope s_Heights___eq__) := ⟨rfl, rfl, rfl, by decide +kernel, rfl, by decide +kernel, by decide +kernel⟩
/-- the text's errors: which clause takes which -/
structure ErrF (K : PySem.W.Frag) : Prop where
  s_InvalidIndex_InvalidIndex : SubIs K "InvalidIndex" "InvalidIndex" true
  s_InvalidIndex_InvalidNumber : SubIs K "InvalidIndex" "InvalidNumber" false
  i_InvalidIndex_InvalidIndex : IsOf K "InvalidIndex" "InvalidIndex" true
  i_InvalidIndex_InvalidNumber : IsOf K "InvalidIndex" "InvalidNumber" false
  v_InvalidIndex : ErrV K "InvalidIndex"
  x_InvalidIndex : ErrI K "InvalidIndex"
  s_InvalidNumber_InvalidIndex : SubIs K "InvalidNumber" "InvalidIndex" false
  s_InvalidNumber_InvalidNumber : SubIs K "InvalidNumber" "InvalidNumber" true
  i_InvalidNumber_InvalidIndex : IsOf K "InvalidNumber" "InvalidIndex" false
  i_InvalidNumber_InvalidNumber : IsOf K "InvalidNumber" "InvalidNumber" true
  v_InvalidNumber : ErrV K "InvalidNumber"
  x_InvalidNumber : ErrI K "InvalidNumber"
/-- what the text's own classes are -/
structure ClsF (K : PySem.W.Frag) : Prop where
  a_Heights_guess : AttrOk K "Heights" "guess"
  a_Heights_known_ones : AttrOk K "Heights" "known_ones"
  a_Heights_many : AttrOk K "Heights" "many"
  a_Heights_root : AttrOk K "Heights" "root"
  i_Heights : IsiOk K "Heights"
  t_Heights : TupOk K "Heights"
abbrev xD (R : W → Mu → Prop) (S : Str → W → Mu → Prop) (xk : L2.XK) : AEn := { nx := fun _ μ' => R (.d .none) μ', rt := R, xw := fun c d _ H => xk c d H, xc := fun x w _ μ' => S x w μ' }
/-! what each def is worth: heights -/
open M46 (cnt isInt okH told tdat hgt tot Tr bits)
open M45 (Nd dn pln rows lst dep Bal bal ins upd get del cov rowAt isn kno k1 Hs)
/-- the attributes of a Heights -/
def HX (g : Int) (t : Nd) (kn m : Nat) : List (Str × W) := [("guess", .d (.int g)), ("root", .d (dn g t)), ("known_ones", .d (.int kn)), ("many", .d (.int m))]
abbrev HH (g : Int) (t : Nd) : List (Str × W) := HX g t (kno (lst t)) (rows t)
structure HOk (g : Int) (t : Nd) : Prop where
  g1 : 1 ≤ g
  g2 : g ≤ 1000000
  b : Bal t
  h : Hs (lst t)
  n : rows t ≤ 200
abbrev HAt (μ : Mu) (k : Nat) (g : Int) (t : Nd) : Prop := μ[k]? = some (some (.ob "Heights" (HH g t)))
def F_counted : FS := fun ws μ R => ∃ h g, ws = [.d h, .d (.int g)] ∧ (h = .none ∨ ∃ i, h = .int i) ∧ R (.d (.int (cnt g h))) μ
def F_rows_of : FS := fun ws μ R => ∃ g t, ws = [.d (dn g t)] ∧ R (.d (.int (rows t : Nat))) μ
def F_total_of : FS := fun ws μ R => ∃ g t, ws = [.d (dn g t)] ∧ R (.d (.int (tot g (lst t)))) μ
def F_depth_of : FS := fun ws μ R => ∃ g t, ws = [.d (dn g t)] ∧ R (.d (.int (dep t : Nat))) μ
def F_joined : FS := fun ws μ R => ∃ g l h r, ws = [.d (dn g l), .d h, .d (dn g r), .d (.int g)] ∧ hgt h ∧ R (.d (dn g (.node l h r))) μ
def F_balanced : FS := fun ws μ R => ∃ g l h r, ws = [.d (dn g l), .d h, .d (dn g r), .d (.int g)] ∧ Hs (lst l) ∧ hgt h ∧ Hs (lst r) ∧ R (.d (dn g (bal l h r))) μ
def F_with_row : Nat → FS := fun n ws μ R => ∃ g t i h, ws = [.d (dn g t), .d (.int (i : Nat)), .d h, .d (.int g)] ∧ dep t < n ∧ Hs (lst t) ∧ hgt h ∧ i ≤ rows t ∧ R (.d (dn g (ins t i h))) μ
def F_with_height : Nat → FS := fun n ws μ R => ∃ g t i h, ws = [.d (dn g t), .d (.int (i : Nat)), .d h, .d (.int g)] ∧ dep t < n ∧ Hs (lst t) ∧ hgt h ∧ i < rows t ∧ R (.d (dn g (upd t i h))) μ
def F_height_at : Nat → FS := fun n ws μ R => ∃ g t i, ws = [.d (dn g t), .d (.int (i : Nat))] ∧ dep t < n ∧ i < rows t ∧ R (.d (get t i)) μ
def F_without_row : Nat → FS := fun n ws μ R => ∃ g t i, ws = [.d (dn g t), .d (.int (i : Nat)), .d (.int g)] ∧ dep t < n ∧ dep t < 60 ∧ Hs (lst t) ∧ i < rows t ∧ R (.d (dn g (del t i))) μ
def F_offset_of : Nat → FS := fun n ws μ R => ∃ g t i, ws = [.d (dn g t), .d (.int (i : Nat)), .d (.int g)] ∧ dep t < n ∧ Hs (lst t) ∧ i ≤ rows t ∧ R (.d (.int (tot g ((lst t).take i)))) μ
def F_covering : Nat → FS := fun n ws μ R => ∃ g t o, ws = [.d (dn g t), .d (.int o), .d (.int g)] ∧ dep t < n ∧ 0 ≤ g ∧ Hs (lst t) ∧ 0 ≤ o ∧ o < tot g (lst t) ∧ R (.d (.int (cov g (lst t) o : Nat))) μ
def F_plain_tree : Nat → FS := fun n ws μ R => ∃ g t, ws = [.d (dn g t)] ∧ dep t < n ∧ R (.d (pln g t)) μ
def F_heights_of : Nat → FS := fun n ws μ R => ∃ (g : Int) (t : Nd) (b : Bool), ws = [.d (if b = true then dn g t else pln g t)] ∧ dep t < n ∧ rows t ≤ 1000 ∧ R (.d (.list (lst t))) μ
def F_need_guess : FX := fun ws μ R S => ∃ g : Int, ws = [.d (.int g)] ∧ (1 ≤ g → R (.d .none) μ) ∧ (g < 1 → S "InvalidNumber" (.d (.int g)) μ)
def F_need_height : FX := fun ws μ R S => ∃ h, ws = [.d h] ∧ ((hgt h ∧ R (.d .none) μ) ∨ ∃ i : Int, i < 0 ∧ h = .int i ∧ S "InvalidNumber" (.d (.int i)) μ)
def F_is_integer : FS := fun ws μ R => ∃ d, ws = [.d d] ∧ bd d ∧ R (.d (.bool (isInt d))) μ
def F_measured : Nat → FS := fun n ws μ R => ∃ g d, ws = [.d (.int g), .d d] ∧ bd d ∧ d.depth < n ∧ R (.d (tdat (told g n d))) μ
def F_tree_right : FS := fun ws μ R => ∃ g d, ws = [.d (.int g), .d d] ∧ bd d ∧ d.depth < 60 ∧ R (.d (.bool (told g 60 d).isSome)) μ
def F_heights_in : FS := F_heights_of 60
def F__law_deck : FS := fun ws μ R => ∃ ns k, ws = [.f (wInts ns), .d (.int k)] ∧ ns.length ≤ 63 ∧ 0 ≤ k ∧ k ≤ 100 ∧ ∀ p, PotOk 0 p → R (.m μ.length) (μ ++ [p])
abbrev F__law_draw : FS := F_draw
def F__law_same : Nat → FS := fun n ws μ R => ∃ d, ws = [.d d, .d d] ∧ bd d ∧ d.depth < n ∧ nd d ≤ 100000 ∧ R (.d (.bool true)) μ
def F__law_integer : FS := F_is_integer
def F__law_height : FS := fun ws μ R => ∃ k p n, ws = [.m k] ∧ μ[k]? = some p ∧ PotOk n p ∧ n ≤ 900000 ∧ ∀ h p', hgt h → PotOk (n + 3) p' → R (.d h) (μ.set k p')
def F__law_counted : FS := F_counted
def F__law_before : FS := fun ws μ R => ∃ hs g i, ws = [.d (.list hs), .d (.int g), .d (.int (i : Nat))] ∧ Hs hs ∧ hs.length ≤ 1000 ∧ R (.d (.int (tot g (hs.take i)))) μ
def F__law_covering : FS := fun ws μ R => ∃ hs g o, ws = [.d (.list hs), .d (.int g), .d (.int o)] ∧ 0 ≤ g ∧ Hs hs ∧ hs.length ≤ 1000 ∧ R (.d (rowAt g hs o)) μ
def F__law_tree_told : Nat → FS := F_measured
def F__law_tree_rows : Nat → FS := fun n ws μ R => ∃ g t, ws = [.d (pln g t)] ∧ dep t < n ∧ rows t ≤ 1000 ∧ R (.d (.list (lst t))) μ
def F_Heights_total : FS := fun ws μ R => ∃ k g t, ws = [.m k] ∧ HAt μ k g t ∧ R (.d (.int (tot g (lst t)))) μ
def F_Heights_row_at : FS := fun ws μ R => ∃ k g t o, ws = [.m k, .d (.int o)] ∧ HAt μ k g t ∧ HOk g t ∧ R (.d (rowAt g (lst t) o)) μ
def F_Heights_need_index : FX := fun ws μ R S => ∃ k i m, ws = [.m k, .d (.int i), .d (.int m)] ∧ (0 ≤ i ∧ i < m → R (.d .none) μ) ∧ (¬ (0 ≤ i ∧ i < m) → S "InvalidIndex" (.d (.int i)) μ)
def F_Heights_height : FX := fun ws μ R S => ∃ k g t i, ws = [.m k, .d (.int i)] ∧ HAt μ k g t ∧ HOk g t ∧ (∀ j : Nat, i = j → j < rows t → R (.d (get t j)) μ) ∧ (¬ (0 ≤ i ∧ i < rows t) → S "InvalidIndex" (.d (.int i)) μ)
def F_Heights_offset : FX := fun ws μ R S => ∃ k g t i, ws = [.m k, .d (.int i)] ∧ HAt μ k g t ∧ HOk g t ∧ (∀ j : Nat, i = j → j ≤ rows t → R (.d (.int (tot g ((lst t).take j)))) μ) ∧ (¬ (0 ≤ i ∧ i < rows t + 1) → S "InvalidIndex" (.d (.int i)) μ)
def F_Heights_known : FS := fun ws μ R => ∃ k g t, ws = [.m k] ∧ HAt μ k g t ∧ R (.d (.int (kno (lst t) : Nat))) μ
def F_Heights_all_heights : FS := fun ws μ R => ∃ k g t, ws = [.m k] ∧ HAt μ k g t ∧ HOk g t ∧ R (.d (.list (lst t))) μ
def F_Heights___len__ : FS := fun ws μ R => ∃ k g t, ws = [.m k] ∧ HAt μ k g t ∧ HOk g t ∧ R (.d (.int (rows t : Nat))) μ
def F__law_looks_right : FS := fun ws μ R => ∃ k p n kk g t, ws = [.m k, .m kk, .d (.int g), .d (.list (lst t))] ∧ k ≠ kk ∧ μ[k]? = some p ∧ PotOk n p ∧ n ≤ 800000 ∧ HAt μ kk g t ∧ HOk g t ∧ ∀ p', PotOk (n + 6) p' → R (.d (.bool true)) (μ.set k p')
def F_Heights_tree : FS := fun ws μ R => ∃ k g t, ws = [.m k] ∧ HAt μ k g t ∧ HOk g t ∧ R (.d (pln g t)) μ
def F_Heights_insert : FX := fun ws μ R S => ∃ k g t i h, ws = [.m k, .d (.int i), .d h] ∧ HAt μ k g t ∧ HOk g t ∧ (∀ j : Nat, i = j → j ≤ rows t → hgt h → R (.d .none) (μ.set k (some (.ob "Heights" (HH g (ins t j h)))))) ∧ (¬ (0 ≤ i ∧ i < rows t + 1) → S "InvalidIndex" (.d (.int i)) μ) ∧ (hgt h ∨ ∃ x : Int, x < 0 ∧ h = .int x ∧ (0 ≤ i ∧ i < rows t + 1 → S "InvalidNumber" (.d (.int x)) μ))
def F_Heights_learn : FX := fun ws μ R S => ∃ k g t i h, ws = [.m k, .d (.int i), .d h] ∧ HAt μ k g t ∧ HOk g t ∧ (∀ j : Nat, i = j → j < rows t → hgt h → R (.d .none) (μ.set k (some (.ob "Heights" (HH g (upd t j h)))))) ∧ (¬ (0 ≤ i ∧ i < rows t) → S "InvalidIndex" (.d (.int i)) μ) ∧ (hgt h ∨ ∃ x : Int, x < 0 ∧ h = .int x ∧ (0 ≤ i ∧ i < rows t → S "InvalidNumber" (.d (.int x)) μ))
def F_Heights_remove : FX := fun ws μ R S => ∃ k g t i, ws = [.m k, .d (.int i)] ∧ HAt μ k g t ∧ HOk g t ∧ (∀ j : Nat, i = j → j < rows t → R (.d .none) (μ.set k (some (.ob "Heights" (HH g (del t j)))))) ∧ (¬ (0 ≤ i ∧ i < rows t) → S "InvalidIndex" (.d (.int i)) μ)
def F_Heights___init__ : FX := fun ws μ R S => ∃ k g, ws = [.m k, .d (.int g)] ∧ μ[k]? = some (some (.ob "Heights" [])) ∧ (1 ≤ g → R (.d .none) (μ.set k (some (.ob "Heights" (HH g .nil))))) ∧ (g < 1 → S "InvalidNumber" (.d (.int g)) μ)
def F_law : FS := fun ws μ R => ∃ ns, ws = [.f (wInts ns)] ∧ ns.length ≤ 63 ∧ R (.d (.bool true)) μ
def F__law_right : FS := fun ws μ R => ∃ k p, ws = [.m k] ∧ μ[k]? = some p ∧ PotOk 0 p ∧ ∀ n p', PotOk n p' → R (.d (.bool true)) (μ.set k p')
def F_Heights_counts : FX := fun _ _ _ _ => False
def F_Heights___eq__ : FS := fun _ _ _ => False
def t_counted (K : PySem.W.Frag) : TS := (tRet (tIf (tTest (tOp (rIsU false) (tVar 0) (tC .non))) (tVar 1) (tVar 0)))
theorem dv_counted {P : Program} {w : World} {K : PySem.W.Frag} {mg : Str → Option Value} {base : Heap} {f : Addr} {cdv : Value} {A : Around} {outer : List Env} {s : Shared} {H : Hp} {E : XK}
    (hr : Room 0 (A.deeper (envOfC "counted" (defScope s_counted) s.heap.objs.size f cdv)))
    (hgd : (A.deeper (envOfC "counted" (defScope s_counted) s.heap.objs.size f cdv)).guards = some []) :
    PSs (cxOf CX0 P w K mg base n_counted "counted" (defScope s_counted) f cdv A outer s H E).nox (defBody s_counted) (t_counted K) := by
  have S := sc_counted
  have hu : (A.deeper (envOfC "counted" (defScope s_counted) s.heap.objs.size f cdv)).units + 64 < cLine := by have := hr.un; omega
  have hv : (A.deeper (envOfC "counted" (defScope s_counted) s.heap.objs.size f cdv)).units + 65 < cLine := by have := hr.un; omega
  exact (pss_one (ps_ret (pe_ifExp (pt_cmpR op_isU (pv 0) pe_non (nomark _)) (pv 1) (pv 0))))
def t_rows_of (K : PySem.W.Frag) : TS := (tRet (tIf (tTest (tOp (rIsU false) (tVar 0) (tC .non))) (tC (.int 0)) (tOp (rIx K) (tVar 0) (tC (.int 3)))))
theorem dv_rows_of {P : Program} {w : World} {K : PySem.W.Frag} {mg : Str → Option Value} {base : Heap} {f : Addr} {cdv : Value} {A : Around} {outer : List Env} {s : Shared} {H : Hp} {E : XK}
    (hr : Room 0 (A.deeper (envOfC "rows_of" (defScope s_rows_of) s.heap.objs.size f cdv)))
    (hgd : (A.deeper (envOfC "rows_of" (defScope s_rows_of) s.heap.objs.size f cdv)).guards = some []) :
    PSs (cxOf CX0 P w K mg base n_rows_of "rows_of" (defScope s_rows_of) f cdv A outer s H E).nox (defBody s_rows_of) (t_rows_of K) := by
  have S := sc_rows_of
  have hu : (A.deeper (envOfC "rows_of" (defScope s_rows_of) s.heap.objs.size f cdv)).units + 64 < cLine := by have := hr.un; omega
  have hv : (A.deeper (envOfC "rows_of" (defScope s_rows_of) s.heap.objs.size f cdv)).units + 65 < cLine := by have := hr.un; omega
  exact (pss_one (ps_ret (pe_ifExp (pt_cmpR op_isU (pv 0) pe_non (nomark _)) pe_int (pe_ix ix_seq (pv 0) pe_int (fun _ _ => rfl)))))
def t_total_of (K : PySem.W.Frag) : TS := (tRet (tIf (tTest (tOp (rIsU false) (tVar 0) (tC .non))) (tC (.int 0)) (tOp (rIx K) (tVar 0) (tC (.int 4)))))
theorem dv_total_of {P : Program} {w : World} {K : PySem.W.Frag} {mg : Str → Option Value} {base : Heap} {f : Addr} {cdv : Value} {A : Around} {outer : List Env} {s : Shared} {H : Hp} {E : XK}
    (hr : Room 0 (A.deeper (envOfC "total_of" (defScope s_total_of) s.heap.objs.size f cdv)))
    (hgd : (A.deeper (envOfC "total_of" (defScope s_total_of) s.heap.objs.size f cdv)).guards = some []) :
    PSs (cxOf CX0 P w K mg base n_total_of "total_of" (defScope s_total_of) f cdv A outer s H E).nox (defBody s_total_of) (t_total_of K) := by
  have S := sc_total_of
  have hu : (A.deeper (envOfC "total_of" (defScope s_total_of) s.heap.objs.size f cdv)).units + 64 < cLine := by have := hr.un; omega
  have hv : (A.deeper (envOfC "total_of" (defScope s_total_of) s.heap.objs.size f cdv)).units + 65 < cLine := by have := hr.un; omega
  exact (pss_one (ps_ret (pe_ifExp (pt_cmpR op_isU (pv 0) pe_non (nomark _)) pe_int (pe_ix ix_seq (pv 0) pe_int (fun _ _ => rfl)))))
def t_depth_of (K : PySem.W.Frag) : TS := (tRet (tIf (tTest (tOp (rIsU false) (tVar 0) (tC .non))) (tC (.int 0)) (tOp (rIx K) (tVar 0) (tC (.int 5)))))
theorem dv_depth_of {P : Program} {w : World} {K : PySem.W.Frag} {mg : Str → Option Value} {base : Heap} {f : Addr} {cdv : Value} {A : Around} {outer : List Env} {s : Shared} {H : Hp} {E : XK}
    (hr : Room 0 (A.deeper (envOfC "depth_of" (defScope s_depth_of) s.heap.objs.size f cdv)))
    (hgd : (A.deeper (envOfC "depth_of" (defScope s_depth_of) s.heap.objs.size f cdv)).guards = some []) :
    PSs (cxOf CX0 P w K mg base n_depth_of "depth_of" (defScope s_depth_of) f cdv A outer s H E).nox (defBody s_depth_of) (t_depth_of K) := by
  have S := sc_depth_of
  have hu : (A.deeper (envOfC "depth_of" (defScope s_depth_of) s.heap.objs.size f cdv)).units + 64 < cLine := by have := hr.un; omega
  have hv : (A.deeper (envOfC "depth_of" (defScope s_depth_of) s.heap.objs.size f cdv)).units + 65 < cLine := by have := hr.un; omega
  exact (pss_one (ps_ret (pe_ifExp (pt_cmpR op_isU (pv 0) pe_non (nomark _)) pe_int (pe_ix ix_seq (pv 0) pe_int (fun _ _ => rfl)))))
def t_joined (K : PySem.W.Frag) : TS := (tSeq (tAsg (tOp (rAddU K) (tOp (rAddU K) (tCallS (spD K F_rows_of) Ez (tCons (tVar 0) tNil)) (tC (.int 1))) (tCallS (spD K F_rows_of) Ez (tCons (tVar 2) tNil))) (gName 4))
    (tSeq (tAsg (tOp (rAddU K) (tOp (rAddU K) (tCallS (spD K F_total_of) Ez (tCons (tVar 0) tNil)) (tCallS (spD K F_counted) Ez (tCons (tVar 1) (tCons (tVar 3) tNil)))) (tCallS (spD K F_total_of) Ez (tCons (tVar 2) tNil))) (gName 5))
    (tRet (tTup (tCons (tVar 0) (tCons (tVar 1) (tCons (tVar 2) (tCons (tVar 4) (tCons (tVar 5) (tCons (tOp (rAddU K) (tC (.int 1)) (tCB (rMaxU K) (tCons (tCallS (spD K F_depth_of) Ez (tCons (tVar 0) tNil)) (tCons (tCallS (spD K F_depth_of) Ez (tCons (tVar 2) tNil)) tNil)))) tNil))))))))))
theorem dv_joined {P : Program} {w : World} {K : PySem.W.Frag} {mg : Str → Option Value} {base : Heap} {f : Addr} {cdv : Value} {A : Around} {outer : List Env} {s : Shared} {H : Hp} {E : XK}
    (hr : Room 1 (A.deeper (envOfC "joined" (defScope s_joined) s.heap.objs.size f cdv)))
    (hgd : (A.deeper (envOfC "joined" (defScope s_joined) s.heap.objs.size f cdv)).guards = some [])
    (h_counted : HasG P w K mg base CX0 "counted" p_counted 1 (spD K F_counted))
    (h_depth_of : HasG P w K mg base CX0 "depth_of" p_depth_of 1 (spD K F_depth_of))
    (h_rows_of : HasG P w K mg base CX0 "rows_of" p_rows_of 1 (spD K F_rows_of))
    (h_total_of : HasG P w K mg base CX0 "total_of" p_total_of 1 (spD K F_total_of))
    (n_max : mg "max" = none) :
    PSs (cxOf CX0 P w K mg base n_joined "joined" (defScope s_joined) f cdv A outer s H E).nox (defBody s_joined) (t_joined K) := by
  have S := sc_joined
  have hu : (A.deeper (envOfC "joined" (defScope s_joined) s.heap.objs.size f cdv)).units + 64 < cLine := by have := hr.un; omega
  have hv : (A.deeper (envOfC "joined" (defScope s_joined) s.heap.objs.size f cdv)).units + 65 < cLine := by have := hr.un; omega
  exact (pss_cons (ps_asg (pe_op op_addU (pe_op op_addU (pe_hG h_rows_of (hr.mono (by decide)) hgd pz0 (pa_cons (pv 0) pa_nil)) pe_int) (pe_hG h_rows_of (hr.mono (by decide)) hgd pz0 (pa_cons (pv 2) pa_nil))) (pg_name (i := 4) S.nd rfl (.inl rfl)))
      (pss_cons (ps_asg (pe_op op_addU (pe_op op_addU (pe_hG h_total_of (hr.mono (by decide)) hgd pz0 (pa_cons (pv 0) pa_nil)) (pe_hG h_counted (hr.mono (by decide)) hgd pz0 (pa_cons (pv 1) (pa_cons (pv 3) pa_nil)))) (pe_hG h_total_of (hr.mono (by decide)) hgd pz0 (pa_cons (pv 2) pa_nil))) (pg_name (i := 5) S.nd rfl (.inl rfl)))
      (pss_one (ps_ret (pe_tup (pa_cons (pv 0) (pa_cons (pv 1) (pa_cons (pv 2) (pa_cons (pv 4) (pa_cons (pv 5) (pa_cons (pe_op op_addU pe_int (pe_callB (call_maxU rfl) (by rfl) n_max (by decide +kernel) (pa_cons (pe_hG h_depth_of (hr.mono (by decide)) hgd pz0 (pa_cons (pv 0) pa_nil)) (pa_cons (pe_hG h_depth_of (hr.mono (by decide)) hgd pz0 (pa_cons (pv 2) pa_nil)) pa_nil)))) pa_nil)))))))))))
def t_balanced (K : PySem.W.Frag) : TS := (tSeq (tIfS (tTest (tOp rGtI (tCallS (spD K F_depth_of) Ez (tCons (tVar 0) tNil)) (tOp (rAddU K) (tCallS (spD K F_depth_of) Ez (tCons (tVar 2) tNil)) (tC (.int 1))))) (tSeq (tAsg (tSl (rSlU K) (tVar 0) tNoPart (tPart (tC (.int 3)))) (gTup K 3 (gCons (gName 4) (gCons (gName 5) (gCons (gName 6) gNil)))))
    (tSeq (tIfS (tTest (tOp rGeI (tCallS (spD K F_depth_of) Ez (tCons (tVar 4) tNil)) (tCallS (spD K F_depth_of) Ez (tCons (tVar 6) tNil)))) (tRet (tCallS (spD K F_joined) Ez (tCons (tVar 4) (tCons (tVar 5) (tCons (tCallS (spD K F_joined) Ez (tCons (tVar 6) (tCons (tVar 1) (tCons (tVar 2) (tCons (tVar 3) tNil))))) (tCons (tVar 3) tNil)))))) tNext)
    (tSeq (tAsg (tSl (rSlU K) (tVar 6) tNoPart (tPart (tC (.int 3)))) (gTup K 3 (gCons (gName 7) (gCons (gName 8) (gCons (gName 9) gNil)))))
    (tRet (tCallS (spD K F_joined) Ez (tCons (tCallS (spD K F_joined) Ez (tCons (tVar 4) (tCons (tVar 5) (tCons (tVar 7) (tCons (tVar 3) tNil))))) (tCons (tVar 8) (tCons (tCallS (spD K F_joined) Ez (tCons (tVar 9) (tCons (tVar 1) (tCons (tVar 2) (tCons (tVar 3) tNil))))) (tCons (tVar 3) tNil))))))))) tNext)
    (tSeq (tIfS (tTest (tOp rGtI (tCallS (spD K F_depth_of) Ez (tCons (tVar 2) tNil)) (tOp (rAddU K) (tCallS (spD K F_depth_of) Ez (tCons (tVar 0) tNil)) (tC (.int 1))))) (tSeq (tAsg (tSl (rSlU K) (tVar 2) tNoPart (tPart (tC (.int 3)))) (gTup K 3 (gCons (gName 4) (gCons (gName 5) (gCons (gName 6) gNil)))))
    (tSeq (tIfS (tTest (tOp rGeI (tCallS (spD K F_depth_of) Ez (tCons (tVar 6) tNil)) (tCallS (spD K F_depth_of) Ez (tCons (tVar 4) tNil)))) (tRet (tCallS (spD K F_joined) Ez (tCons (tCallS (spD K F_joined) Ez (tCons (tVar 0) (tCons (tVar 1) (tCons (tVar 4) (tCons (tVar 3) tNil))))) (tCons (tVar 5) (tCons (tVar 6) (tCons (tVar 3) tNil)))))) tNext)
    (tSeq (tAsg (tSl (rSlU K) (tVar 4) tNoPart (tPart (tC (.int 3)))) (gTup K 3 (gCons (gName 7) (gCons (gName 8) (gCons (gName 9) gNil)))))
    (tRet (tCallS (spD K F_joined) Ez (tCons (tCallS (spD K F_joined) Ez (tCons (tVar 0) (tCons (tVar 1) (tCons (tVar 7) (tCons (tVar 3) tNil))))) (tCons (tVar 8) (tCons (tCallS (spD K F_joined) Ez (tCons (tVar 9) (tCons (tVar 5) (tCons (tVar 6) (tCons (tVar 3) tNil))))) (tCons (tVar 3) tNil))))))))) tNext)
    (tRet (tCallS (spD K F_joined) Ez (tCons (tVar 0) (tCons (tVar 1) (tCons (tVar 2) (tCons (tVar 3) tNil))))))))
theorem dv_balanced {P : Program} {w : World} {K : PySem.W.Frag} {mg : Str → Option Value} {base : Heap} {f : Addr} {cdv : Value} {A : Around} {outer : List Env} {s : Shared} {H : Hp} {E : XK}
    (hr : Room 2 (A.deeper (envOfC "balanced" (defScope s_balanced) s.heap.objs.size f cdv)))
    (hgd : (A.deeper (envOfC "balanced" (defScope s_balanced) s.heap.objs.size f cdv)).guards = some [])
    (h_depth_of : HasG P w K mg base CX0 "depth_of" p_depth_of 1 (spD K F_depth_of))
    (h_joined : HasG P w K mg base CX0 "joined" p_joined 2 (spD K F_joined)) :
    PSs (cxOf CX0 P w K mg base n_balanced "balanced" (defScope s_balanced) f cdv A outer s H E).nox (defBody s_balanced) (t_balanced K) := by
  have S := sc_balanced
  have hu : (A.deeper (envOfC "balanced" (defScope s_balanced) s.heap.objs.size f cdv)).units + 64 < cLine := by have := hr.un; omega
  have hv : (A.deeper (envOfC "balanced" (defScope s_balanced) s.heap.objs.size f cdv)).units + 65 < cLine := by have := hr.un; omega
  exact (pss_cons (ps_if (pt_cmpR op_gtU (pe_hG h_depth_of (hr.mono (by decide)) hgd pz0 (pa_cons (pv 0) pa_nil)) (pe_op op_addU (pe_hG h_depth_of (hr.mono (by decide)) hgd pz0 (pa_cons (pv 2) pa_nil)) pe_int) (nomark _)) (pss_cons (ps_asg (pe_slice sl_U (pv 0) po_none (po_some pe_int)) (pg_tup rfl (pgs_cons (pg_name (i := 4) S.nd rfl (.inl rfl)) (pgs_cons (pg_name (i := 5) S.nd rfl (.inl rfl)) (pgs_cons (pg_name (i := 6) S.nd rfl (.inl rfl)) pgs_nil)))))
      (pss_cons (ps_if (pt_cmpR op_geU (pe_hG h_depth_of (hr.mono (by decide)) hgd pz0 (pa_cons (pv 4) pa_nil)) (pe_hG h_depth_of (hr.mono (by decide)) hgd pz0 (pa_cons (pv 6) pa_nil)) (nomark _)) (pss_one (ps_ret (pe_hG h_joined (hr.mono (by decide)) hgd pz0 (pa_cons (pv 4) (pa_cons (pv 5) (pa_cons (pe_hG h_joined (hr.mono (by decide)) hgd pz0 (pa_cons (pv 6) (pa_cons (pv 1) (pa_cons (pv 2) (pa_cons (pv 3) pa_nil))))) (pa_cons (pv 3) pa_nil))))))) pss_nil)
      (pss_cons (ps_asg (pe_slice sl_U (pv 6) po_none (po_some pe_int)) (pg_tup rfl (pgs_cons (pg_name (i := 7) S.nd rfl (.inl rfl)) (pgs_cons (pg_name (i := 8) S.nd rfl (.inl rfl)) (pgs_cons (pg_name (i := 9) S.nd rfl (.inl rfl)) pgs_nil)))))
      (pss_one (ps_ret (pe_hG h_joined (hr.mono (by decide)) hgd pz0 (pa_cons (pe_hG h_joined (hr.mono (by decide)) hgd pz0 (pa_cons (pv 4) (pa_cons (pv 5) (pa_cons (pv 7) (pa_cons (pv 3) pa_nil))))) (pa_cons (pv 8) (pa_cons (pe_hG h_joined (hr.mono (by decide)) hgd pz0 (pa_cons (pv 9) (pa_cons (pv 1) (pa_cons (pv 2) (pa_cons (pv 3) pa_nil))))) (pa_cons (pv 3) pa_nil)))))))))) pss_nil)
      (pss_cons (ps_if (pt_cmpR op_gtU (pe_hG h_depth_of (hr.mono (by decide)) hgd pz0 (pa_cons (pv 2) pa_nil)) (pe_op op_addU (pe_hG h_depth_of (hr.mono (by decide)) hgd pz0 (pa_cons (pv 0) pa_nil)) pe_int) (nomark _)) (pss_cons (ps_asg (pe_slice sl_U (pv 2) po_none (po_some pe_int)) (pg_tup rfl (pgs_cons (pg_name (i := 4) S.nd rfl (.inl rfl)) (pgs_cons (pg_name (i := 5) S.nd rfl (.inl rfl)) (pgs_cons (pg_name (i := 6) S.nd rfl (.inl rfl)) pgs_nil)))))
      (pss_cons (ps_if (pt_cmpR op_geU (pe_hG h_depth_of (hr.mono (by decide)) hgd pz0 (pa_cons (pv 6) pa_nil)) (pe_hG h_depth_of (hr.mono (by decide)) hgd pz0 (pa_cons (pv 4) pa_nil)) (nomark _)) (pss_one (ps_ret (pe_hG h_joined (hr.mono (by decide)) hgd pz0 (pa_cons (pe_hG h_joined (hr.mono (by decide)) hgd pz0 (pa_cons (pv 0) (pa_cons (pv 1) (pa_cons (pv 4) (pa_cons (pv 3) pa_nil))))) (pa_cons (pv 5) (pa_cons (pv 6) (pa_cons (pv 3) pa_nil))))))) pss_nil)
      (pss_cons (ps_asg (pe_slice sl_U (pv 4) po_none (po_some pe_int)) (pg_tup rfl (pgs_cons (pg_name (i := 7) S.nd rfl (.inl rfl)) (pgs_cons (pg_name (i := 8) S.nd rfl (.inl rfl)) (pgs_cons (pg_name (i := 9) S.nd rfl (.inl rfl)) pgs_nil)))))
      (pss_one (ps_ret (pe_hG h_joined (hr.mono (by decide)) hgd pz0 (pa_cons (pe_hG h_joined (hr.mono (by decide)) hgd pz0 (pa_cons (pv 0) (pa_cons (pv 1) (pa_cons (pv 7) (pa_cons (pv 3) pa_nil))))) (pa_cons (pv 8) (pa_cons (pe_hG h_joined (hr.mono (by decide)) hgd pz0 (pa_cons (pv 9) (pa_cons (pv 5) (pa_cons (pv 6) (pa_cons (pv 3) pa_nil))))) (pa_cons (pv 3) pa_nil)))))))))) pss_nil)
      (pss_one (ps_ret (pe_hG h_joined (hr.mono (by decide)) hgd pz0 (pa_cons (pv 0) (pa_cons (pv 1) (pa_cons (pv 2) (pa_cons (pv 3) pa_nil)))))))))
def t_with_row (K : PySem.W.Frag) (n : Nat) : TS := (tSeq (tIfS (tTest (tOp (rIsU false) (tVar 0) (tC .non))) (tRet (tCallS (spD K F_joined) Ez (tCons (tC .non) (tCons (tVar 2) (tCons (tC .non) (tCons (tVar 3) tNil)))))) tNext)
    (tSeq (tAsg (tSl (rSlU K) (tVar 0) tNoPart (tPart (tC (.int 3)))) (gTup K 3 (gCons (gName 4) (gCons (gName 5) (gCons (gName 6) gNil)))))
    (tSeq (tIfS (tTest (tOp rLeI (tVar 1) (tCallS (spD K F_rows_of) Ez (tCons (tVar 4) tNil)))) (tRet (tCallS (spD K F_balanced) Ez (tCons (tCallS (spD K (F_with_row n)) Ez (tCons (tVar 4) (tCons (tVar 1) (tCons (tVar 2) (tCons (tVar 3) tNil))))) (tCons (tVar 5) (tCons (tVar 6) (tCons (tVar 3) tNil)))))) tNext)
    (tRet (tCallS (spD K F_balanced) Ez (tCons (tVar 4) (tCons (tVar 5) (tCons (tCallS (spD K (F_with_row n)) Ez (tCons (tVar 6) (tCons (tOp rSubI (tOp rSubI (tVar 1) (tCallS (spD K F_rows_of) Ez (tCons (tVar 4) tNil))) (tC (.int 1))) (tCons (tVar 2) (tCons (tVar 3) tNil))))) (tCons (tVar 3) tNil)))))))))
theorem dv_with_row {n : Nat} {P : Program} {w : World} {K : PySem.W.Frag} {mg : Str → Option Value} {base : Heap} {f : Addr} {cdv : Value} {A : Around} {outer : List Env} {s : Shared} {H : Hp} {E : XK}
    (hr : Room (n + 3) (A.deeper (envOfC "with_row" (defScope s_with_row) s.heap.objs.size f cdv)))
    (hgd : (A.deeper (envOfC "with_row" (defScope s_with_row) s.heap.objs.size f cdv)).guards = some [])
    (h_balanced : HasG P w K mg base CX0 "balanced" p_balanced 3 (spD K F_balanced))
    (h_joined : HasG P w K mg base CX0 "joined" p_joined 2 (spD K F_joined))
    (h_rows_of : HasG P w K mg base CX0 "rows_of" p_rows_of 1 (spD K F_rows_of))
    (h_with_row : HasG P w K mg base CX0 "with_row" p_with_row (n + 3) (spD K (F_with_row n))) :
    PSs (cxOf CX0 P w K mg base n_with_row "with_row" (defScope s_with_row) f cdv A outer s H E).nox (defBody s_with_row) (t_with_row K n) := by
  have S := sc_with_row
  have hu : (A.deeper (envOfC "with_row" (defScope s_with_row) s.heap.objs.size f cdv)).units + 64 < cLine := by have := hr.un; omega
  have hv : (A.deeper (envOfC "with_row" (defScope s_with_row) s.heap.objs.size f cdv)).units + 65 < cLine := by have := hr.un; omega
  exact (pss_cons (ps_if (pt_cmpR op_isU (pv 0) pe_non (nomark _)) (pss_one (ps_ret (pe_hG h_joined (hr.mono (by omega)) hgd pz0 (pa_cons pe_non (pa_cons (pv 2) (pa_cons pe_non (pa_cons (pv 3) pa_nil))))))) pss_nil)
      (pss_cons (ps_asg (pe_slice sl_U (pv 0) po_none (po_some pe_int)) (pg_tup rfl (pgs_cons (pg_name (i := 4) S.nd rfl (.inl rfl)) (pgs_cons (pg_name (i := 5) S.nd rfl (.inl rfl)) (pgs_cons (pg_name (i := 6) S.nd rfl (.inl rfl)) pgs_nil)))))
      (pss_cons (ps_if (pt_cmpR op_leU (pv 1) (pe_hG h_rows_of (hr.mono (by omega)) hgd pz0 (pa_cons (pv 4) pa_nil)) (nomark _)) (pss_one (ps_ret (pe_hG h_balanced (hr.mono (by omega)) hgd pz0 (pa_cons (pe_hG h_with_row (hr.mono (by omega)) hgd pz0 (pa_cons (pv 4) (pa_cons (pv 1) (pa_cons (pv 2) (pa_cons (pv 3) pa_nil))))) (pa_cons (pv 5) (pa_cons (pv 6) (pa_cons (pv 3) pa_nil))))))) pss_nil)
      (pss_one (ps_ret (pe_hG h_balanced (hr.mono (by omega)) hgd pz0 (pa_cons (pv 4) (pa_cons (pv 5) (pa_cons (pe_hG h_with_row (hr.mono (by omega)) hgd pz0 (pa_cons (pv 6) (pa_cons (pe_op op_subU (pe_op op_subU (pv 1) (pe_hG h_rows_of (hr.mono (by omega)) hgd pz0 (pa_cons (pv 4) pa_nil))) pe_int) (pa_cons (pv 2) (pa_cons (pv 3) pa_nil))))) (pa_cons (pv 3) pa_nil))))))))))
def t_with_height (K : PySem.W.Frag) (n : Nat) : TS := (tSeq (tAsg (tSl (rSlU K) (tVar 0) tNoPart (tPart (tC (.int 3)))) (gTup K 3 (gCons (gName 4) (gCons (gName 5) (gCons (gName 6) gNil)))))
    (tSeq (tAsg (tCallS (spD K F_rows_of) Ez (tCons (tVar 4) tNil)) (gName 7))
    (tSeq (tIfS (tTest (tOp rLtU (tVar 1) (tVar 7))) (tRet (tCallS (spD K F_joined) Ez (tCons (tCallS (spD K (F_with_height n)) Ez (tCons (tVar 4) (tCons (tVar 1) (tCons (tVar 2) (tCons (tVar 3) tNil))))) (tCons (tVar 5) (tCons (tVar 6) (tCons (tVar 3) tNil)))))) tNext)
    (tSeq (tIfS (tTest (tOp rGtI (tVar 1) (tVar 7))) (tRet (tCallS (spD K F_joined) Ez (tCons (tVar 4) (tCons (tVar 5) (tCons (tCallS (spD K (F_with_height n)) Ez (tCons (tVar 6) (tCons (tOp rSubI (tOp rSubI (tVar 1) (tVar 7)) (tC (.int 1))) (tCons (tVar 2) (tCons (tVar 3) tNil))))) (tCons (tVar 3) tNil)))))) tNext)
    (tRet (tCallS (spD K F_joined) Ez (tCons (tVar 4) (tCons (tVar 2) (tCons (tVar 6) (tCons (tVar 3) tNil))))))))))
theorem dv_with_height {n : Nat} {P : Program} {w : World} {K : PySem.W.Frag} {mg : Str → Option Value} {base : Heap} {f : Addr} {cdv : Value} {A : Around} {outer : List Env} {s : Shared} {H : Hp} {E : XK}
    (hr : Room (n + 2) (A.deeper (envOfC "with_height" (defScope s_with_height) s.heap.objs.size f cdv)))
    (hgd : (A.deeper (envOfC "with_height" (defScope s_with_height) s.heap.objs.size f cdv)).guards = some [])
    (h_joined : HasG P w K mg base CX0 "joined" p_joined 2 (spD K F_joined))
    (h_rows_of : HasG P w K mg base CX0 "rows_of" p_rows_of 1 (spD K F_rows_of))
    (h_with_height : HasG P w K mg base CX0 "with_height" p_with_height (n + 2) (spD K (F_with_height n))) :
    PSs (cxOf CX0 P w K mg base n_with_height "with_height" (defScope s_with_height) f cdv A outer s H E).nox (defBody s_with_height) (t_with_height K n) := by
  have S := sc_with_height
  have hu : (A.deeper (envOfC "with_height" (defScope s_with_height) s.heap.objs.size f cdv)).units + 64 < cLine := by have := hr.un; omega
  have hv : (A.deeper (envOfC "with_height" (defScope s_with_height) s.heap.objs.size f cdv)).units + 65 < cLine := by have := hr.un; omega
  exact (pss_cons (ps_asg (pe_slice sl_U (pv 0) po_none (po_some pe_int)) (pg_tup rfl (pgs_cons (pg_name (i := 4) S.nd rfl (.inl rfl)) (pgs_cons (pg_name (i := 5) S.nd rfl (.inl rfl)) (pgs_cons (pg_name (i := 6) S.nd rfl (.inl rfl)) pgs_nil)))))
      (pss_cons (ps_asg (pe_hG h_rows_of (hr.mono (by omega)) hgd pz0 (pa_cons (pv 4) pa_nil)) (pg_name (i := 7) S.nd rfl (.inl rfl)))
      (pss_cons (ps_if (pt_cmpR op_ltU (pv 1) (pv 7) (nomark _)) (pss_one (ps_ret (pe_hG h_joined (hr.mono (by omega)) hgd pz0 (pa_cons (pe_hG h_with_height (hr.mono (by omega)) hgd pz0 (pa_cons (pv 4) (pa_cons (pv 1) (pa_cons (pv 2) (pa_cons (pv 3) pa_nil))))) (pa_cons (pv 5) (pa_cons (pv 6) (pa_cons (pv 3) pa_nil))))))) pss_nil)
      (pss_cons (ps_if (pt_cmpR op_gtU (pv 1) (pv 7) (nomark _)) (pss_one (ps_ret (pe_hG h_joined (hr.mono (by omega)) hgd pz0 (pa_cons (pv 4) (pa_cons (pv 5) (pa_cons (pe_hG h_with_height (hr.mono (by omega)) hgd pz0 (pa_cons (pv 6) (pa_cons (pe_op op_subU (pe_op op_subU (pv 1) (pv 7)) pe_int) (pa_cons (pv 2) (pa_cons (pv 3) pa_nil))))) (pa_cons (pv 3) pa_nil))))))) pss_nil)
      (pss_one (ps_ret (pe_hG h_joined (hr.mono (by omega)) hgd pz0 (pa_cons (pv 4) (pa_cons (pv 2) (pa_cons (pv 6) (pa_cons (pv 3) pa_nil)))))))))))
def t_height_at (K : PySem.W.Frag) (n : Nat) : TS := (tSeq (tAsg (tCallS (spD K F_rows_of) Ez (tCons (tOp (rIx K) (tVar 0) (tC (.int 0))) tNil)) (gName 2))
    (tSeq (tIfS (tTest (tOp rLtU (tVar 1) (tVar 2))) (tRet (tCallS (spD K (F_height_at n)) Ez (tCons (tOp (rIx K) (tVar 0) (tC (.int 0))) (tCons (tVar 1) tNil)))) tNext)
    (tRet (tIf (tTest (tOp (rEqU K) (tVar 1) (tVar 2))) (tOp (rIx K) (tVar 0) (tC (.int 1))) (tCallS (spD K (F_height_at n)) Ez (tCons (tOp (rIx K) (tVar 0) (tC (.int 2))) (tCons (tOp rSubI (tOp rSubI (tVar 1) (tVar 2)) (tC (.int 1))) tNil)))))))
theorem dv_height_at {n : Nat} {P : Program} {w : World} {K : PySem.W.Frag} {mg : Str → Option Value} {base : Heap} {f : Addr} {cdv : Value} {A : Around} {outer : List Env} {s : Shared} {H : Hp} {E : XK}
    (hr : Room (n + 1) (A.deeper (envOfC "height_at" (defScope s_height_at) s.heap.objs.size f cdv)))
    (hgd : (A.deeper (envOfC "height_at" (defScope s_height_at) s.heap.objs.size f cdv)).guards = some [])
    (h_height_at : HasG P w K mg base CX0 "height_at" p_height_at (n + 1) (spD K (F_height_at n)))
    (h_rows_of : HasG P w K mg base CX0 "rows_of" p_rows_of 1 (spD K F_rows_of)) :
    PSs (cxOf CX0 P w K mg base n_height_at "height_at" (defScope s_height_at) f cdv A outer s H E).nox (defBody s_height_at) (t_height_at K n) := by
  have S := sc_height_at
  have hu : (A.deeper (envOfC "height_at" (defScope s_height_at) s.heap.objs.size f cdv)).units + 64 < cLine := by have := hr.un; omega
  have hv : (A.deeper (envOfC "height_at" (defScope s_height_at) s.heap.objs.size f cdv)).units + 65 < cLine := by have := hr.un; omega
  exact (pss_cons (ps_asg (pe_hG h_rows_of (hr.mono (by omega)) hgd pz0 (pa_cons (pe_ix ix_seq (pv 0) pe_int (fun _ _ => rfl)) pa_nil)) (pg_name (i := 2) S.nd rfl (.inl rfl)))
      (pss_cons (ps_if (pt_cmpR op_ltU (pv 1) (pv 2) (nomark _)) (pss_one (ps_ret (pe_hG h_height_at (hr.mono (by omega)) hgd pz0 (pa_cons (pe_ix ix_seq (pv 0) pe_int (fun _ _ => rfl)) (pa_cons (pv 1) pa_nil))))) pss_nil)
      (pss_one (ps_ret (pe_ifExp (pt_cmpR (op_eqU hu) (pv 1) (pv 2) (nomark _)) (pe_ix ix_seq (pv 0) pe_int (fun _ _ => rfl)) (pe_hG h_height_at (hr.mono (by omega)) hgd pz0 (pa_cons (pe_ix ix_seq (pv 0) pe_int (fun _ _ => rfl)) (pa_cons (pe_op op_subU (pe_op op_subU (pv 1) (pv 2)) pe_int) pa_nil))))))))
def t_without_row (K : PySem.W.Frag) (n : Nat) : TS := (tSeq (tAsg (tSl (rSlU K) (tVar 0) tNoPart (tPart (tC (.int 3)))) (gTup K 3 (gCons (gName 3) (gCons (gName 4) (gCons (gName 5) gNil)))))
    (tSeq (tAsg (tCallS (spD K F_rows_of) Ez (tCons (tVar 3) tNil)) (gName 6))
    (tSeq (tIfS (tTest (tOp rLtU (tVar 1) (tVar 6))) (tRet (tCallS (spD K F_balanced) Ez (tCons (tCallS (spD K (F_without_row n)) Ez (tCons (tVar 3) (tCons (tVar 1) (tCons (tVar 2) tNil)))) (tCons (tVar 4) (tCons (tVar 5) (tCons (tVar 2) tNil)))))) tNext)
    (tSeq (tIfS (tTest (tOp rGtI (tVar 1) (tVar 6))) (tRet (tCallS (spD K F_balanced) Ez (tCons (tVar 3) (tCons (tVar 4) (tCons (tCallS (spD K (F_without_row n)) Ez (tCons (tVar 5) (tCons (tOp rSubI (tOp rSubI (tVar 1) (tVar 6)) (tC (.int 1))) (tCons (tVar 2) tNil)))) (tCons (tVar 2) tNil)))))) tNext)
    (tSeq (tIfS (tTest (tOp (rIsU false) (tVar 5) (tC .non))) (tRet (tVar 3)) tNext)
    (tRet (tCallS (spD K F_balanced) Ez (tCons (tVar 3) (tCons (tCallS (spD K (F_height_at 60)) Ez (tCons (tVar 5) (tCons (tC (.int 0)) tNil))) (tCons (tCallS (spD K (F_without_row n)) Ez (tCons (tVar 5) (tCons (tC (.int 0)) (tCons (tVar 2) tNil)))) (tCons (tVar 2) tNil)))))))))))
theorem dv_without_row {n : Nat} {P : Program} {w : World} {K : PySem.W.Frag} {mg : Str → Option Value} {base : Heap} {f : Addr} {cdv : Value} {A : Around} {outer : List Env} {s : Shared} {H : Hp} {E : XK}
    (hr : Room (n + 61) (A.deeper (envOfC "without_row" (defScope s_without_row) s.heap.objs.size f cdv)))
    (hgd : (A.deeper (envOfC "without_row" (defScope s_without_row) s.heap.objs.size f cdv)).guards = some [])
    (h_balanced : HasG P w K mg base CX0 "balanced" p_balanced 3 (spD K F_balanced))
    (h_height_at : HasG P w K mg base CX0 "height_at" p_height_at 61 (spD K (F_height_at 60)))
    (h_rows_of : HasG P w K mg base CX0 "rows_of" p_rows_of 1 (spD K F_rows_of))
    (h_without_row : HasG P w K mg base CX0 "without_row" p_without_row (n + 61) (spD K (F_without_row n))) :
    PSs (cxOf CX0 P w K mg base n_without_row "without_row" (defScope s_without_row) f cdv A outer s H E).nox (defBody s_without_row) (t_without_row K n) := by
  have S := sc_without_row
  have hu : (A.deeper (envOfC "without_row" (defScope s_without_row) s.heap.objs.size f cdv)).units + 64 < cLine := by have := hr.un; omega
  have hv : (A.deeper (envOfC "without_row" (defScope s_without_row) s.heap.objs.size f cdv)).units + 65 < cLine := by have := hr.un; omega
  exact (pss_cons (ps_asg (pe_slice sl_U (pv 0) po_none (po_some pe_int)) (pg_tup rfl (pgs_cons (pg_name (i := 3) S.nd rfl (.inl rfl)) (pgs_cons (pg_name (i := 4) S.nd rfl (.inl rfl)) (pgs_cons (pg_name (i := 5) S.nd rfl (.inl rfl)) pgs_nil)))))
      (pss_cons (ps_asg (pe_hG h_rows_of (hr.mono (by omega)) hgd pz0 (pa_cons (pv 3) pa_nil)) (pg_name (i := 6) S.nd rfl (.inl rfl)))
      (pss_cons (ps_if (pt_cmpR op_ltU (pv 1) (pv 6) (nomark _)) (pss_one (ps_ret (pe_hG h_balanced (hr.mono (by omega)) hgd pz0 (pa_cons (pe_hG h_without_row (hr.mono (by omega)) hgd pz0 (pa_cons (pv 3) (pa_cons (pv 1) (pa_cons (pv 2) pa_nil)))) (pa_cons (pv 4) (pa_cons (pv 5) (pa_cons (pv 2) pa_nil))))))) pss_nil)
      (pss_cons (ps_if (pt_cmpR op_gtU (pv 1) (pv 6) (nomark _)) (pss_one (ps_ret (pe_hG h_balanced (hr.mono (by omega)) hgd pz0 (pa_cons (pv 3) (pa_cons (pv 4) (pa_cons (pe_hG h_without_row (hr.mono (by omega)) hgd pz0 (pa_cons (pv 5) (pa_cons (pe_op op_subU (pe_op op_subU (pv 1) (pv 6)) pe_int) (pa_cons (pv 2) pa_nil)))) (pa_cons (pv 2) pa_nil))))))) pss_nil)
      (pss_cons (ps_if (pt_cmpR op_isU (pv 5) pe_non (nomark _)) (pss_one (ps_ret (pv 3))) pss_nil)
      (pss_one (ps_ret (pe_hG h_balanced (hr.mono (by omega)) hgd pz0 (pa_cons (pv 3) (pa_cons (pe_hG h_height_at (hr.mono (by omega)) hgd pz0 (pa_cons (pv 5) (pa_cons pe_int pa_nil))) (pa_cons (pe_hG h_without_row (hr.mono (by omega)) hgd pz0 (pa_cons (pv 5) (pa_cons pe_int (pa_cons (pv 2) pa_nil)))) (pa_cons (pv 2) pa_nil))))))))))))
def t_offset_of (K : PySem.W.Frag) (n : Nat) : TS := (tSeq (tIfS (tTest (tOp (rIsU false) (tVar 0) (tC .non))) (tRet (tC (.int 0))) tNext)
    (tSeq (tAsg (tSl (rSlU K) (tVar 0) tNoPart (tPart (tC (.int 3)))) (gTup K 3 (gCons (gName 3) (gCons (gName 4) (gCons (gName 5) gNil)))))
    (tSeq (tIfS (tTest (tOp rLeI (tVar 1) (tCallS (spD K F_rows_of) Ez (tCons (tVar 3) tNil)))) (tRet (tCallS (spD K (F_offset_of n)) Ez (tCons (tVar 3) (tCons (tVar 1) (tCons (tVar 2) tNil))))) tNext)
    (tSeq (tAsg (tCallS (spD K (F_offset_of n)) Ez (tCons (tVar 5) (tCons (tOp rSubI (tOp rSubI (tVar 1) (tCallS (spD K F_rows_of) Ez (tCons (tVar 3) tNil))) (tC (.int 1))) (tCons (tVar 2) tNil)))) (gName 6))
    (tRet (tOp (rAddU K) (tOp (rAddU K) (tCallS (spD K F_total_of) Ez (tCons (tVar 3) tNil)) (tCallS (spD K F_counted) Ez (tCons (tVar 4) (tCons (tVar 2) tNil)))) (tVar 6)))))))
theorem dv_offset_of {n : Nat} {P : Program} {w : World} {K : PySem.W.Frag} {mg : Str → Option Value} {base : Heap} {f : Addr} {cdv : Value} {A : Around} {outer : List Env} {s : Shared} {H : Hp} {E : XK}
    (hr : Room (n + 1) (A.deeper (envOfC "offset_of" (defScope s_offset_of) s.heap.objs.size f cdv)))
    (hgd : (A.deeper (envOfC "offset_of" (defScope s_offset_of) s.heap.objs.size f cdv)).guards = some [])
    (h_counted : HasG P w K mg base CX0 "counted" p_counted 1 (spD K F_counted))
    (h_offset_of : HasG P w K mg base CX0 "offset_of" p_offset_of (n + 1) (spD K (F_offset_of n)))
    (h_rows_of : HasG P w K mg base CX0 "rows_of" p_rows_of 1 (spD K F_rows_of))
    (h_total_of : HasG P w K mg base CX0 "total_of" p_total_of 1 (spD K F_total_of)) :
    PSs (cxOf CX0 P w K mg base n_offset_of "offset_of" (defScope s_offset_of) f cdv A outer s H E).nox (defBody s_offset_of) (t_offset_of K n) := by
  have S := sc_offset_of
  have hu : (A.deeper (envOfC "offset_of" (defScope s_offset_of) s.heap.objs.size f cdv)).units + 64 < cLine := by have := hr.un; omega
  have hv : (A.deeper (envOfC "offset_of" (defScope s_offset_of) s.heap.objs.size f cdv)).units + 65 < cLine := by have := hr.un; omega
  exact (pss_cons (ps_if (pt_cmpR op_isU (pv 0) pe_non (nomark _)) (pss_one (ps_ret pe_int)) pss_nil)
      (pss_cons (ps_asg (pe_slice sl_U (pv 0) po_none (po_some pe_int)) (pg_tup rfl (pgs_cons (pg_name (i := 3) S.nd rfl (.inl rfl)) (pgs_cons (pg_name (i := 4) S.nd rfl (.inl rfl)) (pgs_cons (pg_name (i := 5) S.nd rfl (.inl rfl)) pgs_nil)))))
      (pss_cons (ps_if (pt_cmpR op_leU (pv 1) (pe_hG h_rows_of (hr.mono (by omega)) hgd pz0 (pa_cons (pv 3) pa_nil)) (nomark _)) (pss_one (ps_ret (pe_hG h_offset_of (hr.mono (by omega)) hgd pz0 (pa_cons (pv 3) (pa_cons (pv 1) (pa_cons (pv 2) pa_nil)))))) pss_nil)
      (pss_cons (ps_asg (pe_hG h_offset_of (hr.mono (by omega)) hgd pz0 (pa_cons (pv 5) (pa_cons (pe_op op_subU (pe_op op_subU (pv 1) (pe_hG h_rows_of (hr.mono (by omega)) hgd pz0 (pa_cons (pv 3) pa_nil))) pe_int) (pa_cons (pv 2) pa_nil)))) (pg_name (i := 6) S.nd rfl (.inl rfl)))
      (pss_one (ps_ret (pe_op op_addU (pe_op op_addU (pe_hG h_total_of (hr.mono (by omega)) hgd pz0 (pa_cons (pv 3) pa_nil)) (pe_hG h_counted (hr.mono (by omega)) hgd pz0 (pa_cons (pv 4) (pa_cons (pv 2) pa_nil)))) (pv 6))))))))
def t_covering (K : PySem.W.Frag) (n : Nat) : TS := (tSeq (tAsg (tSl (rSlU K) (tVar 0) tNoPart (tPart (tC (.int 3)))) (gTup K 3 (gCons (gName 3) (gCons (gName 4) (gCons (gName 5) gNil)))))
    (tSeq (tIfS (tTest (tOp rLtU (tVar 1) (tCallS (spD K F_total_of) Ez (tCons (tVar 3) tNil)))) (tRet (tCallS (spD K (F_covering n)) Ez (tCons (tVar 3) (tCons (tVar 1) (tCons (tVar 2) tNil))))) tNext)
    (tSeq (tAsg (tOp (rAddU K) (tCallS (spD K F_total_of) Ez (tCons (tVar 3) tNil)) (tCallS (spD K F_counted) Ez (tCons (tVar 4) (tCons (tVar 2) tNil)))) (gName 6))
    (tSeq (tIfS (tTest (tOp rLtU (tVar 1) (tVar 6))) (tRet (tCallS (spD K F_rows_of) Ez (tCons (tVar 3) tNil))) tNext)
    (tRet (tOp (rAddU K) (tOp (rAddU K) (tCallS (spD K F_rows_of) Ez (tCons (tVar 3) tNil)) (tC (.int 1))) (tCallS (spD K (F_covering n)) Ez (tCons (tVar 5) (tCons (tOp rSubI (tVar 1) (tVar 6)) (tCons (tVar 2) tNil))))))))))
theorem dv_covering {n : Nat} {P : Program} {w : World} {K : PySem.W.Frag} {mg : Str → Option Value} {base : Heap} {f : Addr} {cdv : Value} {A : Around} {outer : List Env} {s : Shared} {H : Hp} {E : XK}
    (hr : Room (n + 1) (A.deeper (envOfC "covering" (defScope s_covering) s.heap.objs.size f cdv)))
    (hgd : (A.deeper (envOfC "covering" (defScope s_covering) s.heap.objs.size f cdv)).guards = some [])
    (h_counted : HasG P w K mg base CX0 "counted" p_counted 1 (spD K F_counted))
    (h_covering : HasG P w K mg base CX0 "covering" p_covering (n + 1) (spD K (F_covering n)))
    (h_rows_of : HasG P w K mg base CX0 "rows_of" p_rows_of 1 (spD K F_rows_of))
    (h_total_of : HasG P w K mg base CX0 "total_of" p_total_of 1 (spD K F_total_of)) :
    PSs (cxOf CX0 P w K mg base n_covering "covering" (defScope s_covering) f cdv A outer s H E).nox (defBody s_covering) (t_covering K n) := by
  have S := sc_covering
  have hu : (A.deeper (envOfC "covering" (defScope s_covering) s.heap.objs.size f cdv)).units + 64 < cLine := by have := hr.un; omega
  have hv : (A.deeper (envOfC "covering" (defScope s_covering) s.heap.objs.size f cdv)).units + 65 < cLine := by have := hr.un; omega
  exact (pss_cons (ps_asg (pe_slice sl_U (pv 0) po_none (po_some pe_int)) (pg_tup rfl (pgs_cons (pg_name (i := 3) S.nd rfl (.inl rfl)) (pgs_cons (pg_name (i := 4) S.nd rfl (.inl rfl)) (pgs_cons (pg_name (i := 5) S.nd rfl (.inl rfl)) pgs_nil)))))
      (pss_cons (ps_if (pt_cmpR op_ltU (pv 1) (pe_hG h_total_of (hr.mono (by omega)) hgd pz0 (pa_cons (pv 3) pa_nil)) (nomark _)) (pss_one (ps_ret (pe_hG h_covering (hr.mono (by omega)) hgd pz0 (pa_cons (pv 3) (pa_cons (pv 1) (pa_cons (pv 2) pa_nil)))))) pss_nil)
      (pss_cons (ps_asg (pe_op op_addU (pe_hG h_total_of (hr.mono (by omega)) hgd pz0 (pa_cons (pv 3) pa_nil)) (pe_hG h_counted (hr.mono (by omega)) hgd pz0 (pa_cons (pv 4) (pa_cons (pv 2) pa_nil)))) (pg_name (i := 6) S.nd rfl (.inl rfl)))
      (pss_cons (ps_if (pt_cmpR op_ltU (pv 1) (pv 6) (nomark _)) (pss_one (ps_ret (pe_hG h_rows_of (hr.mono (by omega)) hgd pz0 (pa_cons (pv 3) pa_nil)))) pss_nil)
      (pss_one (ps_ret (pe_op op_addU (pe_op op_addU (pe_hG h_rows_of (hr.mono (by omega)) hgd pz0 (pa_cons (pv 3) pa_nil)) pe_int) (pe_hG h_covering (hr.mono (by omega)) hgd pz0 (pa_cons (pv 5) (pa_cons (pe_op op_subU (pv 1) (pv 6)) (pa_cons (pv 2) pa_nil)))))))))))
def t_plain_tree (K : PySem.W.Frag) (n : Nat) : TS := (tSeq (tIfS (tTest (tOp (rIsU false) (tVar 0) (tC .non))) (tRet (tC .non)) tNext)
    (tSeq (tAsg (tVar 0) (gTup K 6 (gCons (gName 1) (gCons (gName 2) (gCons (gName 3) (gCons (gName 4) (gCons (gName 5) (gCons (gName 6) gNil))))))))
    (tRet (tTup (tCons (tCallS (spD K (F_plain_tree n)) Ez (tCons (tVar 1) tNil)) (tCons (tVar 2) (tCons (tCallS (spD K (F_plain_tree n)) Ez (tCons (tVar 3) tNil)) (tCons (tVar 4) (tCons (tVar 5) tNil)))))))))
theorem dv_plain_tree {n : Nat} {P : Program} {w : World} {K : PySem.W.Frag} {mg : Str → Option Value} {base : Heap} {f : Addr} {cdv : Value} {A : Around} {outer : List Env} {s : Shared} {H : Hp} {E : XK}
    (hr : Room (n + 0) (A.deeper (envOfC "plain_tree" (defScope s_plain_tree) s.heap.objs.size f cdv)))
    (hgd : (A.deeper (envOfC "plain_tree" (defScope s_plain_tree) s.heap.objs.size f cdv)).guards = some [])
    (h_plain_tree : HasG P w K mg base CX0 "plain_tree" p_plain_tree (n + 0) (spD K (F_plain_tree n))) :
    PSs (cxOf CX0 P w K mg base n_plain_tree "plain_tree" (defScope s_plain_tree) f cdv A outer s H E).nox (defBody s_plain_tree) (t_plain_tree K n) := by
  have S := sc_plain_tree
  have hu : (A.deeper (envOfC "plain_tree" (defScope s_plain_tree) s.heap.objs.size f cdv)).units + 64 < cLine := by have := hr.un; omega
  have hv : (A.deeper (envOfC "plain_tree" (defScope s_plain_tree) s.heap.objs.size f cdv)).units + 65 < cLine := by have := hr.un; omega
  exact (pss_cons (ps_if (pt_cmpR op_isU (pv 0) pe_non (nomark _)) (pss_one (ps_ret pe_non)) pss_nil)
      (pss_cons (ps_asg (pv 0) (pg_tup rfl (pgs_cons (pg_name (i := 1) S.nd rfl (.inl rfl)) (pgs_cons (pg_name (i := 2) S.nd rfl (.inl rfl)) (pgs_cons (pg_name (i := 3) S.nd rfl (.inl rfl)) (pgs_cons (pg_name (i := 4) S.nd rfl (.inl rfl)) (pgs_cons (pg_name (i := 5) S.nd rfl (.inl rfl)) (pgs_cons (pg_name (i := 6) S.nd rfl (.inl rfl)) pgs_nil))))))))
      (pss_one (ps_ret (pe_tup (pa_cons (pe_hG h_plain_tree (hr.mono (by omega)) hgd pz0 (pa_cons (pv 1) pa_nil)) (pa_cons (pv 2) (pa_cons (pe_hG h_plain_tree (hr.mono (by omega)) hgd pz0 (pa_cons (pv 3) pa_nil)) (pa_cons (pv 4) (pa_cons (pv 5) pa_nil))))))))))
def t_heights_of (K : PySem.W.Frag) (n : Nat) : TS := (tSeq (tIfS (tTest (tOp (rIsU false) (tVar 0) (tC .non))) (tRet (tLst tNil)) tNext)
    (tRet (tOp (rAddU K) (tOp (rAddU K) (tCallS (spD K (F_heights_of n)) Ez (tCons (tOp (rIx K) (tVar 0) (tC (.int 0))) tNil)) (tLst (tCons (tOp (rIx K) (tVar 0) (tC (.int 1))) tNil))) (tCallS (spD K (F_heights_of n)) Ez (tCons (tOp (rIx K) (tVar 0) (tC (.int 2))) tNil)))))
theorem dv_heights_of {n : Nat} {P : Program} {w : World} {K : PySem.W.Frag} {mg : Str → Option Value} {base : Heap} {f : Addr} {cdv : Value} {A : Around} {outer : List Env} {s : Shared} {H : Hp} {E : XK}
    (hr : Room (n + 0) (A.deeper (envOfC "heights_of" (defScope s_heights_of) s.heap.objs.size f cdv)))
    (hgd : (A.deeper (envOfC "heights_of" (defScope s_heights_of) s.heap.objs.size f cdv)).guards = some [])
    (h_heights_of : HasG P w K mg base CX0 "heights_of" p_heights_of (n + 0) (spD K (F_heights_of n))) :
    PSs (cxOf CX0 P w K mg base n_heights_of "heights_of" (defScope s_heights_of) f cdv A outer s H E).nox (defBody s_heights_of) (t_heights_of K n) := by
  have S := sc_heights_of
  have hu : (A.deeper (envOfC "heights_of" (defScope s_heights_of) s.heap.objs.size f cdv)).units + 64 < cLine := by have := hr.un; omega
  have hv : (A.deeper (envOfC "heights_of" (defScope s_heights_of) s.heap.objs.size f cdv)).units + 65 < cLine := by have := hr.un; omega
  exact (pss_cons (ps_if (pt_cmpR op_isU (pv 0) pe_non (nomark _)) (pss_one (ps_ret (pe_lst pa_nil))) pss_nil)
      (pss_one (ps_ret (pe_op op_addU (pe_op op_addU (pe_hG h_heights_of (hr.mono (by omega)) hgd pz0 (pa_cons (pe_ix ix_seq (pv 0) pe_int (fun _ _ => rfl)) pa_nil)) (pe_lst (pa_cons (pe_ix ix_seq (pv 0) pe_int (fun _ _ => rfl)) pa_nil))) (pe_hG h_heights_of (hr.mono (by omega)) hgd pz0 (pa_cons (pe_ix ix_seq (pv 0) pe_int (fun _ _ => rfl)) pa_nil))))))
def t_need_guess (K : PySem.W.Frag) (xw : L2.WX) : TS := (tIfS (tTest (tOp rLtU (tVar 0) (tC (.int 1)))) (tRaiseE K "InvalidNumber" xw (tCons (tVar 0) tNil)) tNext)
theorem dv_need_guess {P : Program} {w : World} {K : PySem.W.Frag} {mg : Str → Option Value} {base : Heap} {f : Addr} {cdv : Value} {A : Around} {outer : List Env} {s : Shared} {H : Hp} {E : XK}
    (hr : Room 0 (A.deeper (envOfC "need_guess" (defScope s_need_guess) s.heap.objs.size f cdv)))
    (hgd : (A.deeper (envOfC "need_guess" (defScope s_need_guess) s.heap.objs.size f cdv)).guards = some [])
    (e_InvalidNumber : IsErr P K mg "InvalidNumber") :
    PSs (cxOf (L2.CX P w) P w K mg base n_need_guess "need_guess" (defScope s_need_guess) f cdv A outer s H E) (defBody s_need_guess) (t_need_guess K fun c d _ H => E c d H) := by
  have S := sc_need_guess
  have hu : (A.deeper (envOfC "need_guess" (defScope s_need_guess) s.heap.objs.size f cdv)).units + 64 < cLine := by have := hr.un; omega
  have hv : (A.deeper (envOfC "need_guess" (defScope s_need_guess) s.heap.objs.size f cdv)).units + 65 < cLine := by have := hr.un; omega
  let xw : L2.WX := fun c d _ H => E c d H
  exact (pss_one (ps_if (pt_cmpR op_ltU (pv 0) pe_int (nomark _)) (pss_one (ps_raiseE rfl e_InvalidNumber hr (takes_of rfl rfl rfl rfl) (pa_cons (pv 0) pa_nil))) pss_nil))
def t_need_height (K : PySem.W.Frag) (xw : L2.WX) : TS := (tIfS (tAnd (tTest (tOp (rIsU true) (tVar 0) (tC .non))) (tTest (tOp rLtU (tVar 0) (tC (.int 0))))) (tRaiseE K "InvalidNumber" xw (tCons (tVar 0) tNil)) tNext)
theorem dv_need_height {P : Program} {w : World} {K : PySem.W.Frag} {mg : Str → Option Value} {base : Heap} {f : Addr} {cdv : Value} {A : Around} {outer : List Env} {s : Shared} {H : Hp} {E : XK}
    (hr : Room 0 (A.deeper (envOfC "need_height" (defScope s_need_height) s.heap.objs.size f cdv)))
    (hgd : (A.deeper (envOfC "need_height" (defScope s_need_height) s.heap.objs.size f cdv)).guards = some [])
    (e_InvalidNumber : IsErr P K mg "InvalidNumber") :
    PSs (cxOf (L2.CX P w) P w K mg base n_need_height "need_height" (defScope s_need_height) f cdv A outer s H E) (defBody s_need_height) (t_need_height K fun c d _ H => E c d H) := by
  have S := sc_need_height
  have hu : (A.deeper (envOfC "need_height" (defScope s_need_height) s.heap.objs.size f cdv)).units + 64 < cLine := by have := hr.un; omega
  have hv : (A.deeper (envOfC "need_height" (defScope s_need_height) s.heap.objs.size f cdv)).units + 65 < cLine := by have := hr.un; omega
  let xw : L2.WX := fun c d _ H => E c d H
  exact (pss_one (ps_if (PW.pt (pw_and (pt_cmpR op_isnU (pv 0) pe_non (nomark _)) (pw_and1 (pt_cmpR op_ltU (pv 0) pe_int (nomark _))))) (pss_one (ps_raiseE rfl e_InvalidNumber hr (takes_of rfl rfl rfl rfl) (pa_cons (pv 0) pa_nil))) pss_nil))
def t_is_integer (K : PySem.W.Frag) : TS := (tRet (tAndT K (tCB (rIsi K) (tCons (tVar 0) (tCons (tC (.ty "int")) tNil))) (tNotT K (tCB (rIsi K) (tCons (tVar 0) (tCons (tC (.ty "bool")) tNil))))))
theorem dv_is_integer {P : Program} {w : World} {K : PySem.W.Frag} {mg : Str → Option Value} {base : Heap} {f : Addr} {cdv : Value} {A : Around} {outer : List Env} {s : Shared} {H : Hp} {E : XK}
    (hr : Room 0 (A.deeper (envOfC "is_integer" (defScope s_is_integer) s.heap.objs.size f cdv)))
    (hgd : (A.deeper (envOfC "is_integer" (defScope s_is_integer) s.heap.objs.size f cdv)).guards = some [])
    (n_bool : mg "bool" = none)
    (n_int : mg "int" = none)
    (n_isinstance : mg "isinstance" = none) :
    PSs (cxOf CX0 P w K mg base n_is_integer "is_integer" (defScope s_is_integer) f cdv A outer s H E).nox (defBody s_is_integer) (t_is_integer K) := by
  have S := sc_is_integer
  have hu : (A.deeper (envOfC "is_integer" (defScope s_is_integer) s.heap.objs.size f cdv)).units + 64 < cLine := by have := hr.un; omega
  have hv : (A.deeper (envOfC "is_integer" (defScope s_is_integer) s.heap.objs.size f cdv)).units + 65 < cLine := by have := hr.un; omega
  exact (pss_one (ps_ret (pe_andT (pe_callB call_isi (by rfl) n_isinstance (by decide +kernel) (pa_cons (pv 0) (pa_cons (pe_bltn (v := .ty "int") (by rfl) n_int (by decide +kernel) rfl) pa_nil))) (pe_one (pe_notT (pe_callB call_isi (by rfl) n_isinstance (by decide +kernel) (pa_cons (pv 0) (pa_cons (pe_bltn (v := .ty "bool") (by rfl) n_bool (by decide +kernel) rfl) pa_nil))))))))
def t_measured (K : PySem.W.Frag) (n : Nat) : TS := (tSeq (tIfS (tTest (tOp (rIsU false) (tVar 1) (tC .non))) (tRet (tTup (tCons (tC (.int 0)) (tCons (tC (.int 0)) (tCons (tC (.int 0)) tNil))))) tNext)
    (tSeq (tIfS (tOr (tNot (tTru K (tCB (rIsi K) (tCons (tVar 1) (tCons (tC (.ty "tuple")) tNil))))) (tTest (tOp (rNeU K) (tCB (rLenU K) (tCons (tVar 1) tNil)) (tC (.int 5))))) (tRet (tC .non)) tNext)
    (tSeq (tAsg (tVar 1) (gTup K 5 (gCons (gName 2) (gCons (gName 3) (gCons (gName 4) (gCons (gName 5) (gCons (gName 6) gNil)))))))
    (tSeq (tIfS (tAnd (tTest (tOp (rIsU true) (tVar 3) (tC .non))) (tOr (tNot (tTru K (tCallS (spD K F_is_integer) Ez (tCons (tVar 3) tNil)))) (tTest (tOp rLtU (tVar 3) (tC (.int 0)))))) (tRet (tC .non)) tNext)
    (tSeq (tAsg (tCallS (spD K (F_measured n)) Ez (tCons (tVar 0) (tCons (tVar 2) tNil))) (gName 7))
    (tSeq (tAsg (tIf (tTest (tOp (rIsU false) (tVar 7) (tC .non))) (tC .non) (tCallS (spD K (F_measured n)) Ez (tCons (tVar 0) (tCons (tVar 4) tNil)))) (gName 8))
    (tSeq (tIfS (tOr (tTest (tOp (rIsU false) (tVar 8) (tC .non))) (tOr (tTest (tOp rGtI (tCB (rAbsU) (tCons (tOp rSubI (tOp (rIx K) (tVar 7) (tC (.int 2))) (tOp (rIx K) (tVar 8) (tC (.int 2)))) tNil)) (tC (.int 1)))) (tOr (tNot (tTru K (tCallS (spD K F_is_integer) Ez (tCons (tVar 5) tNil)))) (tNot (tTru K (tCallS (spD K F_is_integer) Ez (tCons (tVar 6) tNil))))))) (tRet (tC .non)) tNext)
    (tSeq (tIfS (tOr (tTest (tOp (rNeU K) (tVar 5) (tOp (rAddU K) (tOp (rAddU K) (tOp (rIx K) (tVar 7) (tC (.int 0))) (tC (.int 1))) (tOp (rIx K) (tVar 8) (tC (.int 0)))))) (tTest (tOp (rNeU K) (tVar 6) (tOp (rAddU K) (tOp (rAddU K) (tOp (rIx K) (tVar 7) (tC (.int 1))) (tCallS (spD K F_counted) Ez (tCons (tVar 3) (tCons (tVar 0) tNil)))) (tOp (rIx K) (tVar 8) (tC (.int 1))))))) (tRet (tC .non)) tNext)
    (tRet (tTup (tCons (tVar 5) (tCons (tVar 6) (tCons (tOp (rAddU K) (tC (.int 1)) (tCB (rMaxU K) (tCons (tOp (rIx K) (tVar 7) (tC (.int 2))) (tCons (tOp (rIx K) (tVar 8) (tC (.int 2))) tNil)))) tNil)))))))))))))
theorem dv_measured {n : Nat} {P : Program} {w : World} {K : PySem.W.Frag} {mg : Str → Option Value} {base : Heap} {f : Addr} {cdv : Value} {A : Around} {outer : List Env} {s : Shared} {H : Hp} {E : XK}
    (hr : Room (n + 1) (A.deeper (envOfC "measured" (defScope s_measured) s.heap.objs.size f cdv)))
    (hgd : (A.deeper (envOfC "measured" (defScope s_measured) s.heap.objs.size f cdv)).guards = some [])
    (h_counted : HasG P w K mg base CX0 "counted" p_counted 1 (spD K F_counted))
    (h_is_integer : HasG P w K mg base CX0 "is_integer" p_is_integer 1 (spD K F_is_integer))
    (h_measured : HasG P w K mg base CX0 "measured" p_measured (n + 1) (spD K (F_measured n)))
    (n_abs : mg "abs" = none)
    (n_isinstance : mg "isinstance" = none)
    (n_len : mg "len" = none)
    (n_max : mg "max" = none)
    (n_tuple : mg "tuple" = none) :
    PSs (cxOf CX0 P w K mg base n_measured "measured" (defScope s_measured) f cdv A outer s H E).nox (defBody s_measured) (t_measured K n) := by
  have S := sc_measured
  have hu : (A.deeper (envOfC "measured" (defScope s_measured) s.heap.objs.size f cdv)).units + 64 < cLine := by have := hr.un; omega
  have hv : (A.deeper (envOfC "measured" (defScope s_measured) s.heap.objs.size f cdv)).units + 65 < cLine := by have := hr.un; omega
  exact (pss_cons (ps_if (pt_cmpR op_isU (pv 1) pe_non (nomark _)) (pss_one (ps_ret (pe_tup (pa_cons pe_int (pa_cons pe_int (pa_cons pe_int pa_nil)))))) pss_nil)
      (pss_cons (ps_if (PW.pt (pw_or (pt_not (pt_tru (pe_callB call_isi (by rfl) n_isinstance (by decide +kernel) (pa_cons (pv 1) (pa_cons (pe_bltn (v := .ty "tuple") (by rfl) n_tuple (by decide +kernel) rfl) pa_nil))))) (pw_or1 (pt_cmpR (op_neU hu) (pe_callB call_lenU (by rfl) n_len (by decide +kernel) (pa_cons (pv 1) pa_nil)) pe_int (nomark _))))) (pss_one (ps_ret pe_non)) pss_nil)
      (pss_cons (ps_asg (pv 1) (pg_tup rfl (pgs_cons (pg_name (i := 2) S.nd rfl (.inl rfl)) (pgs_cons (pg_name (i := 3) S.nd rfl (.inl rfl)) (pgs_cons (pg_name (i := 4) S.nd rfl (.inl rfl)) (pgs_cons (pg_name (i := 5) S.nd rfl (.inl rfl)) (pgs_cons (pg_name (i := 6) S.nd rfl (.inl rfl)) pgs_nil)))))))
      (pss_cons (ps_if (PW.pt (pw_and (pt_cmpR op_isnU (pv 3) pe_non (nomark _)) (pw_and1 (PW.pt (pw_or (pt_not (pt_tru (pe_hG h_is_integer (hr.mono (by omega)) hgd pz0 (pa_cons (pv 3) pa_nil)))) (pw_or1 (pt_cmpR op_ltU (pv 3) pe_int (nomark _)))))))) (pss_one (ps_ret pe_non)) pss_nil)
      (pss_cons (ps_asg (pe_hG h_measured (hr.mono (by omega)) hgd pz0 (pa_cons (pv 0) (pa_cons (pv 2) pa_nil))) (pg_name (i := 7) S.nd rfl (.inl rfl)))
      (pss_cons (ps_asg (pe_ifExp (pt_cmpR op_isU (pv 7) pe_non (nomark _)) pe_non (pe_hG h_measured (hr.mono (by omega)) hgd pz0 (pa_cons (pv 0) (pa_cons (pv 4) pa_nil)))) (pg_name (i := 8) S.nd rfl (.inl rfl)))
      (pss_cons (ps_if (PW.pt (pw_or (pt_cmpR op_isU (pv 8) pe_non (nomark _)) (pw_or (pt_cmpR op_gtU (pe_callB call_absU (by rfl) n_abs (by decide +kernel) (pa_cons (pe_op op_subU (pe_ix ix_seq (pv 7) pe_int (fun _ _ => rfl)) (pe_ix ix_seq (pv 8) pe_int (fun _ _ => rfl))) pa_nil)) pe_int (nomark _)) (pw_or (pt_not (pt_tru (pe_hG h_is_integer (hr.mono (by omega)) hgd pz0 (pa_cons (pv 5) pa_nil)))) (pw_or1 (pt_not (pt_tru (pe_hG h_is_integer (hr.mono (by omega)) hgd pz0 (pa_cons (pv 6) pa_nil))))))))) (pss_one (ps_ret pe_non)) pss_nil)
      (pss_cons (ps_if (PW.pt (pw_or (pt_cmpR (op_neU hu) (pv 5) (pe_op op_addU (pe_op op_addU (pe_ix ix_seq (pv 7) pe_int (fun _ _ => rfl)) pe_int) (pe_ix ix_seq (pv 8) pe_int (fun _ _ => rfl))) (nomark _)) (pw_or1 (pt_cmpR (op_neU hu) (pv 6) (pe_op op_addU (pe_op op_addU (pe_ix ix_seq (pv 7) pe_int (fun _ _ => rfl)) (pe_hG h_counted (hr.mono (by omega)) hgd pz0 (pa_cons (pv 3) (pa_cons (pv 0) pa_nil)))) (pe_ix ix_seq (pv 8) pe_int (fun _ _ => rfl))) (nomark _))))) (pss_one (ps_ret pe_non)) pss_nil)
      (pss_one (ps_ret (pe_tup (pa_cons (pv 5) (pa_cons (pv 6) (pa_cons (pe_op op_addU pe_int (pe_callB (call_maxU rfl) (by rfl) n_max (by decide +kernel) (pa_cons (pe_ix ix_seq (pv 7) pe_int (fun _ _ => rfl)) (pa_cons (pe_ix ix_seq (pv 8) pe_int (fun _ _ => rfl)) pa_nil)))) pa_nil))))))))))))))
def t_tree_right (K : PySem.W.Frag) : TS := (tRet (tOp (rIsU true) (tCallS (spD K (F_measured 60)) Ez (tCons (tVar 0) (tCons (tVar 1) tNil))) (tC .non)))
theorem dv_tree_right {P : Program} {w : World} {K : PySem.W.Frag} {mg : Str → Option Value} {base : Heap} {f : Addr} {cdv : Value} {A : Around} {outer : List Env} {s : Shared} {H : Hp} {E : XK}
    (hr : Room 61 (A.deeper (envOfC "tree_right" (defScope s_tree_right) s.heap.objs.size f cdv)))
    (hgd : (A.deeper (envOfC "tree_right" (defScope s_tree_right) s.heap.objs.size f cdv)).guards = some [])
    (h_measured : HasG P w K mg base CX0 "measured" p_measured 61 (spD K (F_measured 60))) :
    PSs (cxOf CX0 P w K mg base n_tree_right "tree_right" (defScope s_tree_right) f cdv A outer s H E).nox (defBody s_tree_right) (t_tree_right K) := by
  have S := sc_tree_right
  have hu : (A.deeper (envOfC "tree_right" (defScope s_tree_right) s.heap.objs.size f cdv)).units + 64 < cLine := by have := hr.un; omega
  have hv : (A.deeper (envOfC "tree_right" (defScope s_tree_right) s.heap.objs.size f cdv)).units + 65 < cLine := by have := hr.un; omega
  exact (pss_one (ps_ret (pe_cmpR op_isnU (pe_hG h_measured (hr.mono (by decide)) hgd pz0 (pa_cons (pv 0) (pa_cons (pv 1) pa_nil))) pe_non (nomark _))))
def t_heights_in (K : PySem.W.Frag) : TS := (tRet (tCallS (spD K (F_heights_of 60)) Ez (tCons (tVar 0) tNil)))
theorem dv_heights_in {P : Program} {w : World} {K : PySem.W.Frag} {mg : Str → Option Value} {base : Heap} {f : Addr} {cdv : Value} {A : Around} {outer : List Env} {s : Shared} {H : Hp} {E : XK}
    (hr : Room 60 (A.deeper (envOfC "heights_in" (defScope s_heights_in) s.heap.objs.size f cdv)))
    (hgd : (A.deeper (envOfC "heights_in" (defScope s_heights_in) s.heap.objs.size f cdv)).guards = some [])
    (h_heights_of : HasG P w K mg base CX0 "heights_of" p_heights_of 60 (spD K (F_heights_of 60))) :
    PSs (cxOf CX0 P w K mg base n_heights_in "heights_in" (defScope s_heights_in) f cdv A outer s H E).nox (defBody s_heights_in) (t_heights_in K) := by
  have S := sc_heights_in
  have hu : (A.deeper (envOfC "heights_in" (defScope s_heights_in) s.heap.objs.size f cdv)).units + 64 < cLine := by have := hr.un; omega
  have hv : (A.deeper (envOfC "heights_in" (defScope s_heights_in) s.heap.objs.size f cdv)).units + 65 < cLine := by have := hr.un; omega
  exact (pss_one (ps_ret (pe_hG h_heights_of (hr.mono (by decide)) hgd pz0 (pa_cons (pv 0) pa_nil))))
def t__law_deck (K : PySem.W.Frag) : TS := (tSeq (tPar 2 3 (tCons (tOp (rAddU K) (tOp rMulU (tC (.int 17)) (tVar 1)) (tC (.int 3))) (tCons (tOp (rAddU K) (tC (.int 7)) (tVar 1)) tNil)))
    (tSeq (tIfS (tTest (tOp rLtU (tVar 1) (tCB (rLenU K) (tCons (tVar 0) tNil)))) (tAsg (tOp (rIx K) (tVar 0) (tVar 1)) (gName 2)) tNext)
    (tSeq (tFor (iRng1 (tCons (tCB (rLenU K) (tCons (tVar 0) tNil)) tNil)) (gName 4) (tAsg (tOp rModI (tCB (rIntU) (tCons (tOp (rAddU K) (tOp (rAddU K) (tOp rMulU (tVar 3) (tC (.int 8191))) (tOp rModI (tCB (rIntU) (tCons (tOp (rIx K) (tVar 0) (tVar 4)) tNil)) (tOp (rAddU K) (tOp rPowI (tC (.int 10)) (tC (.int 23))) (tC (.int 117))))) (tOp rMulU (tC (.int 3)) (tVar 4))) tNil)) (tOp (rAddU K) (tOp rPowI (tC (.int 10)) (tC (.int 29))) (tC (.int 319)))) (gName 3)))
    (tRet (tLst (tCons (tCB (rMaxU K) (tCons (tC (.int 0)) (tCons (tOp rSubI (tVar 2) (tOp rPowI (tC (.int 10)) (tC (.int 18)))) tNil))) (tCons (tOp (rAddU K) (tOp rMulU (tVar 3) (tC (.int 5))) (tOp rModI (tCB (rIntU) (tCons (tCB (rAbsU) (tCons (tVar 2) tNil)) tNil)) (tOp (rAddU K) (tOp rPowI (tC (.int 10)) (tC (.int 21))) (tC (.int 9))))) (tCons (tC (.int 0)) tNil))))))))
theorem dv__law_deck {P : Program} {w : World} {K : PySem.W.Frag} {mg : Str → Option Value} {base : Heap} {f : Addr} {cdv : Value} {A : Around} {outer : List Env} {s : Shared} {H : Hp} {E : XK}
    (hr : Room 0 (A.deeper (envOfC "_law_deck" (defScope s__law_deck) s.heap.objs.size f cdv)))
    (hgd : (A.deeper (envOfC "_law_deck" (defScope s__law_deck) s.heap.objs.size f cdv)).guards = some [])
    (n_abs : mg "abs" = none)
    (n_int : mg "int" = none)
    (n_len : mg "len" = none)
    (n_max : mg "max" = none)
    (n_range : mg "range" = none) :
    PSs (cxOf CX0 P w K mg base n__law_deck "_law_deck" (defScope s__law_deck) f cdv A outer s H E).nox (defBody s__law_deck) (t__law_deck K) := by
  have S := sc__law_deck
  have hu : (A.deeper (envOfC "_law_deck" (defScope s__law_deck) s.heap.objs.size f cdv)).units + 64 < cLine := by have := hr.un; omega
  have hv : (A.deeper (envOfC "_law_deck" (defScope s__law_deck) s.heap.objs.size f cdv)).units + 65 < cLine := by have := hr.un; omega
  exact (pss_cons (ps_par (i := 2) (j := 3) (by rfl) S.nd rfl rfl (by decide) rfl rfl (pa_cons (pe_op op_addU (pe_op op_mulU pe_int (pv 1)) pe_int) (pa_cons (pe_op op_addU pe_int (pv 1)) pa_nil)) (by rfl))
      (pss_cons (ps_if (pt_cmpR op_ltU (pv 1) (pe_callB call_lenU (by rfl) n_len (by decide +kernel) (pa_cons (pv 0) pa_nil)) (nomark _)) (pss_one (ps_asg (pe_ix ix_seq (pv 0) (pv 1) (fun _ _ => rfl)) (pg_name (i := 2) S.nd rfl (.inl rfl)))) pss_nil)
      (pss_cons (ps_for PassesOwn.never rfl (pi_range1 (by rfl) n_range (pa_cons (pe_callB call_lenU (by rfl) n_len (by decide +kernel) (pa_cons (pv 0) pa_nil)) pa_nil)) (pg_name (i := 4) S.nd rfl (.inl rfl)) (pss_one (ps_asg (pe_op op_modU (pe_callTy call_intU (by rfl) n_int (by decide +kernel) (pa_cons (pe_op op_addU (pe_op op_addU (pe_op op_mulU (pv 3) pe_int) (pe_op op_modU (pe_callTy call_intU (by rfl) n_int (by decide +kernel) (pa_cons (pe_ix ix_seq (pv 0) (pv 4) (fun _ _ => rfl)) pa_nil)) (pe_op op_addU (pe_op op_powU pe_int pe_int) pe_int))) (pe_op op_mulU pe_int (pv 4))) pa_nil)) (pe_op op_addU (pe_op op_powU pe_int pe_int) pe_int)) (pg_name (i := 3) S.nd rfl (.inl rfl)))))
      (pss_one (ps_ret (pe_lst (pa_cons (pe_callB (call_maxU rfl) (by rfl) n_max (by decide +kernel) (pa_cons pe_int (pa_cons (pe_op op_subU (pv 2) (pe_op op_powU pe_int pe_int)) pa_nil))) (pa_cons (pe_op op_addU (pe_op op_mulU (pv 3) pe_int) (pe_op op_modU (pe_callTy call_intU (by rfl) n_int (by decide +kernel) (pa_cons (pe_callB call_absU (by rfl) n_abs (by decide +kernel) (pa_cons (pv 2) pa_nil)) pa_nil)) (pe_op op_addU (pe_op op_powU pe_int pe_int) pe_int))) (pa_cons pe_int pa_nil)))))))))
def t__law_draw (K : PySem.W.Frag) : TS := (tSeq (tIfS (tTest (tOp rGtI (tOp (rIx K) (tVar 0) (tC (.int 0))) (tC (.int 0)))) (tSeq (tAsg (tOp rModI (tCB (rIntU) (tCons (tOp (rIx K) (tVar 0) (tC (.int 0))) tNil)) (tVar 1)) (gName 2))
    (tSeq (tAsg (tOp rDivI (tOp (rIx K) (tVar 0) (tC (.int 0))) (tVar 1)) (gSub (tVar 0) (tC (.int 0)) rSetL))
    (tRet (tVar 2)))) tNext)
    (tSeq (tAsg (tOp (rAddU K) (tOp (rIx K) (tVar 0) (tC (.int 2))) (tC (.int 1))) (gSub (tVar 0) (tC (.int 2)) rSetL))
    (tSeq (tAsg (tOp rModI (tCB (rIntU) (tCons (tOp (rAddU K) (tOp rPowI (tOp (rAddU K) (tOp (rIx K) (tVar 0) (tC (.int 1))) (tOp rMulU (tC (.int 7368787)) (tOp (rIx K) (tVar 0) (tC (.int 2))))) (tC (.int 2))) (tOp rMulU (tC (.int 131)) (tOp (rIx K) (tVar 0) (tC (.int 2))))) tNil)) (tOp (rAddU K) (tOp rPowI (tC (.int 10)) (tC (.int 27))) (tC (.int 103)))) (gName 3))
    (tSeq (tAsg (tOp rModI (tCB (rIntU) (tCons (tOp (rAddU K) (tOp (rAddU K) (tOp rMulU (tVar 3) (tVar 3)) (tOp (rIx K) (tVar 0) (tC (.int 1)))) (tC (.int 11))) tNil)) (tOp (rAddU K) (tOp rPowI (tC (.int 10)) (tC (.int 28))) (tC (.int 331)))) (gName 3))
    (tRet (tOp rModI (tCB (rIntU) (tCons (tOp rDivI (tVar 3) (tC (.int 6007))) tNil)) (tVar 1)))))))
theorem dv__law_draw {P : Program} {w : World} {K : PySem.W.Frag} {mg : Str → Option Value} {base : Heap} {f : Addr} {cdv : Value} {A : Around} {outer : List Env} {s : Shared} {H : Hp} {E : XK}
    (hr : Room 0 (A.deeper (envOfC "_law_draw" (defScope s__law_draw) s.heap.objs.size f cdv)))
    (hgd : (A.deeper (envOfC "_law_draw" (defScope s__law_draw) s.heap.objs.size f cdv)).guards = some [])
    (n_int : mg "int" = none) :
    PSs (cxOf CX0 P w K mg base n__law_draw "_law_draw" (defScope s__law_draw) f cdv A outer s H E).nox (defBody s__law_draw) (t__law_draw K) := by
  have S := sc__law_draw
  have hu : (A.deeper (envOfC "_law_draw" (defScope s__law_draw) s.heap.objs.size f cdv)).units + 64 < cLine := by have := hr.un; omega
  have hv : (A.deeper (envOfC "_law_draw" (defScope s__law_draw) s.heap.objs.size f cdv)).units + 65 < cLine := by have := hr.un; omega
  exact (pss_cons (ps_if (pt_cmpR op_gtU (pe_ix ix_seq (pv 0) pe_int (fun _ _ => rfl)) pe_int (nomark _)) (pss_cons (ps_asg (pe_op op_modU (pe_callTy call_intU (by rfl) n_int (by decide +kernel) (pa_cons (pe_ix ix_seq (pv 0) pe_int (fun _ _ => rfl)) pa_nil)) (pv 1)) (pg_name (i := 2) S.nd rfl (.inl rfl)))
      (pss_cons (ps_asg (pe_op op_divU (pe_ix ix_seq (pv 0) pe_int (fun _ _ => rfl)) (pv 1)) (pg_sub (pv 0) pe_int set_list))
      (pss_one (ps_ret (pv 2))))) pss_nil)
      (pss_cons (ps_asg (pe_op op_addU (pe_ix ix_seq (pv 0) pe_int (fun _ _ => rfl)) pe_int) (pg_sub (pv 0) pe_int set_list))
      (pss_cons (ps_asg (pe_op op_modU (pe_callTy call_intU (by rfl) n_int (by decide +kernel) (pa_cons (pe_op op_addU (pe_op op_powU (pe_op op_addU (pe_ix ix_seq (pv 0) pe_int (fun _ _ => rfl)) (pe_op op_mulU pe_int (pe_ix ix_seq (pv 0) pe_int (fun _ _ => rfl)))) pe_int) (pe_op op_mulU pe_int (pe_ix ix_seq (pv 0) pe_int (fun _ _ => rfl)))) pa_nil)) (pe_op op_addU (pe_op op_powU pe_int pe_int) pe_int)) (pg_name (i := 3) S.nd rfl (.inl rfl)))
      (pss_cons (ps_asg (pe_op op_modU (pe_callTy call_intU (by rfl) n_int (by decide +kernel) (pa_cons (pe_op op_addU (pe_op op_addU (pe_op op_mulU (pv 3) (pv 3)) (pe_ix ix_seq (pv 0) pe_int (fun _ _ => rfl))) pe_int) pa_nil)) (pe_op op_addU (pe_op op_powU pe_int pe_int) pe_int)) (pg_name (i := 3) S.nd rfl (.inl rfl)))
      (pss_one (ps_ret (pe_op op_modU (pe_callTy call_intU (by rfl) n_int (by decide +kernel) (pa_cons (pe_op op_divU (pv 3) pe_int) pa_nil)) (pv 1))))))))
def t__law_same (K : PySem.W.Frag) (n : Nat) : TS := (tSeq (tIfS (tOr (tTru K (tCB (rIsi K) (tCons (tVar 1) (tCons (tC (.ty "list")) tNil)))) (tTru K (tCB (rIsi K) (tCons (tVar 1) (tCons (tC (.ty "tuple")) tNil))))) (tSeq (tIfS (tOr (tTest (tOp (rNeU K) (tCB (rIsi K) (tCons (tVar 0) (tCons (tC (.ty "list")) tNil))) (tCB (rIsi K) (tCons (tVar 1) (tCons (tC (.ty "list")) tNil))))) (tTest (tOp (rNeU K) (tCB (rIsi K) (tCons (tVar 0) (tCons (tC (.ty "tuple")) tNil))) (tCB (rIsi K) (tCons (tVar 1) (tCons (tC (.ty "tuple")) tNil)))))) (tRet (tC (.bl false))) tNext)
    (tRet (tAndT K (tOp (rEqU K) (tCB (rLenU K) (tCons (tVar 0) tNil)) (tCB (rLenU K) (tCons (tVar 1) tNil))) (tCB (rAll K) (tCons (tLc (iRng1 (tCons (tCB (rLenU K) (tCons (tVar 1) tNil)) tNil)) (gName 2) tYes (tCallS (spD K (F__law_same n)) Ez (tCons (tOp (rIx K) (tVar 0) (tVar 2)) (tCons (tOp (rIx K) (tVar 1) (tVar 2)) tNil))) [2]) tNil))))) tNext)
    (tSeq (tIfS (tTru K (tCB (rIsi K) (tCons (tVar 1) (tCons (tC (.ty "bool")) tNil)))) (tRet (tAndT K (tCB (rIsi K) (tCons (tVar 0) (tCons (tC (.ty "bool")) tNil))) (tOp (rEqU K) (tVar 0) (tVar 1)))) tNext)
    (tSeq (tIfS (tTru K (tCB (rIsi K) (tCons (tVar 1) (tCons (tC (.ty "int")) tNil)))) (tRet (tAndT K (tCB (rIsi K) (tCons (tVar 0) (tCons (tC (.ty "int")) tNil))) (tAndT K (tNotT K (tCB (rIsi K) (tCons (tVar 0) (tCons (tC (.ty "bool")) tNil)))) (tOp (rEqU K) (tVar 0) (tVar 1))))) tNext)
    (tSeq (tIfS (tTru K (tCB (rIsi K) (tCons (tVar 1) (tCons (tC (.ty "str")) tNil)))) (tRet (tAndT K (tCB (rIsi K) (tCons (tVar 0) (tCons (tC (.ty "str")) tNil))) (tOp (rEqU K) (tVar 0) (tVar 1)))) tNext)
    (tRet (tAndT K (tOp (rIsU false) (tVar 0) (tC .non)) (tOp (rIsU false) (tVar 1) (tC .non))))))))
theorem dv__law_same {n : Nat} {P : Program} {w : World} {K : PySem.W.Frag} {mg : Str → Option Value} {base : Heap} {f : Addr} {cdv : Value} {A : Around} {outer : List Env} {s : Shared} {H : Hp} {E : XK}
    (hr : Room (n + 0) (A.deeper (envOfC "_law_same" (defScope s__law_same) s.heap.objs.size f cdv)))
    (hgd : (A.deeper (envOfC "_law_same" (defScope s__law_same) s.heap.objs.size f cdv)).guards = some [])
    (h__law_same : HasG P w K mg base CX0 "_law_same" p__law_same (n + 0) (spD K (F__law_same n)))
    (n_all : mg "all" = none)
    (n_bool : mg "bool" = none)
    (n_int : mg "int" = none)
    (n_isinstance : mg "isinstance" = none)
    (n_len : mg "len" = none)
    (n_list : mg "list" = none)
    (n_range : mg "range" = none)
    (n_str : mg "str" = none)
    (n_tuple : mg "tuple" = none) :
    PSs (cxOf CX0 P w K mg base n__law_same "_law_same" (defScope s__law_same) f cdv A outer s H E).nox (defBody s__law_same) (t__law_same K n) := by
  have S := sc__law_same
  have hu : (A.deeper (envOfC "_law_same" (defScope s__law_same) s.heap.objs.size f cdv)).units + 64 < cLine := by have := hr.un; omega
  have hv : (A.deeper (envOfC "_law_same" (defScope s__law_same) s.heap.objs.size f cdv)).units + 65 < cLine := by have := hr.un; omega
  exact (pss_cons (ps_if (PW.pt (pw_or (pt_tru (pe_callB call_isi (by rfl) n_isinstance (by decide +kernel) (pa_cons (pv 1) (pa_cons (pe_bltn (v := .ty "list") (by rfl) n_list (by decide +kernel) rfl) pa_nil)))) (pw_or1 (pt_tru (pe_callB call_isi (by rfl) n_isinstance (by decide +kernel) (pa_cons (pv 1) (pa_cons (pe_bltn (v := .ty "tuple") (by rfl) n_tuple (by decide +kernel) rfl) pa_nil))))))) (pss_cons (ps_if (PW.pt (pw_or (pt_cmpR (op_neU hu) (pe_callB call_isi (by rfl) n_isinstance (by decide +kernel) (pa_cons (pv 0) (pa_cons (pe_bltn (v := .ty "list") (by rfl) n_list (by decide +kernel) rfl) pa_nil))) (pe_callB call_isi (by rfl) n_isinstance (by decide +kernel) (pa_cons (pv 1) (pa_cons (pe_bltn (v := .ty "list") (by rfl) n_list (by decide +kernel) rfl) pa_nil))) (nomark _)) (pw_or1 (pt_cmpR (op_neU hu) (pe_callB call_isi (by rfl) n_isinstance (by decide +kernel) (pa_cons (pv 0) (pa_cons (pe_bltn (v := .ty "tuple") (by rfl) n_tuple (by decide +kernel) rfl) pa_nil))) (pe_callB call_isi (by rfl) n_isinstance (by decide +kernel) (pa_cons (pv 1) (pa_cons (pe_bltn (v := .ty "tuple") (by rfl) n_tuple (by decide +kernel) rfl) pa_nil))) (nomark _))))) (pss_one (ps_ret pe_bl)) pss_nil)
      (pss_one (ps_ret (pe_andT (pe_cmpR (op_eqU hu) (pe_callB call_lenU (by rfl) n_len (by decide +kernel) (pa_cons (pv 0) pa_nil)) (pe_callB call_lenU (by rfl) n_len (by decide +kernel) (pa_cons (pv 1) pa_nil)) (nomark _)) (pe_one (pe_callB (cr_all rfl) (by rfl) n_all (by decide +kernel) (pa_cons (pe_lc (own := [("at", 2)]) (g := (gName 2)) (tt := tYes) rfl S.nd (pi_range1 (by rfl) n_range (pa_cons (pe_callB call_lenU (by rfl) n_len (by decide +kernel) (pa_cons (pv 1) pa_nil)) pa_nil)) (blkOk_by (N := n__law_same) (sc := (defScope s__law_same)) (by decide +kernel)) (fun _ _ _ _ _ => (pg_name (i := 2) S.nd rfl (.inl rfl))) (fun _ _ _ _ _ => pts_nil) (fun _ _ _ _ _ => (pe_hG h__law_same (hr.mono (by omega)) hgd pz0 (pa_cons (pe_ix ix_seq (pv 0) (pv 2) (fun _ _ => rfl)) (pa_cons (pe_ix ix_seq (pv 1) (pv 2) (fun _ _ => rfl)) pa_nil))))) pa_nil))))))) pss_nil)
      (pss_cons (ps_if (pt_tru (pe_callB call_isi (by rfl) n_isinstance (by decide +kernel) (pa_cons (pv 1) (pa_cons (pe_bltn (v := .ty "bool") (by rfl) n_bool (by decide +kernel) rfl) pa_nil)))) (pss_one (ps_ret (pe_andT (pe_callB call_isi (by rfl) n_isinstance (by decide +kernel) (pa_cons (pv 0) (pa_cons (pe_bltn (v := .ty "bool") (by rfl) n_bool (by decide +kernel) rfl) pa_nil))) (pe_one (pe_cmpR (op_eqU hu) (pv 0) (pv 1) (nomark _)))))) pss_nil)
      (pss_cons (ps_if (pt_tru (pe_callB call_isi (by rfl) n_isinstance (by decide +kernel) (pa_cons (pv 1) (pa_cons (pe_bltn (v := .ty "int") (by rfl) n_int (by decide +kernel) rfl) pa_nil)))) (pss_one (ps_ret (pe_andT (pe_callB call_isi (by rfl) n_isinstance (by decide +kernel) (pa_cons (pv 0) (pa_cons (pe_bltn (v := .ty "int") (by rfl) n_int (by decide +kernel) rfl) pa_nil))) (pe_andT (pe_notT (pe_callB call_isi (by rfl) n_isinstance (by decide +kernel) (pa_cons (pv 0) (pa_cons (pe_bltn (v := .ty "bool") (by rfl) n_bool (by decide +kernel) rfl) pa_nil)))) (pe_one (pe_cmpR (op_eqU hu) (pv 0) (pv 1) (nomark _))))))) pss_nil)
      (pss_cons (ps_if (pt_tru (pe_callB call_isi (by rfl) n_isinstance (by decide +kernel) (pa_cons (pv 1) (pa_cons (pe_bltn (v := .ty "str") (by rfl) n_str (by decide +kernel) rfl) pa_nil)))) (pss_one (ps_ret (pe_andT (pe_callB call_isi (by rfl) n_isinstance (by decide +kernel) (pa_cons (pv 0) (pa_cons (pe_bltn (v := .ty "str") (by rfl) n_str (by decide +kernel) rfl) pa_nil))) (pe_one (pe_cmpR (op_eqU hu) (pv 0) (pv 1) (nomark _)))))) pss_nil)
      (pss_one (ps_ret (pe_andT (pe_cmpR op_isU (pv 0) pe_non (nomark _)) (pe_one (pe_cmpR op_isU (pv 1) pe_non (nomark _))))))))))
def t__law_integer (K : PySem.W.Frag) : TS := (tRet (tAndT K (tCB (rIsi K) (tCons (tVar 0) (tCons (tC (.ty "int")) tNil))) (tNotT K (tCB (rIsi K) (tCons (tVar 0) (tCons (tC (.ty "bool")) tNil))))))
theorem dv__law_integer {P : Program} {w : World} {K : PySem.W.Frag} {mg : Str → Option Value} {base : Heap} {f : Addr} {cdv : Value} {A : Around} {outer : List Env} {s : Shared} {H : Hp} {E : XK}
    (hr : Room 0 (A.deeper (envOfC "_law_integer" (defScope s__law_integer) s.heap.objs.size f cdv)))
    (hgd : (A.deeper (envOfC "_law_integer" (defScope s__law_integer) s.heap.objs.size f cdv)).guards = some [])
    (n_bool : mg "bool" = none)
    (n_int : mg "int" = none)
    (n_isinstance : mg "isinstance" = none) :
    PSs (cxOf CX0 P w K mg base n__law_integer "_law_integer" (defScope s__law_integer) f cdv A outer s H E).nox (defBody s__law_integer) (t__law_integer K) := by
  have S := sc__law_integer
  have hu : (A.deeper (envOfC "_law_integer" (defScope s__law_integer) s.heap.objs.size f cdv)).units + 64 < cLine := by have := hr.un; omega
  have hv : (A.deeper (envOfC "_law_integer" (defScope s__law_integer) s.heap.objs.size f cdv)).units + 65 < cLine := by have := hr.un; omega
  exact (pss_one (ps_ret (pe_andT (pe_callB call_isi (by rfl) n_isinstance (by decide +kernel) (pa_cons (pv 0) (pa_cons (pe_bltn (v := .ty "int") (by rfl) n_int (by decide +kernel) rfl) pa_nil))) (pe_one (pe_notT (pe_callB call_isi (by rfl) n_isinstance (by decide +kernel) (pa_cons (pv 0) (pa_cons (pe_bltn (v := .ty "bool") (by rfl) n_bool (by decide +kernel) rfl) pa_nil))))))))
def t__law_height (K : PySem.W.Frag) : TS := (tRet (tOp (rIx K) (tLst (tCons (tC .non) (tCons (tC (.int 0)) (tCons (tC (.int 1)) (tCons (tCallS (spD K F__law_draw) Ez (tCons (tVar 0) (tCons (tC (.int 5)) tNil))) (tCons (tCallS (spD K F__law_draw) Ez (tCons (tVar 0) (tCons (tC (.int 60)) tNil))) (tCons (tOp rPowI (tC (.int 10)) (tC (.int 6))) (tCons (tC .non) tNil)))))))) (tCallS (spD K F__law_draw) Ez (tCons (tVar 0) (tCons (tC (.int 7)) tNil)))))
theorem dv__law_height {P : Program} {w : World} {K : PySem.W.Frag} {mg : Str → Option Value} {base : Heap} {f : Addr} {cdv : Value} {A : Around} {outer : List Env} {s : Shared} {H : Hp} {E : XK}
    (hr : Room 1 (A.deeper (envOfC "_law_height" (defScope s__law_height) s.heap.objs.size f cdv)))
    (hgd : (A.deeper (envOfC "_law_height" (defScope s__law_height) s.heap.objs.size f cdv)).guards = some [])
    (h__law_draw : HasG P w K mg base CX0 "_law_draw" p__law_draw 1 (spD K F__law_draw)) :
    PSs (cxOf CX0 P w K mg base n__law_height "_law_height" (defScope s__law_height) f cdv A outer s H E).nox (defBody s__law_height) (t__law_height K) := by
  have S := sc__law_height
  have hu : (A.deeper (envOfC "_law_height" (defScope s__law_height) s.heap.objs.size f cdv)).units + 64 < cLine := by have := hr.un; omega
  have hv : (A.deeper (envOfC "_law_height" (defScope s__law_height) s.heap.objs.size f cdv)).units + 65 < cLine := by have := hr.un; omega
  exact (pss_one (ps_ret (pe_ix ix_seq (pe_lst (pa_cons pe_non (pa_cons pe_int (pa_cons pe_int (pa_cons (pe_hG h__law_draw (hr.mono (by decide)) hgd pz0 (pa_cons (pv 0) (pa_cons pe_int pa_nil))) (pa_cons (pe_hG h__law_draw (hr.mono (by decide)) hgd pz0 (pa_cons (pv 0) (pa_cons pe_int pa_nil))) (pa_cons (pe_op op_powU pe_int pe_int) (pa_cons pe_non pa_nil)))))))) (pe_hG h__law_draw (hr.mono (by decide)) hgd pz0 (pa_cons (pv 0) (pa_cons pe_int pa_nil))) (fun _ _ => rfl))))
def t__law_counted (K : PySem.W.Frag) : TS := (tRet (tIf (tTest (tOp (rIsU false) (tVar 0) (tC .non))) (tVar 1) (tVar 0)))
theorem dv__law_counted {P : Program} {w : World} {K : PySem.W.Frag} {mg : Str → Option Value} {base : Heap} {f : Addr} {cdv : Value} {A : Around} {outer : List Env} {s : Shared} {H : Hp} {E : XK}
    (hr : Room 0 (A.deeper (envOfC "_law_counted" (defScope s__law_counted) s.heap.objs.size f cdv)))
    (hgd : (A.deeper (envOfC "_law_counted" (defScope s__law_counted) s.heap.objs.size f cdv)).guards = some []) :
    PSs (cxOf CX0 P w K mg base n__law_counted "_law_counted" (defScope s__law_counted) f cdv A outer s H E).nox (defBody s__law_counted) (t__law_counted K) := by
  have S := sc__law_counted
  have hu : (A.deeper (envOfC "_law_counted" (defScope s__law_counted) s.heap.objs.size f cdv)).units + 64 < cLine := by have := hr.un; omega
  have hv : (A.deeper (envOfC "_law_counted" (defScope s__law_counted) s.heap.objs.size f cdv)).units + 65 < cLine := by have := hr.un; omega
  exact (pss_one (ps_ret (pe_ifExp (pt_cmpR op_isU (pv 0) pe_non (nomark _)) (pv 1) (pv 0))))
def t__law_before (K : PySem.W.Frag) : TS := (tRet (tCB (rSum K) (tCons (tLc (iSeq K (tSl (rSlU K) (tVar 0) tNoPart (tPart (tVar 2)))) (gName 3) tYes (tCallS (spD K F__law_counted) Ez (tCons (tVar 3) (tCons (tVar 1) tNil))) [3]) tNil)))
theorem dv__law_before {P : Program} {w : World} {K : PySem.W.Frag} {mg : Str → Option Value} {base : Heap} {f : Addr} {cdv : Value} {A : Around} {outer : List Env} {s : Shared} {H : Hp} {E : XK}
    (hr : Room 1 (A.deeper (envOfC "_law_before" (defScope s__law_before) s.heap.objs.size f cdv)))
    (hgd : (A.deeper (envOfC "_law_before" (defScope s__law_before) s.heap.objs.size f cdv)).guards = some [])
    (h__law_counted : HasG P w K mg base CX0 "_law_counted" p__law_counted 1 (spD K F__law_counted))
    (n_sum : mg "sum" = none) :
    PSs (cxOf CX0 P w K mg base n__law_before "_law_before" (defScope s__law_before) f cdv A outer s H E).nox (defBody s__law_before) (t__law_before K) := by
  have S := sc__law_before
  have hu : (A.deeper (envOfC "_law_before" (defScope s__law_before) s.heap.objs.size f cdv)).units + 64 < cLine := by have := hr.un; omega
  have hv : (A.deeper (envOfC "_law_before" (defScope s__law_before) s.heap.objs.size f cdv)).units + 65 < cLine := by have := hr.un; omega
  exact (pss_one (ps_ret (pe_callB (cr_sum rfl) (by rfl) n_sum (by decide +kernel) (pa_cons (pe_lc (own := [("height", 3)]) (g := (gName 3)) (tt := tYes) rfl S.nd (pi_seq (pe_slice sl_U (pv 0) po_none (po_some (pv 2)))) (blkOk_by (N := n__law_before) (sc := (defScope s__law_before)) (by decide +kernel)) (fun _ _ _ _ _ => (pg_name (i := 3) S.nd rfl (.inl rfl))) (fun _ _ _ _ _ => pts_nil) (fun _ _ _ _ _ => (pe_hG h__law_counted (hr.mono (by decide)) hgd pz0 (pa_cons (pv 3) (pa_cons (pv 1) pa_nil))))) pa_nil))))
def t__law_covering (K : PySem.W.Frag) : TS := (tSeq (tFor (iRng1 (tCons (tCB (rLenU K) (tCons (tVar 0) tNil)) tNil)) (gName 3) (tSeq (tAsg (tCallS (spD K F__law_before) Ez (tCons (tVar 0) (tCons (tVar 1) (tCons (tVar 3) tNil)))) (gName 4))
    (tIfS (tTest (tChain rLeI rLtU (tVar 4) (tVar 2) (tOp (rAddU K) (tVar 4) (tCallS (spD K F__law_counted) Ez (tCons (tOp (rIx K) (tVar 0) (tVar 3)) (tCons (tVar 1) tNil)))))) (tRet (tVar 3)) tNext)))
    (tRet (tC .non)))
theorem dv__law_covering {P : Program} {w : World} {K : PySem.W.Frag} {mg : Str → Option Value} {base : Heap} {f : Addr} {cdv : Value} {A : Around} {outer : List Env} {s : Shared} {H : Hp} {E : XK}
    (hr : Room 2 (A.deeper (envOfC "_law_covering" (defScope s__law_covering) s.heap.objs.size f cdv)))
    (hgd : (A.deeper (envOfC "_law_covering" (defScope s__law_covering) s.heap.objs.size f cdv)).guards = some [])
    (h__law_before : HasG P w K mg base CX0 "_law_before" p__law_before 2 (spD K F__law_before))
    (h__law_counted : HasG P w K mg base CX0 "_law_counted" p__law_counted 1 (spD K F__law_counted))
    (n_len : mg "len" = none)
    (n_range : mg "range" = none) :
    PSs (cxOf CX0 P w K mg base n__law_covering "_law_covering" (defScope s__law_covering) f cdv A outer s H E).nox (defBody s__law_covering) (t__law_covering K) := by
  have S := sc__law_covering
  have hu : (A.deeper (envOfC "_law_covering" (defScope s__law_covering) s.heap.objs.size f cdv)).units + 64 < cLine := by have := hr.un; omega
  have hv : (A.deeper (envOfC "_law_covering" (defScope s__law_covering) s.heap.objs.size f cdv)).units + 65 < cLine := by have := hr.un; omega
  exact (pss_cons (ps_for PassesOwn.never rfl (pi_range1 (by rfl) n_range (pa_cons (pe_callB call_lenU (by rfl) n_len (by decide +kernel) (pa_cons (pv 0) pa_nil)) pa_nil)) (pg_name (i := 3) S.nd rfl (.inl rfl)) (pss_cons (ps_asg (pe_hG h__law_before (hr.mono (by decide)) hgd pz0 (pa_cons (pv 0) (pa_cons (pv 1) (pa_cons (pv 3) pa_nil)))) (pg_name (i := 4) S.nd rfl (.inl rfl)))
      (pss_one (ps_if (pt_chain op_leU op_ltU (pv 4) (pv 2) (pe_op op_addU (pv 4) (pe_hG h__law_counted (hr.mono (by decide)) hgd pz0 (pa_cons (pe_ix ix_seq (pv 0) (pv 3) (fun _ _ => rfl)) (pa_cons (pv 1) pa_nil))))) (pss_one (ps_ret (pv 3))) pss_nil))))
      (pss_one (ps_ret pe_non)))
def t__law_tree_told (K : PySem.W.Frag) (n : Nat) : TS := (tSeq (tIfS (tTest (tOp (rIsU false) (tVar 1) (tC .non))) (tRet (tTup (tCons (tC (.int 0)) (tCons (tC (.int 0)) (tCons (tC (.int 0)) tNil))))) tNext)
    (tSeq (tIfS (tOr (tNot (tTru K (tCB (rIsi K) (tCons (tVar 1) (tCons (tC (.ty "tuple")) tNil))))) (tTest (tOp (rNeU K) (tCB (rLenU K) (tCons (tVar 1) tNil)) (tC (.int 5))))) (tRet (tC .non)) tNext)
    (tSeq (tPar 2 3 (tCons (tCallS (spD K (F__law_tree_told n)) Ez (tCons (tVar 0) (tCons (tOp (rIx K) (tVar 1) (tC (.int 0))) tNil))) (tCons (tCallS (spD K (F__law_tree_told n)) Ez (tCons (tVar 0) (tCons (tOp (rIx K) (tVar 1) (tC (.int 2))) tNil))) tNil)))
    (tSeq (tIfS (tOr (tTest (tOp (rIsU false) (tVar 2) (tC .non))) (tOr (tTest (tOp (rIsU false) (tVar 3) (tC .non))) (tTest (tOp rGtI (tCB (rAbsU) (tCons (tOp rSubI (tOp (rIx K) (tVar 2) (tC (.int 2))) (tOp (rIx K) (tVar 3) (tC (.int 2)))) tNil)) (tC (.int 1)))))) (tRet (tC .non)) tNext)
    (tSeq (tIfS (tAnd (tTest (tOp (rIsU true) (tOp (rIx K) (tVar 1) (tC (.int 1))) (tC .non))) (tOr (tNot (tTru K (tCallS (spD K F__law_integer) Ez (tCons (tOp (rIx K) (tVar 1) (tC (.int 1))) tNil)))) (tTest (tOp rLtU (tOp (rIx K) (tVar 1) (tC (.int 1))) (tC (.int 0)))))) (tRet (tC .non)) tNext)
    (tSeq (tAsg (tTup (tCons (tOp (rAddU K) (tOp (rAddU K) (tOp (rIx K) (tVar 2) (tC (.int 0))) (tC (.int 1))) (tOp (rIx K) (tVar 3) (tC (.int 0)))) (tCons (tOp (rAddU K) (tOp (rAddU K) (tOp (rIx K) (tVar 2) (tC (.int 1))) (tCallS (spD K F__law_counted) Ez (tCons (tOp (rIx K) (tVar 1) (tC (.int 1))) (tCons (tVar 0) tNil)))) (tOp (rIx K) (tVar 3) (tC (.int 1)))) tNil))) (gName 4))
    (tSeq (tIfS (tOr (tNot (tTru K (tCallS (spD K F__law_integer) Ez (tCons (tOp (rIx K) (tVar 1) (tC (.int 3))) tNil)))) (tOr (tNot (tTru K (tCallS (spD K F__law_integer) Ez (tCons (tOp (rIx K) (tVar 1) (tC (.int 4))) tNil)))) (tTest (tOp (rNeU K) (tVar 4) (tSl (rSlU K) (tVar 1) (tPart (tC (.int 3))) tNoPart))))) (tRet (tC .non)) tNext)
    (tRet (tOp (rAddU K) (tVar 4) (tTup (tCons (tOp (rAddU K) (tC (.int 1)) (tCB (rMaxU K) (tCons (tOp (rIx K) (tVar 2) (tC (.int 2))) (tCons (tOp (rIx K) (tVar 3) (tC (.int 2))) tNil)))) tNil)))))))))))
theorem dv__law_tree_told {n : Nat} {P : Program} {w : World} {K : PySem.W.Frag} {mg : Str → Option Value} {base : Heap} {f : Addr} {cdv : Value} {A : Around} {outer : List Env} {s : Shared} {H : Hp} {E : XK}
    (hr : Room (n + 1) (A.deeper (envOfC "_law_tree_told" (defScope s__law_tree_told) s.heap.objs.size f cdv)))
    (hgd : (A.deeper (envOfC "_law_tree_told" (defScope s__law_tree_told) s.heap.objs.size f cdv)).guards = some [])
    (h__law_counted : HasG P w K mg base CX0 "_law_counted" p__law_counted 1 (spD K F__law_counted))
    (h__law_integer : HasG P w K mg base CX0 "_law_integer" p__law_integer 1 (spD K F__law_integer))
    (h__law_tree_told : HasG P w K mg base CX0 "_law_tree_told" p__law_tree_told (n + 1) (spD K (F__law_tree_told n)))
    (n_abs : mg "abs" = none)
    (n_isinstance : mg "isinstance" = none)
    (n_len : mg "len" = none)
    (n_max : mg "max" = none)
    (n_tuple : mg "tuple" = none) :
    PSs (cxOf CX0 P w K mg base n__law_tree_told "_law_tree_told" (defScope s__law_tree_told) f cdv A outer s H E).nox (defBody s__law_tree_told) (t__law_tree_told K n) := by
  have S := sc__law_tree_told
  have hu : (A.deeper (envOfC "_law_tree_told" (defScope s__law_tree_told) s.heap.objs.size f cdv)).units + 64 < cLine := by have := hr.un; omega
  have hv : (A.deeper (envOfC "_law_tree_told" (defScope s__law_tree_told) s.heap.objs.size f cdv)).units + 65 < cLine := by have := hr.un; omega
  exact (pss_cons (ps_if (pt_cmpR op_isU (pv 1) pe_non (nomark _)) (pss_one (ps_ret (pe_tup (pa_cons pe_int (pa_cons pe_int (pa_cons pe_int pa_nil)))))) pss_nil)
      (pss_cons (ps_if (PW.pt (pw_or (pt_not (pt_tru (pe_callB call_isi (by rfl) n_isinstance (by decide +kernel) (pa_cons (pv 1) (pa_cons (pe_bltn (v := .ty "tuple") (by rfl) n_tuple (by decide +kernel) rfl) pa_nil))))) (pw_or1 (pt_cmpR (op_neU hu) (pe_callB call_lenU (by rfl) n_len (by decide +kernel) (pa_cons (pv 1) pa_nil)) pe_int (nomark _))))) (pss_one (ps_ret pe_non)) pss_nil)
      (pss_cons (ps_par (i := 2) (j := 3) (by rfl) S.nd rfl rfl (by decide) rfl rfl (pa_cons (pe_hG h__law_tree_told (hr.mono (by omega)) hgd pz0 (pa_cons (pv 0) (pa_cons (pe_ix ix_seq (pv 1) pe_int (fun _ _ => rfl)) pa_nil))) (pa_cons (pe_hG h__law_tree_told (hr.mono (by omega)) hgd pz0 (pa_cons (pv 0) (pa_cons (pe_ix ix_seq (pv 1) pe_int (fun _ _ => rfl)) pa_nil))) pa_nil)) (by rfl))
      (pss_cons (ps_if (PW.pt (pw_or (pt_cmpR op_isU (pv 2) pe_non (nomark _)) (pw_or (pt_cmpR op_isU (pv 3) pe_non (nomark _)) (pw_or1 (pt_cmpR op_gtU (pe_callB call_absU (by rfl) n_abs (by decide +kernel) (pa_cons (pe_op op_subU (pe_ix ix_seq (pv 2) pe_int (fun _ _ => rfl)) (pe_ix ix_seq (pv 3) pe_int (fun _ _ => rfl))) pa_nil)) pe_int (nomark _)))))) (pss_one (ps_ret pe_non)) pss_nil)
      (pss_cons (ps_if (PW.pt (pw_and (pt_cmpR op_isnU (pe_ix ix_seq (pv 1) pe_int (fun _ _ => rfl)) pe_non (nomark _)) (pw_and1 (PW.pt (pw_or (pt_not (pt_tru (pe_hG h__law_integer (hr.mono (by omega)) hgd pz0 (pa_cons (pe_ix ix_seq (pv 1) pe_int (fun _ _ => rfl)) pa_nil)))) (pw_or1 (pt_cmpR op_ltU (pe_ix ix_seq (pv 1) pe_int (fun _ _ => rfl)) pe_int (nomark _)))))))) (pss_one (ps_ret pe_non)) pss_nil)
      (pss_cons (ps_asg (pe_tup (pa_cons (pe_op op_addU (pe_op op_addU (pe_ix ix_seq (pv 2) pe_int (fun _ _ => rfl)) pe_int) (pe_ix ix_seq (pv 3) pe_int (fun _ _ => rfl))) (pa_cons (pe_op op_addU (pe_op op_addU (pe_ix ix_seq (pv 2) pe_int (fun _ _ => rfl)) (pe_hG h__law_counted (hr.mono (by omega)) hgd pz0 (pa_cons (pe_ix ix_seq (pv 1) pe_int (fun _ _ => rfl)) (pa_cons (pv 0) pa_nil)))) (pe_ix ix_seq (pv 3) pe_int (fun _ _ => rfl))) pa_nil))) (pg_name (i := 4) S.nd rfl (.inl rfl)))
      (pss_cons (ps_if (PW.pt (pw_or (pt_not (pt_tru (pe_hG h__law_integer (hr.mono (by omega)) hgd pz0 (pa_cons (pe_ix ix_seq (pv 1) pe_int (fun _ _ => rfl)) pa_nil)))) (pw_or (pt_not (pt_tru (pe_hG h__law_integer (hr.mono (by omega)) hgd pz0 (pa_cons (pe_ix ix_seq (pv 1) pe_int (fun _ _ => rfl)) pa_nil)))) (pw_or1 (pt_cmpR (op_neU hu) (pv 4) (pe_slice sl_U (pv 1) (po_some pe_int) po_none) (nomark _)))))) (pss_one (ps_ret pe_non)) pss_nil)
      (pss_one (ps_ret (pe_op op_addU (pv 4) (pe_tup (pa_cons (pe_op op_addU pe_int (pe_callB (call_maxU rfl) (by rfl) n_max (by decide +kernel) (pa_cons (pe_ix ix_seq (pv 2) pe_int (fun _ _ => rfl)) (pa_cons (pe_ix ix_seq (pv 3) pe_int (fun _ _ => rfl)) pa_nil)))) pa_nil))))))))))))
def t__law_tree_rows (K : PySem.W.Frag) (n : Nat) : TS := (tRet (tIf (tTest (tOp (rIsU false) (tVar 0) (tC .non))) (tLst tNil) (tOp (rAddU K) (tOp (rAddU K) (tCallS (spD K (F__law_tree_rows n)) Ez (tCons (tOp (rIx K) (tVar 0) (tC (.int 0))) tNil)) (tLst (tCons (tOp (rIx K) (tVar 0) (tC (.int 1))) tNil))) (tCallS (spD K (F__law_tree_rows n)) Ez (tCons (tOp (rIx K) (tVar 0) (tC (.int 2))) tNil)))))
theorem dv__law_tree_rows {n : Nat} {P : Program} {w : World} {K : PySem.W.Frag} {mg : Str → Option Value} {base : Heap} {f : Addr} {cdv : Value} {A : Around} {outer : List Env} {s : Shared} {H : Hp} {E : XK}
    (hr : Room (n + 0) (A.deeper (envOfC "_law_tree_rows" (defScope s__law_tree_rows) s.heap.objs.size f cdv)))
    (hgd : (A.deeper (envOfC "_law_tree_rows" (defScope s__law_tree_rows) s.heap.objs.size f cdv)).guards = some [])
    (h__law_tree_rows : HasG P w K mg base CX0 "_law_tree_rows" p__law_tree_rows (n + 0) (spD K (F__law_tree_rows n))) :
    PSs (cxOf CX0 P w K mg base n__law_tree_rows "_law_tree_rows" (defScope s__law_tree_rows) f cdv A outer s H E).nox (defBody s__law_tree_rows) (t__law_tree_rows K n) := by
  have S := sc__law_tree_rows
  have hu : (A.deeper (envOfC "_law_tree_rows" (defScope s__law_tree_rows) s.heap.objs.size f cdv)).units + 64 < cLine := by have := hr.un; omega
  have hv : (A.deeper (envOfC "_law_tree_rows" (defScope s__law_tree_rows) s.heap.objs.size f cdv)).units + 65 < cLine := by have := hr.un; omega
  exact (pss_one (ps_ret (pe_ifExp (pt_cmpR op_isU (pv 0) pe_non (nomark _)) (pe_lst pa_nil) (pe_op op_addU (pe_op op_addU (pe_hG h__law_tree_rows (hr.mono (by omega)) hgd pz0 (pa_cons (pe_ix ix_seq (pv 0) pe_int (fun _ _ => rfl)) pa_nil)) (pe_lst (pa_cons (pe_ix ix_seq (pv 0) pe_int (fun _ _ => rfl)) pa_nil))) (pe_hG h__law_tree_rows (hr.mono (by omega)) hgd pz0 (pa_cons (pe_ix ix_seq (pv 0) pe_int (fun _ _ => rfl)) pa_nil))))))
def t_Heights_total (K : PySem.W.Frag) : TS := (tRet (tCallS (spD K F_total_of) Ez (tCons (tFld K (tVar 0) "root") tNil)))
theorem dv_Heights_total {P : Program} {w : World} {K : PySem.W.Frag} {mg : Str → Option Value} {base : Heap} {f : Addr} {cdv : Value} {A : Around} {outer : List Env} {s : Shared} {H : Hp} {E : XK}
    (hr : Room 1 (A.deeper (envOfC "Heights.total" (defScope s_Heights_total) s.heap.objs.size f cdv)))
    (hgd : (A.deeper (envOfC "Heights.total" (defScope s_Heights_total) s.heap.objs.size f cdv)).guards = some [])
    (h_total_of : HasG P w K mg base CX0 "total_of" p_total_of 1 (spD K F_total_of)) :
    PSs (cxOf CX0 P w K mg base n_Heights_total "Heights.total" (defScope s_Heights_total) f cdv A outer s H E).nox (defBody s_Heights_total) (t_Heights_total K) := by
  have S := sc_Heights_total
  have hu : (A.deeper (envOfC "Heights.total" (defScope s_Heights_total) s.heap.objs.size f cdv)).units + 64 < cLine := by have := hr.un; omega
  have hv : (A.deeper (envOfC "Heights.total" (defScope s_Heights_total) s.heap.objs.size f cdv)).units + 65 < cLine := by have := hr.un; omega
  exact (pss_one (ps_ret (pe_hG h_total_of (hr.mono (by decide)) hgd pz0 (pa_cons (pe_fld (pv 0) (by rfl)) pa_nil))))
def t_Heights_row_at (K : PySem.W.Frag) : TS := (tRet (tIf (tTest (tChain rLeI rLtU (tC (.int 0)) (tVar 1) (tMethX K "Heights" "total" (spD K F_Heights_total) Ez (tVar 0) tNil))) (tCallS (spD K (F_covering 60)) Ez (tCons (tFld K (tVar 0) "root") (tCons (tVar 1) (tCons (tFld K (tVar 0) "guess") tNil)))) (tC .non)))
theorem dv_Heights_row_at {P : Program} {w : World} {K : PySem.W.Frag} {mg : Str → Option Value} {base : Heap} {f : Addr} {cdv : Value} {A : Around} {outer : List Env} {s : Shared} {H : Hp} {E : XK}
    (hr : Room 61 (A.deeper (envOfC "Heights.row_at" (defScope s_Heights_row_at) s.heap.objs.size f cdv)))
    (hgd : (A.deeper (envOfC "Heights.row_at" (defScope s_Heights_row_at) s.heap.objs.size f cdv)).guards = some [])
    (h_Heights_total : HasM P w K mg base CX0 "Heights" "total" p_Heights_total 2 (spD K F_Heights_total))
    (h_covering : HasG P w K mg base CX0 "covering" p_covering 61 (spD K (F_covering 60))) :
    PSs (cxOf CX0 P w K mg base n_Heights_row_at "Heights.row_at" (defScope s_Heights_row_at) f cdv A outer s H E).nox (defBody s_Heights_row_at) (t_Heights_row_at K) := by
  have S := sc_Heights_row_at
  have hu : (A.deeper (envOfC "Heights.row_at" (defScope s_Heights_row_at) s.heap.objs.size f cdv)).units + 64 < cLine := by have := hr.un; omega
  have hv : (A.deeper (envOfC "Heights.row_at" (defScope s_Heights_row_at) s.heap.objs.size f cdv)).units + 65 < cLine := by have := hr.un; omega
  exact (pss_one (ps_ret (pe_ifExp (pt_chain op_leU op_ltU pe_int (pv 1) (pe_hM0 h_Heights_total (hr.mono (by decide)) hgd pz0 (pv 0))) (pe_hG h_covering (hr.mono (by decide)) hgd pz0 (pa_cons (pe_fld (pv 0) (by rfl)) (pa_cons (pv 1) (pa_cons (pe_fld (pv 0) (by rfl)) pa_nil)))) pe_non)))
def t_Heights_need_index (K : PySem.W.Frag) (xw : L2.WX) : TS := (tIfS (tNot (tTest (tChain rLeI rLtU (tC (.int 0)) (tVar 1) (tVar 2)))) (tRaiseE K "InvalidIndex" xw (tCons (tVar 1) tNil)) tNext)
theorem dv_Heights_need_index {P : Program} {w : World} {K : PySem.W.Frag} {mg : Str → Option Value} {base : Heap} {f : Addr} {cdv : Value} {A : Around} {outer : List Env} {s : Shared} {H : Hp} {E : XK}
    (hr : Room 0 (A.deeper (envOfC "Heights.need_index" (defScope s_Heights_need_index) s.heap.objs.size f cdv)))
    (hgd : (A.deeper (envOfC "Heights.need_index" (defScope s_Heights_need_index) s.heap.objs.size f cdv)).guards = some [])
    (e_InvalidIndex : IsErr P K mg "InvalidIndex") :
    PSs (cxOf (L2.CX P w) P w K mg base n_Heights_need_index "Heights.need_index" (defScope s_Heights_need_index) f cdv A outer s H E) (defBody s_Heights_need_index) (t_Heights_need_index K fun c d _ H => E c d H) := by
  have S := sc_Heights_need_index
  have hu : (A.deeper (envOfC "Heights.need_index" (defScope s_Heights_need_index) s.heap.objs.size f cdv)).units + 64 < cLine := by have := hr.un; omega
  have hv : (A.deeper (envOfC "Heights.need_index" (defScope s_Heights_need_index) s.heap.objs.size f cdv)).units + 65 < cLine := by have := hr.un; omega
  let xw : L2.WX := fun c d _ H => E c d H
  exact (pss_one (ps_if (pt_not (pt_chain op_leU op_ltU pe_int (pv 1) (pv 2))) (pss_one (ps_raiseE rfl e_InvalidIndex hr (takes_of rfl rfl rfl rfl) (pa_cons (pv 1) pa_nil))) pss_nil))
def t_Heights_height (K : PySem.W.Frag) (xw : L2.WX) : TS := (tSeq (tDrop (tMethX K "Heights" "need_index" (spX K F_Heights_need_index) (WE xw) (tVar 0) (tCons (tVar 1) (tCons (tFld K (tVar 0) "many") tNil))))
    (tRet (tCallS (spD K (F_height_at 60)) Ez (tCons (tFld K (tVar 0) "root") (tCons (tVar 1) tNil)))))
theorem dv_Heights_height {P : Program} {w : World} {K : PySem.W.Frag} {mg : Str → Option Value} {base : Heap} {f : Addr} {cdv : Value} {A : Around} {outer : List Env} {s : Shared} {H : Hp} {E : XK}
    (hr : Room 61 (A.deeper (envOfC "Heights.height" (defScope s_Heights_height) s.heap.objs.size f cdv)))
    (hgd : (A.deeper (envOfC "Heights.height" (defScope s_Heights_height) s.heap.objs.size f cdv)).guards = some [])
    (h_Heights_need_index : HasM P w K mg base (L2.CX P w) "Heights" "need_index" p_Heights_need_index 1 (spX K F_Heights_need_index))
    (h_height_at : HasG P w K mg base CX0 "height_at" p_height_at 61 (spD K (F_height_at 60))) :
    PSs (cxOf (L2.CX P w) P w K mg base n_Heights_height "Heights.height" (defScope s_Heights_height) f cdv A outer s H E) (defBody s_Heights_height) (t_Heights_height K fun c d _ H => E c d H) := by
  have S := sc_Heights_height
  have hu : (A.deeper (envOfC "Heights.height" (defScope s_Heights_height) s.heap.objs.size f cdv)).units + 64 < cLine := by have := hr.un; omega
  have hv : (A.deeper (envOfC "Heights.height" (defScope s_Heights_height) s.heap.objs.size f cdv)).units + 65 < cLine := by have := hr.un; omega
  let xw : L2.WX := fun c d _ H => E c d H
  exact (pss_cons (ps_expr (pe_hM h_Heights_need_index (hr.mono (by decide)) hgd (fun σ => passAt (takes_of rfl rfl rfl rfl) σ) (pv 0) (pa_cons (pv 1) (pa_cons (pe_fld (pv 0) (by rfl)) pa_nil))))
      (pss_one (ps_ret (pe_hG h_height_at (hr.mono (by decide)) hgd pz0 (pa_cons (pe_fld (pv 0) (by rfl)) (pa_cons (pv 1) pa_nil))))))
def t_Heights_offset (K : PySem.W.Frag) (xw : L2.WX) : TS := (tSeq (tDrop (tMethX K "Heights" "need_index" (spX K F_Heights_need_index) (WE xw) (tVar 0) (tCons (tVar 1) (tCons (tOp (rAddU K) (tFld K (tVar 0) "many") (tC (.int 1))) tNil))))
    (tRet (tCallS (spD K (F_offset_of 60)) Ez (tCons (tFld K (tVar 0) "root") (tCons (tVar 1) (tCons (tFld K (tVar 0) "guess") tNil))))))
theorem dv_Heights_offset {P : Program} {w : World} {K : PySem.W.Frag} {mg : Str → Option Value} {base : Heap} {f : Addr} {cdv : Value} {A : Around} {outer : List Env} {s : Shared} {H : Hp} {E : XK}
    (hr : Room 61 (A.deeper (envOfC "Heights.offset" (defScope s_Heights_offset) s.heap.objs.size f cdv)))
    (hgd : (A.deeper (envOfC "Heights.offset" (defScope s_Heights_offset) s.heap.objs.size f cdv)).guards = some [])
    (h_Heights_need_index : HasM P w K mg base (L2.CX P w) "Heights" "need_index" p_Heights_need_index 1 (spX K F_Heights_need_index))
    (h_offset_of : HasG P w K mg base CX0 "offset_of" p_offset_of 61 (spD K (F_offset_of 60))) :
    PSs (cxOf (L2.CX P w) P w K mg base n_Heights_offset "Heights.offset" (defScope s_Heights_offset) f cdv A outer s H E) (defBody s_Heights_offset) (t_Heights_offset K fun c d _ H => E c d H) := by
  have S := sc_Heights_offset
  have hu : (A.deeper (envOfC "Heights.offset" (defScope s_Heights_offset) s.heap.objs.size f cdv)).units + 64 < cLine := by have := hr.un; omega
  have hv : (A.deeper (envOfC "Heights.offset" (defScope s_Heights_offset) s.heap.objs.size f cdv)).units + 65 < cLine := by have := hr.un; omega
  let xw : L2.WX := fun c d _ H => E c d H
  exact (pss_cons (ps_expr (pe_hM h_Heights_need_index (hr.mono (by decide)) hgd (fun σ => passAt (takes_of rfl rfl rfl rfl) σ) (pv 0) (pa_cons (pv 1) (pa_cons (pe_op op_addU (pe_fld (pv 0) (by rfl)) pe_int) pa_nil))))
      (pss_one (ps_ret (pe_hG h_offset_of (hr.mono (by decide)) hgd pz0 (pa_cons (pe_fld (pv 0) (by rfl)) (pa_cons (pv 1) (pa_cons (pe_fld (pv 0) (by rfl)) pa_nil)))))))
def t_Heights_known (K : PySem.W.Frag) : TS := (tRet (tFld K (tVar 0) "known_ones"))
theorem dv_Heights_known {P : Program} {w : World} {K : PySem.W.Frag} {mg : Str → Option Value} {base : Heap} {f : Addr} {cdv : Value} {A : Around} {outer : List Env} {s : Shared} {H : Hp} {E : XK}
    (hr : Room 0 (A.deeper (envOfC "Heights.known" (defScope s_Heights_known) s.heap.objs.size f cdv)))
    (hgd : (A.deeper (envOfC "Heights.known" (defScope s_Heights_known) s.heap.objs.size f cdv)).guards = some []) :
    PSs (cxOf CX0 P w K mg base n_Heights_known "Heights.known" (defScope s_Heights_known) f cdv A outer s H E).nox (defBody s_Heights_known) (t_Heights_known K) := by
  have S := sc_Heights_known
  have hu : (A.deeper (envOfC "Heights.known" (defScope s_Heights_known) s.heap.objs.size f cdv)).units + 64 < cLine := by have := hr.un; omega
  have hv : (A.deeper (envOfC "Heights.known" (defScope s_Heights_known) s.heap.objs.size f cdv)).units + 65 < cLine := by have := hr.un; omega
  exact (pss_one (ps_ret (pe_fld (pv 0) (by rfl))))
def t_Heights_all_heights (K : PySem.W.Frag) : TS := (tRet (tCallS (spD K (F_heights_of 60)) Ez (tCons (tFld K (tVar 0) "root") tNil)))
theorem dv_Heights_all_heights {P : Program} {w : World} {K : PySem.W.Frag} {mg : Str → Option Value} {base : Heap} {f : Addr} {cdv : Value} {A : Around} {outer : List Env} {s : Shared} {H : Hp} {E : XK}
    (hr : Room 60 (A.deeper (envOfC "Heights.all_heights" (defScope s_Heights_all_heights) s.heap.objs.size f cdv)))
    (hgd : (A.deeper (envOfC "Heights.all_heights" (defScope s_Heights_all_heights) s.heap.objs.size f cdv)).guards = some [])
    (h_heights_of : HasG P w K mg base CX0 "heights_of" p_heights_of 60 (spD K (F_heights_of 60))) :
    PSs (cxOf CX0 P w K mg base n_Heights_all_heights "Heights.all_heights" (defScope s_Heights_all_heights) f cdv A outer s H E).nox (defBody s_Heights_all_heights) (t_Heights_all_heights K) := by
  have S := sc_Heights_all_heights
  have hu : (A.deeper (envOfC "Heights.all_heights" (defScope s_Heights_all_heights) s.heap.objs.size f cdv)).units + 64 < cLine := by have := hr.un; omega
  have hv : (A.deeper (envOfC "Heights.all_heights" (defScope s_Heights_all_heights) s.heap.objs.size f cdv)).units + 65 < cLine := by have := hr.un; omega
  exact (pss_one (ps_ret (pe_hG h_heights_of (hr.mono (by decide)) hgd pz0 (pa_cons (pe_fld (pv 0) (by rfl)) pa_nil))))
def t_Heights___len__ (K : PySem.W.Frag) : TS := (tRet (tCB (rLenU K) (tCons (tMethX K "Heights" "all_heights" (spD K F_Heights_all_heights) Ez (tVar 0) tNil) tNil)))
theorem dv_Heights___len__ {P : Program} {w : World} {K : PySem.W.Frag} {mg : Str → Option Value} {base : Heap} {f : Addr} {cdv : Value} {A : Around} {outer : List Env} {s : Shared} {H : Hp} {E : XK}
    (hr : Room 61 (A.deeper (envOfC "Heights.__len__" (defScope s_Heights___len__) s.heap.objs.size f cdv)))
    (hgd : (A.deeper (envOfC "Heights.__len__" (defScope s_Heights___len__) s.heap.objs.size f cdv)).guards = some [])
    (h_Heights_all_heights : HasM P w K mg base CX0 "Heights" "all_heights" p_Heights_all_heights 61 (spD K F_Heights_all_heights))
    (n_len : mg "len" = none) :
    PSs (cxOf CX0 P w K mg base n_Heights___len__ "Heights.__len__" (defScope s_Heights___len__) f cdv A outer s H E).nox (defBody s_Heights___len__) (t_Heights___len__ K) := by
  have S := sc_Heights___len__
  have hu : (A.deeper (envOfC "Heights.__len__" (defScope s_Heights___len__) s.heap.objs.size f cdv)).units + 64 < cLine := by have := hr.un; omega
  have hv : (A.deeper (envOfC "Heights.__len__" (defScope s_Heights___len__) s.heap.objs.size f cdv)).units + 65 < cLine := by have := hr.un; omega
  exact (pss_one (ps_ret (pe_callB call_lenU (by rfl) n_len (by decide +kernel) (pa_cons (pe_hM0 h_Heights_all_heights (hr.mono (by decide)) hgd pz0 (pv 0)) pa_nil))))
def t__law_looks_right (K : PySem.W.Frag) : TS := (tSeq (tAsg (tCallS (spD K F__law_before) Ez (tCons (tVar 3) (tCons (tVar 2) (tCons (tCB (rLenU K) (tCons (tVar 3) tNil)) tNil)))) (gName 4))
    (tSeq (tAsg (tCB (rLenU K) (tCons (tLc (iSeq K (tVar 3)) (gName 9) (tTest (tOp (rIsU true) (tVar 9) (tC .non))) (tVar 9) [9]) tNil)) (gName 5))
    (tSeq (tIfS (tNot (tTru K (tCallS (spD K (F__law_same 60)) Ez (tCons (tLst (tCons (tCB (rLenO K "Heights" (spD K F_Heights___len__)) (tCons (tVar 1) tNil)) (tCons (tMethX K "Heights" "total" (spD K F_Heights_total) Ez (tVar 1) tNil) (tCons (tMethX K "Heights" "known" (spD K F_Heights_known) Ez (tVar 1) tNil) tNil)))) (tCons (tLst (tCons (tCB (rLenU K) (tCons (tVar 3) tNil)) (tCons (tVar 4) (tCons (tVar 5) tNil)))) tNil))))) (tRet (tC (.bl false))) tNext)
    (tSeq (tFor (iRng1 (tCons (tC (.int 3)) tNil)) (gName 6) (tSeq (tAsg (tCallS (spD K F__law_draw) Ez (tCons (tVar 0) (tCons (tOp (rAddU K) (tCB (rLenU K) (tCons (tVar 3) tNil)) (tC (.int 1))) tNil))) (gName 7))
    (tSeq (tIfS (tNot (tTru K (tCallS (spD K (F__law_same 60)) Ez (tCons (tMethX K "Heights" "offset" (spX K F_Heights_offset) Ez (tVar 1) (tCons (tVar 7) tNil)) (tCons (tCallS (spD K F__law_before) Ez (tCons (tVar 3) (tCons (tVar 2) (tCons (tVar 7) tNil)))) tNil))))) (tRet (tC (.bl false))) tNext)
    (tSeq (tIfS (tAnd (tTest (tOp rLtU (tVar 7) (tCB (rLenU K) (tCons (tVar 3) tNil)))) (tNot (tTru K (tCallS (spD K (F__law_same 60)) Ez (tCons (tMethX K "Heights" "height" (spX K F_Heights_height) Ez (tVar 1) (tCons (tVar 7) tNil)) (tCons (tOp (rIx K) (tVar 3) (tVar 7)) tNil)))))) (tRet (tC (.bl false))) tNext)
    (tSeq (tAsg (tOp rSubI (tOp (rAddU K) (tCallS (spD K F__law_before) Ez (tCons (tVar 3) (tCons (tVar 2) (tCons (tVar 7) tNil)))) (tCallS (spD K F__law_draw) Ez (tCons (tVar 0) (tCons (tC (.int 5)) tNil)))) (tC (.int 2))) (gName 8))
    (tIfS (tNot (tTru K (tCallS (spD K (F__law_same 60)) Ez (tCons (tMethX K "Heights" "row_at" (spD K F_Heights_row_at) Ez (tVar 1) (tCons (tVar 8) tNil)) (tCons (tCallS (spD K F__law_covering) Ez (tCons (tVar 3) (tCons (tVar 2) (tCons (tVar 8) tNil)))) tNil))))) (tRet (tC (.bl false))) tNext))))))
    (tRet (tCallS (spD K (F__law_same 60)) Ez (tCons (tLst (tCons (tMethX K "Heights" "row_at" (spD K F_Heights_row_at) Ez (tVar 1) (tCons (tUn (rU fun i => .int (-i)) (tC (.int 1))) tNil)) (tCons (tMethX K "Heights" "row_at" (spD K F_Heights_row_at) Ez (tVar 1) (tCons (tVar 4) tNil)) tNil))) (tCons (tLst (tCons (tC .non) (tCons (tC .non) tNil))) tNil))))))))
theorem dv__law_looks_right {P : Program} {w : World} {K : PySem.W.Frag} {mg : Str → Option Value} {base : Heap} {f : Addr} {cdv : Value} {A : Around} {outer : List Env} {s : Shared} {H : Hp} {E : XK}
    (hr : Room 63 (A.deeper (envOfC "_law_looks_right" (defScope s__law_looks_right) s.heap.objs.size f cdv)))
    (hgd : (A.deeper (envOfC "_law_looks_right" (defScope s__law_looks_right) s.heap.objs.size f cdv)).guards = some [])
    (h_Heights___len__ : HasM P w K mg base CX0 "Heights" "__len__" p_Heights___len__ 62 (spD K F_Heights___len__))
    (h_Heights_height : HasM P w K mg base (L2.CX P w) "Heights" "height" p_Heights_height 62 (spX K F_Heights_height))
    (h_Heights_known : HasM P w K mg base CX0 "Heights" "known" p_Heights_known 1 (spD K F_Heights_known))
    (h_Heights_offset : HasM P w K mg base (L2.CX P w) "Heights" "offset" p_Heights_offset 62 (spX K F_Heights_offset))
    (h_Heights_row_at : HasM P w K mg base CX0 "Heights" "row_at" p_Heights_row_at 62 (spD K F_Heights_row_at))
    (h_Heights_total : HasM P w K mg base CX0 "Heights" "total" p_Heights_total 2 (spD K F_Heights_total))
    (h__law_before : HasG P w K mg base CX0 "_law_before" p__law_before 2 (spD K F__law_before))
    (h__law_covering : HasG P w K mg base CX0 "_law_covering" p__law_covering 3 (spD K F__law_covering))
    (h__law_draw : HasG P w K mg base CX0 "_law_draw" p__law_draw 1 (spD K F__law_draw))
    (h__law_same : HasG P w K mg base CX0 "_law_same" p__law_same 60 (spD K (F__law_same 60)))
    (n_len : mg "len" = none)
    (n_range : mg "range" = none) :
    PSs (cxOf CX0 P w K mg base n__law_looks_right "_law_looks_right" (defScope s__law_looks_right) f cdv A outer s H E).nox (defBody s__law_looks_right) (t__law_looks_right K) := by
  have S := sc__law_looks_right
  have hu : (A.deeper (envOfC "_law_looks_right" (defScope s__law_looks_right) s.heap.objs.size f cdv)).units + 64 < cLine := by have := hr.un; omega
  have hv : (A.deeper (envOfC "_law_looks_right" (defScope s__law_looks_right) s.heap.objs.size f cdv)).units + 65 < cLine := by have := hr.un; omega
  exact (pss_cons (ps_asg (pe_hG h__law_before (hr.mono (by decide)) hgd pz0 (pa_cons (pv 3) (pa_cons (pv 2) (pa_cons (pe_callB call_lenU (by rfl) n_len (by decide +kernel) (pa_cons (pv 3) pa_nil)) pa_nil)))) (pg_name (i := 4) S.nd rfl (.inl rfl)))
      (pss_cons (ps_asg (pe_callB call_lenU (by rfl) n_len (by decide +kernel) (pa_cons (pe_lc (own := [("height", 9)]) (g := (gName 9)) (tt := (tTest (tOp (rIsU true) (tVar 9) (tC .non)))) rfl S.nd (pi_seq (pv 3)) (blkOk_by (N := n__law_looks_right) (sc := (defScope s__law_looks_right)) (by decide +kernel)) (fun _ _ _ _ _ => (pg_name (i := 9) S.nd rfl (.inl rfl))) (fun _ _ _ _ _ => (pts_one (pt_cmpR op_isnU (pv 9) pe_non (nomark _)))) (fun _ _ _ _ _ => (pv 9))) pa_nil)) (pg_name (i := 5) S.nd rfl (.inl rfl)))
      (pss_cons (ps_if (pt_not (pt_tru (pe_hG h__law_same (hr.mono (by decide)) hgd pz0 (pa_cons (pe_lst (pa_cons (pe_callB (call_lenO h_Heights___len__ (hr.mono (by decide)) hgd) (by rfl) n_len (by decide +kernel) (pa_cons (pv 1) pa_nil)) (pa_cons (pe_hM0 h_Heights_total (hr.mono (by decide)) hgd pz0 (pv 1)) (pa_cons (pe_hM0 h_Heights_known (hr.mono (by decide)) hgd pz0 (pv 1)) pa_nil)))) (pa_cons (pe_lst (pa_cons (pe_callB call_lenU (by rfl) n_len (by decide +kernel) (pa_cons (pv 3) pa_nil)) (pa_cons (pv 4) (pa_cons (pv 5) pa_nil)))) pa_nil))))) (pss_one (ps_ret pe_bl)) pss_nil)
      (pss_cons (ps_for PassesOwn.never rfl (pi_range1 (by rfl) n_range (pa_cons pe_int pa_nil)) (pg_name (i := 6) S.nd rfl (.inl rfl)) (pss_cons (ps_asg (pe_hG h__law_draw (hr.mono (by decide)) hgd pz0 (pa_cons (pv 0) (pa_cons (pe_op op_addU (pe_callB call_lenU (by rfl) n_len (by decide +kernel) (pa_cons (pv 3) pa_nil)) pe_int) pa_nil))) (pg_name (i := 7) S.nd rfl (.inl rfl)))
      (pss_cons (ps_if (pt_not (pt_tru (pe_hG h__law_same (hr.mono (by decide)) hgd pz0 (pa_cons (pe_hM h_Heights_offset (hr.mono (by decide)) hgd pzL (pv 1) (pa_cons (pv 7) pa_nil)) (pa_cons (pe_hG h__law_before (hr.mono (by decide)) hgd pz0 (pa_cons (pv 3) (pa_cons (pv 2) (pa_cons (pv 7) pa_nil)))) pa_nil))))) (pss_one (ps_ret pe_bl)) pss_nil)
      (pss_cons (ps_if (PW.pt (pw_and (pt_cmpR op_ltU (pv 7) (pe_callB call_lenU (by rfl) n_len (by decide +kernel) (pa_cons (pv 3) pa_nil)) (nomark _)) (pw_and1 (pt_not (pt_tru (pe_hG h__law_same (hr.mono (by decide)) hgd pz0 (pa_cons (pe_hM h_Heights_height (hr.mono (by decide)) hgd pzL (pv 1) (pa_cons (pv 7) pa_nil)) (pa_cons (pe_ix ix_seq (pv 3) (pv 7) (fun _ _ => rfl)) pa_nil)))))))) (pss_one (ps_ret pe_bl)) pss_nil)
      (pss_cons (ps_asg (pe_op op_subU (pe_op op_addU (pe_hG h__law_before (hr.mono (by decide)) hgd pz0 (pa_cons (pv 3) (pa_cons (pv 2) (pa_cons (pv 7) pa_nil)))) (pe_hG h__law_draw (hr.mono (by decide)) hgd pz0 (pa_cons (pv 0) (pa_cons pe_int pa_nil)))) pe_int) (pg_name (i := 8) S.nd rfl (.inl rfl)))
      (pss_one (ps_if (pt_not (pt_tru (pe_hG h__law_same (hr.mono (by decide)) hgd pz0 (pa_cons (pe_hM h_Heights_row_at (hr.mono (by decide)) hgd pz0 (pv 1) (pa_cons (pv 8) pa_nil)) (pa_cons (pe_hG h__law_covering (hr.mono (by decide)) hgd pz0 (pa_cons (pv 3) (pa_cons (pv 2) (pa_cons (pv 8) pa_nil)))) pa_nil))))) (pss_one (ps_ret pe_bl)) pss_nil)))))))
      (pss_one (ps_ret (pe_hG h__law_same (hr.mono (by decide)) hgd pz0 (pa_cons (pe_lst (pa_cons (pe_hM h_Heights_row_at (hr.mono (by decide)) hgd pz0 (pv 1) (pa_cons (pe_un un_neg pe_int) pa_nil)) (pa_cons (pe_hM h_Heights_row_at (hr.mono (by decide)) hgd pz0 (pv 1) (pa_cons (pv 4) pa_nil)) pa_nil))) (pa_cons (pe_lst (pa_cons pe_non (pa_cons pe_non pa_nil))) pa_nil)))))))))
def t_Heights_tree (K : PySem.W.Frag) : TS := (tRet (tCallS (spD K (F_plain_tree 60)) Ez (tCons (tFld K (tVar 0) "root") tNil)))
theorem dv_Heights_tree {P : Program} {w : World} {K : PySem.W.Frag} {mg : Str → Option Value} {base : Heap} {f : Addr} {cdv : Value} {A : Around} {outer : List Env} {s : Shared} {H : Hp} {E : XK}
    (hr : Room 60 (A.deeper (envOfC "Heights.tree" (defScope s_Heights_tree) s.heap.objs.size f cdv)))
    (hgd : (A.deeper (envOfC "Heights.tree" (defScope s_Heights_tree) s.heap.objs.size f cdv)).guards = some [])
    (h_plain_tree : HasG P w K mg base CX0 "plain_tree" p_plain_tree 60 (spD K (F_plain_tree 60))) :
    PSs (cxOf CX0 P w K mg base n_Heights_tree "Heights.tree" (defScope s_Heights_tree) f cdv A outer s H E).nox (defBody s_Heights_tree) (t_Heights_tree K) := by
  have S := sc_Heights_tree
  have hu : (A.deeper (envOfC "Heights.tree" (defScope s_Heights_tree) s.heap.objs.size f cdv)).units + 64 < cLine := by have := hr.un; omega
  have hv : (A.deeper (envOfC "Heights.tree" (defScope s_Heights_tree) s.heap.objs.size f cdv)).units + 65 < cLine := by have := hr.un; omega
  exact (pss_one (ps_ret (pe_hG h_plain_tree (hr.mono (by decide)) hgd pz0 (pa_cons (pe_fld (pv 0) (by rfl)) pa_nil))))
def t_Heights_insert (K : PySem.W.Frag) (xw : L2.WX) : TS := (tSeq (tDrop (tMethX K "Heights" "need_index" (spX K F_Heights_need_index) (WE xw) (tVar 0) (tCons (tVar 1) (tCons (tOp (rAddU K) (tFld K (tVar 0) "many") (tC (.int 1))) tNil))))
    (tSeq (tDrop (tCallS (spX K F_need_height) (WE xw) (tCons (tVar 2) tNil)))
    (tSeq (sFld K (tVar 0) (tCallS (spD K (F_with_row 60)) Ez (tCons (tFld K (tVar 0) "root") (tCons (tVar 1) (tCons (tVar 2) (tCons (tFld K (tVar 0) "guess") tNil))))) "root")
    (tSeq (sFldAug K (tVar 0) (tCB (rIntU) (tCons (tOp (rIsU true) (tVar 2) (tC .non)) tNil)) (fun x y H Q => rAddI x y H Q ∨ rAddS x y H Q) "known_ones")
    (sFldAug K (tVar 0) (tC (.int 1)) (fun x y H Q => rAddI x y H Q ∨ rAddS x y H Q) "many")))))
theorem dv_Heights_insert {P : Program} {w : World} {K : PySem.W.Frag} {mg : Str → Option Value} {base : Heap} {f : Addr} {cdv : Value} {A : Around} {outer : List Env} {s : Shared} {H : Hp} {E : XK}
    (hr : Room 63 (A.deeper (envOfC "Heights.insert" (defScope s_Heights_insert) s.heap.objs.size f cdv)))
    (hgd : (A.deeper (envOfC "Heights.insert" (defScope s_Heights_insert) s.heap.objs.size f cdv)).guards = some [])
    (h_Heights_need_index : HasM P w K mg base (L2.CX P w) "Heights" "need_index" p_Heights_need_index 1 (spX K F_Heights_need_index))
    (h_need_height : HasG P w K mg base (L2.CX P w) "need_height" p_need_height 1 (spX K F_need_height))
    (h_with_row : HasG P w K mg base CX0 "with_row" p_with_row 63 (spD K (F_with_row 60)))
    (n_int : mg "int" = none) :
    PSs (cxOf (L2.CX P w) P w K mg base n_Heights_insert "Heights.insert" (defScope s_Heights_insert) f cdv A outer s H E) (defBody s_Heights_insert) (t_Heights_insert K fun c d _ H => E c d H) := by
  have S := sc_Heights_insert
  have hu : (A.deeper (envOfC "Heights.insert" (defScope s_Heights_insert) s.heap.objs.size f cdv)).units + 64 < cLine := by have := hr.un; omega
  have hv : (A.deeper (envOfC "Heights.insert" (defScope s_Heights_insert) s.heap.objs.size f cdv)).units + 65 < cLine := by have := hr.un; omega
  let xw : L2.WX := fun c d _ H => E c d H
  exact (pss_cons (ps_expr (pe_hM h_Heights_need_index (hr.mono (by decide)) hgd (fun σ => passAt (takes_of rfl rfl rfl rfl) σ) (pv 0) (pa_cons (pv 1) (pa_cons (pe_op op_addU (pe_fld (pv 0) (by rfl)) pe_int) pa_nil))))
      (pss_cons (ps_expr (pe_hG h_need_height (hr.mono (by decide)) hgd (fun σ => passAt (takes_of rfl rfl rfl rfl) σ) (pa_cons (pv 2) pa_nil)))
      (pss_cons (ps_fld (pv 0) (pe_hG h_with_row (hr.mono (by decide)) hgd pz0 (pa_cons (pe_fld (pv 0) (by rfl)) (pa_cons (pv 1) (pa_cons (pv 2) (pa_cons (pe_fld (pv 0) (by rfl)) pa_nil))))) (by rfl))
      (pss_cons (ps_fldaug (pv 0) (pe_callTy call_intU (by rfl) n_int (by decide +kernel) (pa_cons (pe_cmpR op_isnU (pv 2) pe_non (nomark _)) pa_nil)) (in_of iop_addU))
      (pss_one (ps_fldaug (pv 0) pe_int (in_of iop_addU)))))))
def t_Heights_learn (K : PySem.W.Frag) (xw : L2.WX) : TS := (tSeq (tDrop (tMethX K "Heights" "need_index" (spX K F_Heights_need_index) (WE xw) (tVar 0) (tCons (tVar 1) (tCons (tFld K (tVar 0) "many") tNil))))
    (tSeq (tDrop (tCallS (spX K F_need_height) (WE xw) (tCons (tVar 2) tNil)))
    (tSeq (sFldAug K (tVar 0) (tOp rSubI (tCB (rIntU) (tCons (tOp (rIsU true) (tVar 2) (tC .non)) tNil)) (tCB (rIntU) (tCons (tOp (rIsU true) (tMethX K "Heights" "height" (spX K F_Heights_height) (WE xw) (tVar 0) (tCons (tVar 1) tNil)) (tC .non)) tNil))) (fun x y H Q => rAddI x y H Q ∨ rAddS x y H Q) "known_ones")
    (sFld K (tVar 0) (tCallS (spD K (F_with_height 60)) Ez (tCons (tFld K (tVar 0) "root") (tCons (tVar 1) (tCons (tVar 2) (tCons (tFld K (tVar 0) "guess") tNil))))) "root"))))
theorem dv_Heights_learn {P : Program} {w : World} {K : PySem.W.Frag} {mg : Str → Option Value} {base : Heap} {f : Addr} {cdv : Value} {A : Around} {outer : List Env} {s : Shared} {H : Hp} {E : XK}
    (hr : Room 62 (A.deeper (envOfC "Heights.learn" (defScope s_Heights_learn) s.heap.objs.size f cdv)))
    (hgd : (A.deeper (envOfC "Heights.learn" (defScope s_Heights_learn) s.heap.objs.size f cdv)).guards = some [])
    (h_Heights_height : HasM P w K mg base (L2.CX P w) "Heights" "height" p_Heights_height 62 (spX K F_Heights_height))
    (h_Heights_need_index : HasM P w K mg base (L2.CX P w) "Heights" "need_index" p_Heights_need_index 1 (spX K F_Heights_need_index))
    (h_need_height : HasG P w K mg base (L2.CX P w) "need_height" p_need_height 1 (spX K F_need_height))
    (h_with_height : HasG P w K mg base CX0 "with_height" p_with_height 62 (spD K (F_with_height 60)))
    (n_int : mg "int" = none) :
    PSs (cxOf (L2.CX P w) P w K mg base n_Heights_learn "Heights.learn" (defScope s_Heights_learn) f cdv A outer s H E) (defBody s_Heights_learn) (t_Heights_learn K fun c d _ H => E c d H) := by
  have S := sc_Heights_learn
  have hu : (A.deeper (envOfC "Heights.learn" (defScope s_Heights_learn) s.heap.objs.size f cdv)).units + 64 < cLine := by have := hr.un; omega
  have hv : (A.deeper (envOfC "Heights.learn" (defScope s_Heights_learn) s.heap.objs.size f cdv)).units + 65 < cLine := by have := hr.un; omega
  let xw : L2.WX := fun c d _ H => E c d H
  exact (pss_cons (ps_expr (pe_hM h_Heights_need_index (hr.mono (by decide)) hgd (fun σ => passAt (takes_of rfl rfl rfl rfl) σ) (pv 0) (pa_cons (pv 1) (pa_cons (pe_fld (pv 0) (by rfl)) pa_nil))))
      (pss_cons (ps_expr (pe_hG h_need_height (hr.mono (by decide)) hgd (fun σ => passAt (takes_of rfl rfl rfl rfl) σ) (pa_cons (pv 2) pa_nil)))
      (pss_cons (ps_fldaug (pv 0) (pe_op op_subU (pe_callTy call_intU (by rfl) n_int (by decide +kernel) (pa_cons (pe_cmpR op_isnU (pv 2) pe_non (nomark _)) pa_nil)) (pe_callTy call_intU (by rfl) n_int (by decide +kernel) (pa_cons (pe_cmpR op_isnU (pe_hM h_Heights_height (hr.mono (by decide)) hgd (fun σ => passAt (takes_of rfl rfl rfl rfl) σ) (pv 0) (pa_cons (pv 1) pa_nil)) pe_non (nomark _)) pa_nil))) (in_of iop_addU))
      (pss_one (ps_fld (pv 0) (pe_hG h_with_height (hr.mono (by decide)) hgd pz0 (pa_cons (pe_fld (pv 0) (by rfl)) (pa_cons (pv 1) (pa_cons (pv 2) (pa_cons (pe_fld (pv 0) (by rfl)) pa_nil))))) (by rfl))))))
def t_Heights_remove (K : PySem.W.Frag) (xw : L2.WX) : TS := (tSeq (tDrop (tMethX K "Heights" "need_index" (spX K F_Heights_need_index) (WE xw) (tVar 0) (tCons (tVar 1) (tCons (tFld K (tVar 0) "many") tNil))))
    (tSeq (sFldAug K (tVar 0) (tCB (rIntU) (tCons (tOp (rIsU true) (tMethX K "Heights" "height" (spX K F_Heights_height) (WE xw) (tVar 0) (tCons (tVar 1) tNil)) (tC .non)) tNil)) rSubI "known_ones")
    (tSeq (sFld K (tVar 0) (tCallS (spD K (F_without_row 60)) Ez (tCons (tFld K (tVar 0) "root") (tCons (tVar 1) (tCons (tFld K (tVar 0) "guess") tNil)))) "root")
    (sFldAug K (tVar 0) (tC (.int 1)) rSubI "many"))))
theorem dv_Heights_remove {P : Program} {w : World} {K : PySem.W.Frag} {mg : Str → Option Value} {base : Heap} {f : Addr} {cdv : Value} {A : Around} {outer : List Env} {s : Shared} {H : Hp} {E : XK}
    (hr : Room 121 (A.deeper (envOfC "Heights.remove" (defScope s_Heights_remove) s.heap.objs.size f cdv)))
    (hgd : (A.deeper (envOfC "Heights.remove" (defScope s_Heights_remove) s.heap.objs.size f cdv)).guards = some [])
    (h_Heights_height : HasM P w K mg base (L2.CX P w) "Heights" "height" p_Heights_height 62 (spX K F_Heights_height))
    (h_Heights_need_index : HasM P w K mg base (L2.CX P w) "Heights" "need_index" p_Heights_need_index 1 (spX K F_Heights_need_index))
    (h_without_row : HasG P w K mg base CX0 "without_row" p_without_row 121 (spD K (F_without_row 60)))
    (n_int : mg "int" = none) :
    PSs (cxOf (L2.CX P w) P w K mg base n_Heights_remove "Heights.remove" (defScope s_Heights_remove) f cdv A outer s H E) (defBody s_Heights_remove) (t_Heights_remove K fun c d _ H => E c d H) := by
  have S := sc_Heights_remove
  have hu : (A.deeper (envOfC "Heights.remove" (defScope s_Heights_remove) s.heap.objs.size f cdv)).units + 64 < cLine := by have := hr.un; omega
  have hv : (A.deeper (envOfC "Heights.remove" (defScope s_Heights_remove) s.heap.objs.size f cdv)).units + 65 < cLine := by have := hr.un; omega
  let xw : L2.WX := fun c d _ H => E c d H
  exact (pss_cons (ps_expr (pe_hM h_Heights_need_index (hr.mono (by decide)) hgd (fun σ => passAt (takes_of rfl rfl rfl rfl) σ) (pv 0) (pa_cons (pv 1) (pa_cons (pe_fld (pv 0) (by rfl)) pa_nil))))
      (pss_cons (ps_fldaug (pv 0) (pe_callTy call_intU (by rfl) n_int (by decide +kernel) (pa_cons (pe_cmpR op_isnU (pe_hM h_Heights_height (hr.mono (by decide)) hgd (fun σ => passAt (takes_of rfl rfl rfl rfl) σ) (pv 0) (pa_cons (pv 1) pa_nil)) pe_non (nomark _)) pa_nil)) (in_of iop_subU))
      (pss_cons (ps_fld (pv 0) (pe_hG h_without_row (hr.mono (by decide)) hgd pz0 (pa_cons (pe_fld (pv 0) (by rfl)) (pa_cons (pv 1) (pa_cons (pe_fld (pv 0) (by rfl)) pa_nil)))) (by rfl))
      (pss_one (ps_fldaug (pv 0) pe_int (in_of iop_subU))))))
def t_Heights___init__ (K : PySem.W.Frag) (xw : L2.WX) : TS := (tSeq (tDrop (tCallS (spX K F_need_guess) (WE xw) (tCons (tVar 1) tNil)))
    (tSeq (sFld K (tVar 0) (tVar 1) "guess")
    (tSeq (sFld K (tVar 0) (tC .non) "root")
    (tSeq (sFld K (tVar 0) (tC (.int 0)) "known_ones")
    (sFld K (tVar 0) (tC (.int 0)) "many")))))
theorem dv_Heights___init__ {P : Program} {w : World} {K : PySem.W.Frag} {mg : Str → Option Value} {base : Heap} {f : Addr} {cdv : Value} {A : Around} {outer : List Env} {s : Shared} {H : Hp} {E : XK}
    (hr : Room 1 (A.deeper (envOfC "Heights.__init__" (defScope s_Heights___init__) s.heap.objs.size f cdv)))
    (hgd : (A.deeper (envOfC "Heights.__init__" (defScope s_Heights___init__) s.heap.objs.size f cdv)).guards = some [])
    (h_need_guess : HasG P w K mg base (L2.CX P w) "need_guess" p_need_guess 1 (spX K F_need_guess)) :
    PSs (cxOf (L2.CX P w) P w K mg base n_Heights___init__ "Heights.__init__" (defScope s_Heights___init__) f cdv A outer s H E) (defBody s_Heights___init__) (t_Heights___init__ K fun c d _ H => E c d H) := by
  have S := sc_Heights___init__
  have hu : (A.deeper (envOfC "Heights.__init__" (defScope s_Heights___init__) s.heap.objs.size f cdv)).units + 64 < cLine := by have := hr.un; omega
  have hv : (A.deeper (envOfC "Heights.__init__" (defScope s_Heights___init__) s.heap.objs.size f cdv)).units + 65 < cLine := by have := hr.un; omega
  let xw : L2.WX := fun c d _ H => E c d H
  exact (pss_cons (ps_expr (pe_hG h_need_guess (hr.mono (by decide)) hgd (fun σ => passAt (takes_of rfl rfl rfl rfl) σ) (pa_cons (pv 1) pa_nil)))
      (pss_cons (ps_fld (pv 0) (pv 1) (by rfl))
      (pss_cons (ps_fld (pv 0) pe_non (by rfl))
      (pss_cons (ps_fld (pv 0) pe_int (by rfl))
      (pss_one (ps_fld (pv 0) pe_int (by rfl)))))))
def t__law_right (K : PySem.W.Frag) : TS := (tSeq (tPar 1 2 (tCons (tOp (rAddU K) (tC (.int 1)) (tCallS (spD K F__law_draw) Ez (tCons (tVar 0) (tCons (tC (.int 40)) tNil)))) (tCons (tLst tNil) tNil)))
    (tSeq (tAsg (tIf (tTest (tOp (rEqU K) (tCallS (spD K F__law_draw) Ez (tCons (tVar 0) (tCons (tC (.int 2)) tNil))) (tC (.int 0)))) (tMakeX K "Heights" (spX K F_Heights___init__) Ez (tCons (tVar 1) tNil)) (tMakeKX K "Heights" 1 (spX K F_Heights___init__) [0, 1] Ez (tCons (tVar 1) tNil))) (gName 3))
    (tSeq (tFor (iRng1 (tCons (tOp (rIx K) (tLst (tCons (tC (.int 8)) (tCons (tC (.int 30)) (tCons (tC (.int 70)) tNil)))) (tCallS (spD K F__law_draw) Ez (tCons (tVar 0) (tCons (tC (.int 3)) tNil)))) tNil)) (gName 4) (tSeq (tPar3 5 6 7 (tCons (tCallS (spD K F__law_draw) Ez (tCons (tVar 0) (tCons (tC (.int 6)) tNil))) (tCons (tCallS (spD K F__law_draw) Ez (tCons (tVar 0) (tCons (tOp (rAddU K) (tCB (rLenU K) (tCons (tVar 2) tNil)) (tC (.int 1))) tNil))) (tCons (tCallS (spD K F__law_height) Ez (tCons (tVar 0) tNil)) tNil))))
    (tSeq (tAsg (tC .non) (gName 8))
    (tSeq (tIfS (tOr (tTest (tOp rLtU (tVar 5) (tC (.int 3)))) (tTest (tOp (rEqU K) (tVar 6) (tCB (rLenU K) (tCons (tVar 2) tNil))))) (tSeq (tAsg (tMethX K "Heights" "insert" (spX K F_Heights_insert) Ez (tVar 3) (tCons (tVar 6) (tCons (tVar 7) tNil))) (gName 8))
    (tAsg (tOp (rAddU K) (tOp (rAddU K) (tSl (rSlU K) (tVar 2) tNoPart (tPart (tVar 6))) (tLst (tCons (tVar 7) tNil))) (tSl (rSlU K) (tVar 2) (tPart (tVar 6)) tNoPart)) (gName 2))) (tIfS (tTest (tOp rLtU (tVar 5) (tC (.int 5)))) (tSeq (tAsg (tIf (tTest (tOp (rEqU K) (tVar 5) (tC (.int 3)))) (tMethX K "Heights" "learn" (spX K F_Heights_learn) Ez (tVar 3) (tCons (tVar 6) (tCons (tVar 7) tNil))) (tMethKX K "Heights" "learn" 2 (spX K F_Heights_learn) [0, 2, 1] Ez (tVar 3) (tCons (tVar 7) (tCons (tVar 6) tNil)))) (gName 8))
    (tAsg (tOp (rAddU K) (tOp (rAddU K) (tSl (rSlU K) (tVar 2) tNoPart (tPart (tVar 6))) (tLst (tCons (tVar 7) tNil))) (tSl (rSlU K) (tVar 2) (tPart (tOp (rAddU K) (tVar 6) (tC (.int 1)))) tNoPart)) (gName 2))) (tSeq (tAsg (tMethX K "Heights" "remove" (spX K F_Heights_remove) Ez (tVar 3) (tCons (tVar 6) tNil)) (gName 8))
    (tAsg (tOp (rAddU K) (tSl (rSlU K) (tVar 2) tNoPart (tPart (tVar 6))) (tSl (rSlU K) (tVar 2) (tPart (tOp (rAddU K) (tVar 6) (tC (.int 1)))) tNoPart)) (gName 2)))))
    (tIfS (tOr (tTest (tOp (rIsU true) (tVar 8) (tC .non))) (tNot (tTru K (tCallS (spD K F__law_looks_right) Ez (tCons (tVar 0) (tCons (tVar 3) (tCons (tVar 1) (tCons (tVar 2) tNil)))))))) (tRet (tC (.bl false))) tNext)))))
    (tSeq (tAsg (tCallS (spD K (F__law_tree_told 60)) Ez (tCons (tVar 1) (tCons (tMethX K "Heights" "tree" (spD K F_Heights_tree) Ez (tVar 3) tNil) tNil))) (gName 9))
    (tSeq (tIfS (tOr (tTest (tOp (rIsU false) (tVar 9) (tC .non))) (tOr (tTest (tOp (rNeU K) (tCallS (spD K (F__law_tree_rows 60)) Ez (tCons (tMethX K "Heights" "tree" (spD K F_Heights_tree) Ez (tVar 3) tNil) tNil)) (tVar 2))) (tTest (tOp (rIsU true) (tCallS (spD K F_tree_right) Ez (tCons (tVar 1) (tCons (tMethX K "Heights" "tree" (spD K F_Heights_tree) Ez (tVar 3) tNil) tNil))) (tC (.bl true)))))) (tRet (tC (.bl false))) tNext)
    (tRet (tCallS (spD K (F__law_same 60)) Ez (tCons (tCallS (spD K F_heights_in) Ez (tCons (tMethX K "Heights" "tree" (spD K F_Heights_tree) Ez (tVar 3) tNil) tNil)) (tCons (tVar 2) tNil)))))))))
theorem dv__law_right {P : Program} {w : World} {K : PySem.W.Frag} {mg : Str → Option Value} {base : Heap} {f : Addr} {cdv : Value} {A : Around} {outer : List Env} {s : Shared} {H : Hp} {E : XK}
    (hr : Room 122 (A.deeper (envOfC "_law_right" (defScope s__law_right) s.heap.objs.size f cdv)))
    (hgd : (A.deeper (envOfC "_law_right" (defScope s__law_right) s.heap.objs.size f cdv)).guards = some [])
    (h_Heights___init__ : HasI P w K mg base (L2.CX P w) "Heights" p_Heights___init__ 2 (spX K F_Heights___init__))
    (hk_Heights___init___0 : HasIK P w K mg base (L2.CX P w) "Heights" p_Heights___init__ 2 (spX K F_Heights___init__) 0 ["guess"] [0, 1])
    (h_Heights_insert : HasM P w K mg base (L2.CX P w) "Heights" "insert" p_Heights_insert 64 (spX K F_Heights_insert))
    (h_Heights_learn : HasM P w K mg base (L2.CX P w) "Heights" "learn" p_Heights_learn 63 (spX K F_Heights_learn))
    (hk_Heights_learn_0 : HasMK P w K mg base (L2.CX P w) "Heights" "learn" p_Heights_learn 63 (spX K F_Heights_learn) 0 ["height", "index"] [0, 2, 1])
    (h_Heights_remove : HasM P w K mg base (L2.CX P w) "Heights" "remove" p_Heights_remove 122 (spX K F_Heights_remove))
    (h_Heights_tree : HasM P w K mg base CX0 "Heights" "tree" p_Heights_tree 61 (spD K F_Heights_tree))
    (h__law_draw : HasG P w K mg base CX0 "_law_draw" p__law_draw 1 (spD K F__law_draw))
    (h__law_height : HasG P w K mg base CX0 "_law_height" p__law_height 2 (spD K F__law_height))
    (h__law_looks_right : HasG P w K mg base CX0 "_law_looks_right" p__law_looks_right 64 (spD K F__law_looks_right))
    (h__law_same : HasG P w K mg base CX0 "_law_same" p__law_same 60 (spD K (F__law_same 60)))
    (h__law_tree_rows : HasG P w K mg base CX0 "_law_tree_rows" p__law_tree_rows 60 (spD K (F__law_tree_rows 60)))
    (h__law_tree_told : HasG P w K mg base CX0 "_law_tree_told" p__law_tree_told 61 (spD K (F__law_tree_told 60)))
    (h_heights_in : HasG P w K mg base CX0 "heights_in" p_heights_in 61 (spD K F_heights_in))
    (h_tree_right : HasG P w K mg base CX0 "tree_right" p_tree_right 62 (spD K F_tree_right))
    (n_len : mg "len" = none)
    (n_range : mg "range" = none) :
    PSs (cxOf CX0 P w K mg base n__law_right "_law_right" (defScope s__law_right) f cdv A outer s H E).nox (defBody s__law_right) (t__law_right K) := by
  have S := sc__law_right
  have hu : (A.deeper (envOfC "_law_right" (defScope s__law_right) s.heap.objs.size f cdv)).units + 64 < cLine := by have := hr.un; omega
  have hv : (A.deeper (envOfC "_law_right" (defScope s__law_right) s.heap.objs.size f cdv)).units + 65 < cLine := by have := hr.un; omega
  exact (pss_cons (ps_par (i := 1) (j := 2) (by rfl) S.nd rfl rfl (by decide) rfl rfl (pa_cons (pe_op op_addU pe_int (pe_hG h__law_draw (hr.mono (by decide)) hgd pz0 (pa_cons (pv 0) (pa_cons pe_int pa_nil)))) (pa_cons (pe_lst pa_nil) pa_nil)) (by rfl))
      (pss_cons (ps_asg (pe_ifExp (pt_cmpR (op_eqU hu) (pe_hG h__law_draw (hr.mono (by decide)) hgd pz0 (pa_cons (pv 0) (pa_cons pe_int pa_nil))) pe_int (nomark _)) (pe_hI h_Heights___init__ (hr.mono (by decide)) hgd pzL (pa_cons (pv 1) pa_nil)) (pe_hIK0 hk_Heights___init___0 (hr.mono (by decide)) hgd pzL (pk_cons (pv 1) pk_nil))) (pg_name (i := 3) S.nd rfl (.inl rfl)))
      (pss_cons (ps_for PassesOwn.never rfl (pi_range1 (by rfl) n_range (pa_cons (pe_ix ix_seq (pe_lst (pa_cons pe_int (pa_cons pe_int (pa_cons pe_int pa_nil)))) (pe_hG h__law_draw (hr.mono (by decide)) hgd pz0 (pa_cons (pv 0) (pa_cons pe_int pa_nil))) (fun _ _ => rfl)) pa_nil)) (pg_name (i := 4) S.nd rfl (.inl rfl)) (pss_cons (ps_par3 (i := 5) (j := 6) (l := 7) (by rfl) S.nd rfl rfl rfl (by decide) (by decide) (by decide) rfl rfl rfl (pa_cons (pe_hG h__law_draw (hr.mono (by decide)) hgd pz0 (pa_cons (pv 0) (pa_cons pe_int pa_nil))) (pa_cons (pe_hG h__law_draw (hr.mono (by decide)) hgd pz0 (pa_cons (pv 0) (pa_cons (pe_op op_addU (pe_callB call_lenU (by rfl) n_len (by decide +kernel) (pa_cons (pv 2) pa_nil)) pe_int) pa_nil))) (pa_cons (pe_hG h__law_height (hr.mono (by decide)) hgd pz0 (pa_cons (pv 0) pa_nil)) pa_nil))) (by rfl))
      (pss_cons (ps_asg pe_non (pg_name (i := 8) S.nd rfl (.inl rfl)))
      (pss_cons (ps_if (PW.pt (pw_or (pt_cmpR op_ltU (pv 5) pe_int (nomark _)) (pw_or1 (pt_cmpR (op_eqU hu) (pv 6) (pe_callB call_lenU (by rfl) n_len (by decide +kernel) (pa_cons (pv 2) pa_nil)) (nomark _))))) (pss_cons (ps_asg (pe_hM h_Heights_insert (hr.mono (by decide)) hgd pzL (pv 3) (pa_cons (pv 6) (pa_cons (pv 7) pa_nil))) (pg_name (i := 8) S.nd rfl (.inl rfl)))
      (pss_one (ps_asg (pe_op op_addU (pe_op op_addU (pe_slice sl_U (pv 2) po_none (po_some (pv 6))) (pe_lst (pa_cons (pv 7) pa_nil))) (pe_slice sl_U (pv 2) (po_some (pv 6)) po_none)) (pg_name (i := 2) S.nd rfl (.inl rfl))))) (pss_one (ps_if (pt_cmpR op_ltU (pv 5) pe_int (nomark _)) (pss_cons (ps_asg (pe_ifExp (pt_cmpR (op_eqU hu) (pv 5) pe_int (nomark _)) (pe_hM h_Heights_learn (hr.mono (by decide)) hgd pzL (pv 3) (pa_cons (pv 6) (pa_cons (pv 7) pa_nil))) (pe_hMK0 hk_Heights_learn_0 (hr.mono (by decide)) hgd pzL (pv 3) (pk_cons (pv 7) (pk_cons (pv 6) pk_nil)))) (pg_name (i := 8) S.nd rfl (.inl rfl)))
      (pss_one (ps_asg (pe_op op_addU (pe_op op_addU (pe_slice sl_U (pv 2) po_none (po_some (pv 6))) (pe_lst (pa_cons (pv 7) pa_nil))) (pe_slice sl_U (pv 2) (po_some (pe_op op_addU (pv 6) pe_int)) po_none)) (pg_name (i := 2) S.nd rfl (.inl rfl))))) (pss_cons (ps_asg (pe_hM h_Heights_remove (hr.mono (by decide)) hgd pzL (pv 3) (pa_cons (pv 6) pa_nil)) (pg_name (i := 8) S.nd rfl (.inl rfl)))
      (pss_one (ps_asg (pe_op op_addU (pe_slice sl_U (pv 2) po_none (po_some (pv 6))) (pe_slice sl_U (pv 2) (po_some (pe_op op_addU (pv 6) pe_int)) po_none)) (pg_name (i := 2) S.nd rfl (.inl rfl))))))))
      (pss_one (ps_if (PW.pt (pw_or (pt_cmpR op_isnU (pv 8) pe_non (nomark _)) (pw_or1 (pt_not (pt_tru (pe_hG h__law_looks_right (hr.mono (by decide)) hgd pz0 (pa_cons (pv 0) (pa_cons (pv 3) (pa_cons (pv 1) (pa_cons (pv 2) pa_nil)))))))))) (pss_one (ps_ret pe_bl)) pss_nil))))))
      (pss_cons (ps_asg (pe_hG h__law_tree_told (hr.mono (by decide)) hgd pz0 (pa_cons (pv 1) (pa_cons (pe_hM0 h_Heights_tree (hr.mono (by decide)) hgd pz0 (pv 3)) pa_nil))) (pg_name (i := 9) S.nd rfl (.inl rfl)))
      (pss_cons (ps_if (PW.pt (pw_or (pt_cmpR op_isU (pv 9) pe_non (nomark _)) (pw_or (pt_cmpR (op_neU hu) (pe_hG h__law_tree_rows (hr.mono (by decide)) hgd pz0 (pa_cons (pe_hM0 h_Heights_tree (hr.mono (by decide)) hgd pz0 (pv 3)) pa_nil)) (pv 2) (nomark _)) (pw_or1 (pt_cmpR op_isnU (pe_hG h_tree_right (hr.mono (by decide)) hgd pz0 (pa_cons (pv 1) (pa_cons (pe_hM0 h_Heights_tree (hr.mono (by decide)) hgd pz0 (pv 3)) pa_nil))) pe_bl (nomark _)))))) (pss_one (ps_ret pe_bl)) pss_nil)
      (pss_one (ps_ret (pe_hG h__law_same (hr.mono (by decide)) hgd pz0 (pa_cons (pe_hG h_heights_in (hr.mono (by decide)) hgd pz0 (pa_cons (pe_hM0 h_Heights_tree (hr.mono (by decide)) hgd pz0 (pv 3)) pa_nil)) (pa_cons (pv 2) pa_nil))))))))))
def t_law (K : PySem.W.Frag) : TS := (tSeq (tFor (iRng1 (tCons (tCB (rMaxU K) (tCons (tC (.int 1)) (tCons (tCB (rMinU K) (tCons (tC (.int 2)) (tCons (tCB (rLenU K) (tCons (tVar 0) tNil)) tNil))) tNil))) tNil)) (gName 1) (tIfS (tNot (tTru K (tCallS (spD K F__law_right) Ez (tCons (tCallS (spD K F__law_deck) Ez (tCons (tVar 0) (tCons (tVar 1) tNil))) tNil)))) (tRet (tC (.bl false))) tNext))
    (tRet (tC (.bl true))))
theorem dv_law {P : Program} {w : World} {K : PySem.W.Frag} {mg : Str → Option Value} {base : Heap} {f : Addr} {cdv : Value} {A : Around} {outer : List Env} {s : Shared} {H : Hp} {E : XK}
    (hr : Room 123 (A.deeper (envOfC "law" (defScope s_law) s.heap.objs.size f cdv)))
    (hgd : (A.deeper (envOfC "law" (defScope s_law) s.heap.objs.size f cdv)).guards = some [])
    (h__law_deck : HasG P w K mg base CX0 "_law_deck" p__law_deck 1 (spD K F__law_deck))
    (h__law_right : HasG P w K mg base CX0 "_law_right" p__law_right 123 (spD K F__law_right))
    (n_len : mg "len" = none)
    (n_max : mg "max" = none)
    (n_min : mg "min" = none)
    (n_range : mg "range" = none) :
    PSs (cxOf CX0 P w K mg base n_law "law" (defScope s_law) f cdv A outer s H E).nox (defBody s_law) (t_law K) := by
  have S := sc_law
  have hu : (A.deeper (envOfC "law" (defScope s_law) s.heap.objs.size f cdv)).units + 64 < cLine := by have := hr.un; omega
  have hv : (A.deeper (envOfC "law" (defScope s_law) s.heap.objs.size f cdv)).units + 65 < cLine := by have := hr.un; omega
  exact (pss_cons (ps_for PassesOwn.never rfl (pi_range1 (by rfl) n_range (pa_cons (pe_callB (call_maxU rfl) (by rfl) n_max (by decide +kernel) (pa_cons pe_int (pa_cons (pe_callB (call_minU rfl) (by rfl) n_min (by decide +kernel) (pa_cons pe_int (pa_cons (pe_callB call_lenU (by rfl) n_len (by decide +kernel) (pa_cons (pv 0) pa_nil)) pa_nil))) pa_nil))) pa_nil)) (pg_name (i := 1) S.nd rfl (.inl rfl)) (pss_one (ps_if (pt_not (pt_tru (pe_hG h__law_right (hr.mono (by decide)) hgd pz0 (pa_cons (pe_hG h__law_deck (hr.mono (by decide)) hgd pz0 (pa_cons (pv 0) (pa_cons (pv 1) pa_nil))) pa_nil)))) (pss_one (ps_ret pe_bl)) pss_nil)))
      (pss_one (ps_ret pe_bl)))
def t_Heights_counts (K : PySem.W.Frag) (xw : L2.WX) : TS := (tRet (tCallS (spD K F_counted) Ez (tCons (tMethX K "Heights" "height" (spX K F_Heights_height) (WE xw) (tVar 0) (tCons (tVar 1) tNil)) (tCons (tFld K (tVar 0) "guess") tNil))))
theorem dv_Heights_counts {P : Program} {w : World} {K : PySem.W.Frag} {mg : Str → Option Value} {base : Heap} {f : Addr} {cdv : Value} {A : Around} {outer : List Env} {s : Shared} {H : Hp} {E : XK}
    (hr : Room 62 (A.deeper (envOfC "Heights.counts" (defScope s_Heights_counts) s.heap.objs.size f cdv)))
    (hgd : (A.deeper (envOfC "Heights.counts" (defScope s_Heights_counts) s.heap.objs.size f cdv)).guards = some [])
    (h_Heights_height : HasM P w K mg base (L2.CX P w) "Heights" "height" p_Heights_height 62 (spX K F_Heights_height))
    (h_counted : HasG P w K mg base CX0 "counted" p_counted 1 (spD K F_counted)) :
    PSs (cxOf (L2.CX P w) P w K mg base n_Heights_counts "Heights.counts" (defScope s_Heights_counts) f cdv A outer s H E) (defBody s_Heights_counts) (t_Heights_counts K fun c d _ H => E c d H) := by
  have S := sc_Heights_counts
  have hu : (A.deeper (envOfC "Heights.counts" (defScope s_Heights_counts) s.heap.objs.size f cdv)).units + 64 < cLine := by have := hr.un; omega
  have hv : (A.deeper (envOfC "Heights.counts" (defScope s_Heights_counts) s.heap.objs.size f cdv)).units + 65 < cLine := by have := hr.un; omega
  let xw : L2.WX := fun c d _ H => E c d H
  exact (pss_one (ps_ret (pe_hG h_counted (hr.mono (by decide)) hgd pz0 (pa_cons (pe_hM h_Heights_height (hr.mono (by decide)) hgd (fun σ => passAt (takes_of rfl rfl rfl rfl) σ) (pv 0) (pa_cons (pv 1) pa_nil)) (pa_cons (pe_fld (pv 0) (by rfl)) pa_nil)))))
def t_Heights___eq__ (K : PySem.W.Frag) : TS := (tRet (tAndT K (tCB (rIsi K) (tCons (tVar 1) (tCons (tClsX K "Heights") tNil))) (tOp (rEqU K) (tTup (tCons (tFld K (tVar 0) "guess") (tCons (tMethX K "Heights" "all_heights" (spD K F_Heights_all_heights) Ez (tVar 0) tNil) tNil))) (tTup (tCons (tFld K (tVar 1) "guess") (tCons (tMethX K "Heights" "all_heights" (spD K F_Heights_all_heights) Ez (tVar 1) tNil) tNil))))))
theorem dv_Heights___eq__ {P : Program} {w : World} {K : PySem.W.Frag} {mg : Str → Option Value} {base : Heap} {f : Addr} {cdv : Value} {A : Around} {outer : List Env} {s : Shared} {H : Hp} {E : XK}
    (hr : Room 61 (A.deeper (envOfC "Heights.__eq__" (defScope s_Heights___eq__) s.heap.objs.size f cdv)))
    (hgd : (A.deeper (envOfC "Heights.__eq__" (defScope s_Heights___eq__) s.heap.objs.size f cdv)).guards = some [])
    (h_Heights_all_heights : HasM P w K mg base CX0 "Heights" "all_heights" p_Heights_all_heights 61 (spD K F_Heights_all_heights))
    (n_isinstance : mg "isinstance" = none)
    (o_Heights : ∃ C, clA K "Heights" C ∧ mg "Heights" = some (.ref C)) :
    PSs (cxOf CX0 P w K mg base n_Heights___eq__ "Heights.__eq__" (defScope s_Heights___eq__) f cdv A outer s H E).nox (defBody s_Heights___eq__) (t_Heights___eq__ K) := by
  have S := sc_Heights___eq__
  have hu : (A.deeper (envOfC "Heights.__eq__" (defScope s_Heights___eq__) s.heap.objs.size f cdv)).units + 64 < cLine := by have := hr.un; omega
  have hv : (A.deeper (envOfC "Heights.__eq__" (defScope s_Heights___eq__) s.heap.objs.size f cdv)).units + 65 < cLine := by have := hr.un; omega
  exact (pss_one (ps_ret (pe_andT (pe_callB call_isi (by rfl) n_isinstance (by decide +kernel) (pa_cons (pv 1) (pa_cons (pe_clsX o_Heights.choose_spec.1 o_Heights.choose_spec.2) pa_nil))) (pe_one (pe_cmpR (op_eqU hu) (pe_tup (pa_cons (pe_fld (pv 0) (by rfl)) (pa_cons (pe_hM0 h_Heights_all_heights (hr.mono (by decide)) hgd pz0 (pv 0)) pa_nil))) (pe_tup (pa_cons (pe_fld (pv 1) (by rfl)) (pa_cons (pe_hM0 h_Heights_all_heights (hr.mono (by decide)) hgd pz0 (pv 1)) pa_nil))) (nomark _))))))
end Lw

namespace Lw
open PySem PySem.Spec PyProof.Rows L2 Pd
/-! one step of a reading -/
local macro_rules | `(tactic| walk_at "mu") => `(tactic| first | with_reducible assumption | with_reducible exact mu_end | ((with_reducible refine' mu_set ?hm2); (case hm2 => walk_at "mu")) | ((with_reducible refine' mu_app ?hm2); (case hm2 => walk_at "mu")))
local macro_rules | `(tactic| walk_at "lw") => `(tactic| first | with_reducible assumption | with_reducible exact lw_ints _ _ | with_reducible exact ln_ints _ _ | with_reducible exact LW.d _ | with_reducible exact LN.d _ | with_reducible exact TW.d2 | with_reducible exact TW.d3 | with_reducible exact TW.d4 | with_reducible exact TW.d5 | with_reducible exact TW.d1 | with_reducible exact TW.d _ | with_reducible exact TW.t _ | with_reducible exact LW.f _ | (refine' LW.m ?hmu; (case hmu => walk_at "mu")) | (refine' LN.m ?hmu; (case hmu => walk_at "mu")))
local macro_rules | `(tactic| walk_at "sz") => `(tactic| first | exact rfl | with_reducible assumption | (refine sz_ok ?_; (try simp only [List.length_map, List.length_append, List.length_cons, List.length_nil]); omega) | (refine sz_lt ?_; (try simp only [List.length_map, List.length_append, List.length_cons, List.length_nil]); omega))
local macro_rules | `(tactic| walk_at "rs") => `(tactic| first | with_reducible assumption | with_reducible exact Rs.d _ | (refine' Rs.m ?hmu (rss_ints _); (case hmu => walk_at "mu")) | (refine' Rs.f (rss_ints _)))
local macro_rules | `(tactic| walk_at "sh") => `(tactic| first | with_reducible assumption | with_reducible exact shaped_ints _ | rfl | decide)
local macro_rules | `(tactic| walk_at "x") => `(tactic| (first
  | ((with_reducible refine' ax_var ?hv ?_); (case hv => exact rfl))
  | (with_reducible refine' ax_int ?_)
  | (with_reducible refine' ax_bl ?_)
  | (with_reducible refine' ax_str ?_)
  | (with_reducible refine' ax_non ?_)
  | (with_reducible refine' ax_cV ?_)
  | (with_reducible refine' ax_op ?_)
  | (with_reducible refine' ax_un ?_)
  | (with_reducible refine' au_neg ?_)
  | (with_reducible refine' o_addI ?_)
  | (with_reducible refine' o_subI ?_)
  | (with_reducible refine' o_gtI ?_)
  | (with_reducible refine' o_ltI ?_)
  | (with_reducible refine' o_leI ?_)
  | (with_reducible refine' o_geI ?_)
  | (with_reducible refine' o_eqI ?_)
  | (with_reducible refine' o_neI ?_)
  | (with_reducible refine' o_eqB ?_)
  | (with_reducible refine' o_neB ?_)
  | ((with_reducible refine' o_eqD ?a1 ?a2 ?a3 ?a4 ?_); (case a1 => walk_at "rs"); (case a2 => walk_at "rs"); (case a3 => walk_at "sh"); (case a4 => walk_at "sh"))
  | ((with_reducible refine' o_neD ?a1 ?a2 ?a3 ?a4 ?_); (case a1 => walk_at "rs"); (case a2 => walk_at "rs"); (case a3 => walk_at "sh"); (case a4 => walk_at "sh"))
  | (with_reducible refine' o_is ?_)
  | (with_reducible refine' o_isB ?_)
  | ((with_reducible refine' o_addL ?a1 ?a2 ?a3 ?_); (case a1 => walk_at "lw"); (case a2 => walk_at "lw"); (case a3 => walk_at "sz"))
  | (with_reducible refine' aa_cons ?_)
  | (with_reducible refine' aa_nil ?_)
  | (with_reducible refine' ax_cb ?_)
  | (with_reducible refine' c_abs ?_)
  | (with_reducible refine' c_int ?_)
  | (with_reducible refine' c_max2 ?_)
  | (with_reducible refine' c_min2 ?_)
  | ((with_reducible refine' c_lenL ?a1 ?_); (case a1 => walk_at "lw"))
  | ((with_reducible refine' c_lenT ?a1 ?_); (case a1 => walk_at "lw"))
  | (with_reducible refine' ax_lst ?_)
  | (with_reducible refine' ax_tup ?_)
  | ((with_reducible refine' And.intro ?a1 ?_); (case a1 => walk_at "sz"))
  | (with_reducible refine' at_test ?_)
  | (with_reducible refine' at_truB ?_)
  | (with_reducible refine' at_and ?_)
  | (with_reducible refine' at_or ?_)
  | (with_reducible refine' at_not ?_)
  | (with_reducible refine' at_yes ?_)
  | (with_reducible refine' ax_if ?_)
  | (with_reducible refine' as_seq ?_)
  | (with_reducible refine' as_asg ?_)
  | ((with_reducible refine' ag_name ?_); dsimp only [List.set_cons_zero, List.set_cons_succ])
  | (with_reducible refine' as_ret ?_)
  | (with_reducible refine' as_if ?_)
  | (with_reducible refine' as_drop ?_)
  | (with_reducible refine' as_next ?_)
  | (with_reducible refine' as_break ?_)
  | (with_reducible refine' as_cont ?_)
  | (with_reducible refine' as_retN ?_)
  | (with_reducible refine' ax_call ?_)
  | (with_reducible refine' ax_callN ?_)
  | ((with_reducible refine' c_isi ?a1 ?a2 ?_); (case a1 => with_reducible first | exact tyw_l | exact tyw_b | exact tyw_i | exact tyw_t | exact tyw_s | exact tyw_n); (case a2 => walk_at "kb"))
  | ((with_reducible refine' c_listL ?a1 ?_); (case a1 => walk_at "lw"))
  | (with_reducible refine' ax_sl ?_)
  | (with_reducible refine' xo_no ?_)
  | (with_reducible refine' xo_some ?_)
  | (with_reducible refine' ags_nil ?_)
  | (with_reducible refine' ags_cons ?_)
  | ((with_reducible refine' ag_tup ?a1 ?a2 ?_); (case a1 => walk_at "lw"); (case a2 => rfl))
  | (with_reducible refine' ag_sub ?_)
  | ((with_reducible refine' ax_bm ?_); (with_reducible refine' ax_var ?hv ?_); (case hv => exact rfl); refine ⟨?ty, ?_⟩; (case ty => walk_at "ty"))
  | ((with_reducible refine' ax_bm0 ?_); (with_reducible refine' ax_var ?hv ?_); (case hv => exact rfl); refine ⟨?ty, ?_⟩; (case ty => walk_at "ty"))
  | (with_reducible refine' Exists.intro _ (And.intro rfl ?_))))
local macro_rules | `(tactic| walk_at "ty") => `(tactic| first | exact ⟨rfl, _, by walk_at "mu"⟩ | exact rfl)
local macro_rules | `(tactic| walk_at "xs") => `(tactic| repeat walk_at "x")
local macro_rules | `(tactic| walk_at "kb") => `(tactic| with_reducible first | exact kb_NoneType_list | exact kb_NoneType_tuple | exact kb_NoneType_bool | exact kb_NoneType_int | exact kb_NoneType_str | exact kb_bool_list | exact kb_bool_tuple | exact kb_bool_bool | exact kb_bool_int | exact kb_bool_str | exact kb_int_list | exact kb_int_tuple | exact kb_int_bool | exact kb_int_int | exact kb_int_str | exact kb_str_list | exact kb_str_tuple | exact kb_str_bool | exact kb_str_int | exact kb_str_str | exact kb_list_list | exact kb_list_tuple | exact kb_list_bool | exact kb_list_int | exact kb_list_str | exact kb_tuple_list | exact kb_tuple_tuple | exact kb_tuple_bool | exact kb_tuple_int | exact kb_tuple_str)
/-! more steps: promises, raising, repr -/
local macro_rules | `(tactic| walk_at "x") => `(tactic| (first
  | (with_reducible refine' as_dropX (axx_call ?_))
  | (with_reducible refine' as_retX (axx_call ?_))
  | (with_reducible refine' as_asgX (axx_call ?_))
  | ((with_reducible refine' as_raiseE ?hv ?_); (case hv => exact rfl))
  | (with_reducible refine' ax_g ?_)
  | (with_reducible refine' ax_gX ?_)
  | (with_reducible refine' ax_gN ?_)
  | (with_reducible refine' ax_gXN ?_)
  | ((with_reducible refine' as_augR ?hv ?_); (case hv => exact rfl))
  | (with_reducible refine' o_eqS ?_)
  | (with_reducible refine' o_neS ?_)
  | (with_reducible refine' as_par ?_)
  | (with_reducible refine' as_par3 ?_)
  | (with_reducible refine' ao_l (ao_iI ?_))))
/-- a list or tuple of data is data -/
local macro_rules | `(tactic| walk_at "d") => `(tactic| with_reducible first | refine' NL.d0 ?_ | refine' NL.d1 ?_ | refine' NL.d2 ?_ | refine' NL.d3 ?_ | refine' NL.di ?_ | refine' NT.d1 ?_ | refine' NT.d2 ?_ | refine' NT.d3 ?_ | refine' NT.d0 ?_ | refine' NT.d4 ?_ | refine' NT.d5 ?_ | refine' NT.d6 ?_ | refine' NL.d4 ?_ | refine' NL.d5 ?_ | refine' NL.d6 ?_ | refine' NL.d7 ?_ | refine' NL.dd ?_)
/-- a draw -/
local macro_rules | `(tactic| walk_at "dr") => `(tactic| (refine draw_at (by walk_at "mu") (by assumption) (by omega) (by first | decide | omega) (by first | decide | omega) ?_))
local macro_rules | `(tactic| walk_at "x") => `(tactic| (first
  | (with_reducible refine' ax_andT ?_)
  | (with_reducible refine' ax_orT ?_)
  | (with_reducible refine' ax_notT ?_)
  | (with_reducible refine' Exists.intro _ (And.intro (TrW.bl _) ?_))
  | ((with_reducible refine' ax_revT ?_))))
/-- a test whose answer is plain -/
local macro_rules | `(tactic| walk_at "if") => `(tactic| first | (refine ite_t rfl ?_) | (refine ite_f rfl ?_))
local macro_rules | `(tactic| walk_at "xi") => `(tactic| repeat (first | walk_at "x" | walk_at "if"))
local macro_rules | `(tactic| walk_at "mu") => `(tactic| with_reducible exact mu_endS)
local macro_rules | `(tactic| walk_at "x") => `(tactic| (first
  | (with_reducible refine' o_leV ?_)
  | (with_reducible refine' o_gtV ?_)
  | (with_reducible refine' o_geV ?_)
  | (with_reducible refine' o_leS ?_)
  | (with_reducible refine' o_gtS ?_)
  | (with_reducible refine' o_geS ?_)
  | (with_reducible refine' o_ltS ?_)
  | (with_reducible refine' c_intB ?_)))
local macro_rules | `(tactic| walk_at "x") => `(tactic| ((with_reducible refine' ax_bm ?_); (with_reducible refine' ax_str ?_); refine ⟨rfl, ?_⟩))
open M46 (cnt isInt okH told tdat hgt tot Tr bits)
theorem rd_counted {K : PySem.W.Frag} : ∀ ws μ R, F_counted ws μ R → AS K (t_counted K) { nx := fun _ μ' => R (.d .none) μ', rt := R } (stG n_counted ws) μ := by
  rintro ws μ R ⟨h, g, rfl, h1, q⟩
  show AS K _ _ [some (.d h), some (.d (.int g))] μ
  unfold t_counted
  rcases h1 with rfl | ⟨i, rfl⟩ <;> walk_at "xi" <;> exact q
theorem rd__law_counted {K : PySem.W.Frag} : ∀ ws μ R, F__law_counted ws μ R → AS K (t__law_counted K) { nx := fun _ μ' => R (.d .none) μ', rt := R } (stG n__law_counted ws) μ := by
  rintro ws μ R ⟨h, g, rfl, h1, q⟩
  show AS K _ _ [some (.d h), some (.d (.int g))] μ
  unfold t__law_counted
  rcases h1 with rfl | ⟨i, rfl⟩ <;> walk_at "xi" <;> exact q
theorem rd_is_integer {K : PySem.W.Frag} : ∀ ws μ R, F_is_integer ws μ R → AS K (t_is_integer K) { nx := fun _ μ' => R (.d .none) μ', rt := R } (stG n_is_integer ws) μ := by
  rintro ws μ R ⟨d, rfl, hb, q⟩
  show AS K _ _ [some (.d d)] μ
  unfold t_is_integer
  walk_at "xs"
  refine c_is_int hb ?_
  cases d with
  | dict _ => exact hb.elim
  | _ => walk_at "xi"; exact q
theorem rd__law_integer {K : PySem.W.Frag} : ∀ ws μ R, F__law_integer ws μ R → AS K (t__law_integer K) { nx := fun _ μ' => R (.d .none) μ', rt := R } (stG n__law_integer ws) μ := by
  rintro ws μ R ⟨d, rfl, hb, q⟩
  show AS K _ _ [some (.d d)] μ
  unfold t__law_integer
  walk_at "xs"
  refine c_is_int hb ?_
  cases d with
  | dict _ => exact hb.elim
  | _ => walk_at "xi"; exact q
theorem told_len {g : Int} {n : Nat} {xs : List PyData} (h : xs.length ≠ 5) : told g (n + 1) (.tuple xs) = none := by
  match xs, h with
  | [], _ => rfl
  | [_], _ => rfl
  | [_, _], _ => rfl
  | [_, _, _], _ => rfl
  | [_, _, _, _], _ => rfl
  | [_, _, _, _, _], h => exact absurd rfl h
  | _ :: _ :: _ :: _ :: _ :: _ :: _, _ => rfl
theorem five {xs : List PyData} (h : xs.length = 5) : ∃ l a r b c, xs = [l, a, r, b, c] := by
  match xs, h with
  | [l, a, r, b, c], _ => exact ⟨l, a, r, b, c, rfl⟩
theorem dep5 {l a r b c : PyData} {n : Nat} (h : (PyData.tuple [l, a, r, b, c]).depth < n + 1) : l.depth < n ∧ r.depth < n ∧ a.depth < n := by
  rw [M46.dep_node] at h
  omega
theorem no_measured {ws : List W} {μ : Mu} {R : W → Mu → Prop} : ¬ F_measured 0 ws μ R := by
  rintro ⟨_, _, _, _, h, _⟩
  exact absurd h (Nat.not_lt_zero _)
/-- the height's test, by what it is -/
theorem okH_cases (h : PyData) (hb : bd h) : (h = .none ∧ okH h = true) ∨ (∃ i, h = .int i ∧ 0 ≤ i ∧ okH h = true) ∨ (∃ i, h = .int i ∧ i < 0 ∧ okH h = false) ∨ (h ≠ .none ∧ isInt h = false ∧ okH h = false) := by
  cases h with
  | none => exact .inl ⟨rfl, rfl⟩
  | int i =>
    by_cases hi : 0 ≤ i
    · exact .inr (.inl ⟨i, rfl, hi, decide_eq_true hi⟩)
    · exact .inr (.inr (.inl ⟨i, rfl, by omega, decide_eq_false hi⟩))
  | dict _ => exact hb.elim
  | _ => exact .inr (.inr (.inr ⟨(fun z => by cases z), rfl, rfl⟩))
theorem isNon_d {h : PyData} (x : h ≠ .none) : isNon (.d h) = false := by
  cases h with
  | none => exact absurd rfl x
  | _ => rfl
theorem rd_measured {K : PySem.W.Frag} (n : Nat) : ∀ ws μ R, F_measured (n + 1) ws μ R → AS K (t_measured K n) { nx := fun _ μ' => R (.d .none) μ', rt := R } (stG n_measured ws) μ := by
  rintro ws μ R ⟨g, d, rfl, hb, hd, q⟩
  show AS K _ _ [some (.d (.int g)), some (.d d), none, none, none, none, none, none, none] μ
  unfold t_measured
  have bad : ∀ d : PyData, bd d → d ≠ .none → is_tuple d = false → R (.d .none) μ → AS K (t_measured K n) { nx := fun _ μ' => R (.d .none) μ', rt := R } [some (.d (.int g)), some (.d d), none, none, none, none, none, none, none] μ := fun d hb h0 h1 q => by
    unfold t_measured
    walk_at "xs"
    rw [isNon_d h0]
    refine ite_f rfl ?_
    walk_at "xs"
    refine c_is_tuple hb ?_
    rw [h1]
    walk_at "xi"
    exact q
  cases d with
  | none =>
    walk_at "xi"
    walk_at "d"
    exact q
  | dict _ => exact hb.elim
  | bool _ => exact bad _ hb (by simp) rfl q
  | int _ => exact bad _ hb (by simp) rfl q
  | str _ => exact bad _ hb (by simp) rfl q
  | list _ => exact bad _ hb (by simp) rfl q
  | tuple xs =>
    walk_at "xi"
    by_cases h5 : xs.length = 5
    · refine ite_f (by simp [h5]) ?_
      obtain ⟨l, h, r, a, b, rfl⟩ := five h5
      obtain ⟨bl, bh, br, ba, bb, _⟩ := hb
      obtain ⟨dl, dr, dh⟩ := dep5 hd
      refine as_next ?_
      walk_at "xs"
      have rest : okH h = true → AS K (tSeq (tAsg (tCallS (spD K (F_measured n)) Ez (tCons (tVar 0) (tCons (tVar 2) tNil))) (gName 7))
          (tSeq (tAsg (tIf (tTest (tOp (rIsU false) (tVar 7) (tC .non))) (tC .non) (tCallS (spD K (F_measured n)) Ez (tCons (tVar 0) (tCons (tVar 4) tNil)))) (gName 8))
          (tSeq (tIfS (tOr (tTest (tOp (rIsU false) (tVar 8) (tC .non))) (tOr (tTest (tOp rGtI (tCB (rAbsU) (tCons (tOp rSubI (tOp (rIx K) (tVar 7) (tC (.int 2))) (tOp (rIx K) (tVar 8) (tC (.int 2)))) tNil)) (tC (.int 1)))) (tOr (tNot (tTru K (tCallS (spD K F_is_integer) Ez (tCons (tVar 5) tNil)))) (tNot (tTru K (tCallS (spD K F_is_integer) Ez (tCons (tVar 6) tNil))))))) (tRet (tC .non)) tNext)
          (tSeq (tIfS (tOr (tTest (tOp (rNeU K) (tVar 5) (tOp (rAddU K) (tOp (rAddU K) (tOp (rIx K) (tVar 7) (tC (.int 0))) (tC (.int 1))) (tOp (rIx K) (tVar 8) (tC (.int 0)))))) (tTest (tOp (rNeU K) (tVar 6) (tOp (rAddU K) (tOp (rAddU K) (tOp (rIx K) (tVar 7) (tC (.int 1))) (tCallS (spD K F_counted) Ez (tCons (tVar 3) (tCons (tVar 0) tNil)))) (tOp (rIx K) (tVar 8) (tC (.int 1))))))) (tRet (tC .non)) tNext)
          (tRet (tTup (tCons (tVar 5) (tCons (tVar 6) (tCons (tOp (rAddU K) (tC (.int 1)) (tCB (rMaxU K) (tCons (tOp (rIx K) (tVar 7) (tC (.int 2))) (tCons (tOp (rIx K) (tVar 8) (tC (.int 2))) tNil)))) tNil)))))))))
          { nx := fun _ μ' => R (.d .none) μ', rt := R } [some (.d (.int g)), some (.d (.tuple [l, h, r, a, b])), some (.d l), some (.d h), some (.d r), some (.d a), some (.d b), none, none] μ := fun ho => by
        have hc : h = .none ∨ ∃ i, h = .int i := by
          cases h with
          | none => exact .inl rfl
          | int i => exact .inr ⟨i, rfl⟩
          | _ => cases ho
        walk_at "xs"
        refine ⟨g, l, rfl, bl, dl, ?_⟩
        unfold told at q
        rw [if_pos ho] at q
        cases hx : told g n l with
        | none =>
          rw [hx] at q
          walk_at "xi"
          exact q
        | some x =>
          obtain ⟨x1, x2, x3⟩ := x
          walk_at "xi"
          refine ⟨g, r, rfl, br, dr, ?_⟩
          cases hy : told g n r with
          | none =>
            rw [hx, hy] at q
            walk_at "xi"
            exact q
          | some y =>
            obtain ⟨y1, y2, y3⟩ := y
            rw [hx, hy] at q
            dsimp only at q
            walk_at "xi"
            refine o_ixT TW.d3 rfl ?_
            walk_at "xi"
            refine o_ixT TW.d3 rfl ?_
            walk_at "xs"
            by_cases h1 : 1 < (x3 - y3).natAbs
            · rw [if_pos h1] at q
              refine ite_t (decide_eq_true (by split <;> omega)) ?_
              walk_at "xi"
              exact q
            · rw [if_neg h1] at q
              refine ite_f (decide_eq_false (by split <;> omega)) ?_
              walk_at "xs"
              refine ⟨a, rfl, ba, ?_⟩
              walk_at "xs"
              cases a with
              | int i =>
                walk_at "xi"
                refine ⟨b, rfl, bb, ?_⟩
                walk_at "xs"
                cases b with
                | int j =>
                  walk_at "xi"
                  refine o_ixT TW.d3 rfl ?_
                  walk_at "xs"
                  refine o_ixT TW.d3 rfl ?_
                  walk_at "xs"
                  dsimp only at q
                  by_cases e1 : i = x1 + 1 + y1
                  · refine ite_f (by simp [e1]) ?_
                    walk_at "xs"
                    refine o_ixT TW.d3 rfl ?_
                    walk_at "xs"
                    refine ⟨h, g, rfl, hc, ?_⟩
                    walk_at "xs"
                    refine o_ixT TW.d3 rfl ?_
                    walk_at "xs"
                    by_cases e2 : j = x2 + cnt g h + y2
                    · refine ite_f (by simp [e2]) ?_
                      rw [if_pos ⟨e1, e2⟩] at q
                      walk_at "xs"
                      refine o_ixT TW.d3 rfl ?_
                      walk_at "xs"
                      refine o_ixT TW.d3 rfl ?_
                      walk_at "xs"
                      walk_at "d"
                      exact q
                    · refine ite_t (by simp [e2]) ?_
                      rw [if_neg (fun z => e2 z.2)] at q
                      walk_at "xs"
                      exact q
                  · refine ite_t (by simp [e1]) ?_
                    rw [if_neg (fun z => e1 z.1)] at q
                    walk_at "xi"
                    exact q
                | dict _ => exact bb.elim
                | _ => walk_at "xi"; exact q
              | dict _ => exact ba.elim
              | _ => walk_at "xi"; exact q
      rcases okH_cases h bh with ⟨rfl, ho⟩ | ⟨i, rfl, hi, ho⟩ | ⟨i, rfl, hi, ho⟩ | ⟨h0, h1, ho⟩
      · refine ite_f rfl ?_
        refine ite_f rfl ?_
        refine as_next ?_
        exact rest ho
      · refine ite_t rfl ?_
        walk_at "xs"
        refine ⟨_, rfl, bh, ?_⟩
        walk_at "xi"
        refine ite_f (decide_eq_false (by omega)) ?_
        refine as_next ?_
        exact rest ho
      · refine ite_t rfl ?_
        walk_at "xs"
        refine ⟨_, rfl, bh, ?_⟩
        walk_at "xi"
        refine ite_t (decide_eq_true (by omega)) ?_
        walk_at "xs"
        unfold told at q
        rw [ho] at q
        exact q
      · rw [isNon_d h0]
        refine ite_t rfl ?_
        walk_at "xs"
        refine ⟨_, rfl, bh, ?_⟩
        rw [h1]
        walk_at "xi"
        unfold told at q
        rw [ho] at q
        exact q
    · refine ite_t (by simp; omega) ?_
      walk_at "xs"
      rw [told_len h5] at q
      exact q
theorem p18 : (10 : Int) ^ (18 : Int).toNat = 1000000000000000000 := by decide +kernel
theorem p27 : (10 : Int) ^ (27 : Int).toNat = 1000000000000000000000000000 := by decide +kernel
theorem p28 : (10 : Int) ^ (28 : Int).toNat = 10000000000000000000000000000 := by decide +kernel
theorem p29 : (10 : Int) ^ (29 : Int).toNat = 100000000000000000000000000000 := by decide +kernel
theorem p30 : (10 : Int) ^ (30 : Int).toNat = 1000000000000000000000000000000 := by decide +kernel
theorem p20 : (10 : Int) ^ (20 : Int).toNat = 100000000000000000000 := by decide +kernel
theorem p6 : (10 : Int) ^ (6 : Int).toNat = 1000000 := by decide +kernel
theorem ten_ok {j : Int} (h0 : 0 ≤ j) (h1 : j ≤ 1000) : COp 10 j := pow_ok (a := 4) h0 (by decide) (by omega)
theorem mul_r {i j : Int} (h : -(2 ^ 64) < j ∧ j < 2 ^ 64) : CMul i j := .inr h
theorem mul_l {i j : Int} (h : -(2 ^ 64) < i ∧ i < 2 ^ 64) : CMul i j := .inl h
theorem div_ok {i j : Int} (h : 0 < j) (hb : j < 2 ^ 200) : CDivW i j := wide_div (b := 200) h (by omega) (by decide) (by decide)
theorem p23 : (10 : Int) ^ (23 : Int).toNat = 100000000000000000000000 := by decide +kernel
theorem p21 : (10 : Int) ^ (21 : Int).toNat = 1000000000000000000000 := by decide +kernel
theorem pot_ok {a b c : Int} {n : Nat} (h0 : 0 ≤ a) (h1 : 0 ≤ b) (h2 : b < 2 ^ 200) (h3 : 0 ≤ c) (h4 : c ≤ n) : PotOk n (some (.lst (wInts [a, b, c]))) := ⟨a, b, c, rfl, h0, h1, h2, h3, h4⟩
theorem rng_split {n : Nat} {pre post : List Nat} {x : Nat} (h : List.range n = pre ++ x :: post) : x = pre.length ∧ x < n := by
  have e : (List.range n)[pre.length]? = some x := by rw [h]; simp
  have l := congrArg List.length h
  simp at l
  rw [List.getElem?_range (by omega)] at e
  have e' := Option.some.inj e
  exact ⟨e'.symm, by omega⟩
theorem rd__law_deck {K : PySem.W.Frag} : ∀ ws μ R, F__law_deck ws μ R → AS K (t__law_deck K) { nx := fun _ μ' => R (.d .none) μ', rt := R } (stG n__law_deck ws) μ := by
  rintro ws μ R ⟨ns, k, rfl, hl, k0, k1, q⟩
  show AS K (t__law_deck K) _ [some (.f (wInts ns)), some (.d (.int k)), none, none, none] μ
  unfold t__law_deck
  walk_at "xs"
  refine o_mulI (mul_l (by decide)) ?_
  walk_at "xs"
  refine ⟨_, _, rfl, ?_⟩
  dsimp only [List.set_cons_zero, List.set_cons_succ]
  refine as_cut (fun Γ' m => ∃ c, Γ' = [some (.f (wInts ns)), some (.d (.int k)), some (.d (.int c)), some (.d (.int (7 + k))), none] ∧ m = μ) ?_ ?_
  · walk_at "xs"
    refine ite_b (fun h => ?_) (fun h => ?_)
    · walk_at "xs"
      have hk : k.toNat < ns.length := by
        have := of_decide_eq_true h
        simp at this
        omega
      have hx : ns[k.toNat]? = some ns[k.toNat] := List.getElem?_eq_getElem hk
      have e := atI_get hx
      rw [show ((k.toNat : Nat) : Int) = k by omega] at e
      refine o_ixL (LW.f _) (atI_int e) ?_
      walk_at "xs"
      exact rfl
    · walk_at "xs"
      exact rfl
  · rintro Γ' μ0 ⟨c, rfl, rfl⟩
    walk_at "xs"
    refine as_for (fun (i : Nat) => W.d (.int (0 + i))) (List.range ((wInts ns).length : Int).toNat) (fun pre Γ' m => ∃ x z, Γ' = [some (.f (wInts ns)), some (.d (.int k)), some (.d (.int c)), some (.d (.int x)), z] ∧ m = μ0 ∧ 0 ≤ x ∧ x < 1000000000000000000000000000000) (ai_rng1 ?_) ?_ ?_
    · walk_at "xs"
      exact ⟨by simp; omega, rfl, fun _ _ _ _ => trivial, 7 + k, none, rfl, rfl, by omega, by omega⟩
    · rintro pre i post Γ' m e ⟨x, z, rfl, rfl, x0, x1⟩
      obtain ⟨e1, e2⟩ := rng_split e
      have hi : i < ns.length := by simpa using e2
      have hx : ns[i]? = some ns[i] := List.getElem?_eq_getElem hi
      have ea := atI_get hx
      walk_at "xs"
      refine o_mulI (mul_r (by decide)) ?_
      walk_at "xs"
      rw [show (0 + (i : Int)) = (i : Int) by omega]
      refine o_ixL (LW.f _) (atI_int ea) ?_
      walk_at "xs"
      refine o_powI (ten_ok (by decide) (by decide)) ?_
      rw [p23]
      walk_at "xs"
      refine o_modI (by decide) ?_
      walk_at "xs"
      refine o_mulI (mul_l (by decide)) ?_
      walk_at "xs"
      refine o_powI (ten_ok (by decide) (by decide)) ?_
      rw [p29]
      walk_at "xs"
      refine o_modI (by decide) ?_
      walk_at "xs"
      generalize x * 8191 + ns[i] % (100000000000000000000000 + 117) + 3 * (i : Int) = y
      have h1 := Int.emod_nonneg y (show (100000000000000000000000000000 + 319 : Int) ≠ 0 by decide)
      have h2 := Int.emod_lt_of_pos y (show (0 : Int) < 100000000000000000000000000000 + 319 by decide)
      exact ⟨_, _, rfl, rfl, h1, by omega⟩
    · rintro Γ' m ⟨x, z, rfl, rfl, x0, x1⟩
      walk_at "xs"
      refine o_powI (ten_ok (by decide) (by decide)) ?_
      walk_at "xs"
      refine o_mulI (mul_r (by decide)) ?_
      walk_at "xs"
      refine o_powI (ten_ok (by decide) (by decide)) ?_
      rw [p21]
      walk_at "xs"
      refine o_modI (by decide) ?_
      walk_at "xs"
      refine NL.m ?_
      generalize (if c < 0 then -c else c) = y
      have h1 := Int.emod_nonneg y (show (1000000000000000000000 + 9 : Int) ≠ 0 by decide)
      have h2 := Int.emod_lt_of_pos y (show (0 : Int) < 1000000000000000000000 + 9 by decide)
      exact q _ (pot_ok (c := 0) (by omega) (by omega) (by omega) (by decide) (by decide))
theorem rd__law_draw {K : PySem.W.Frag} : ∀ ws μ R, F__law_draw ws μ R → AS K (t__law_draw K) { nx := fun _ μ' => R (.d .none) μ', rt := R } (stG n__law_draw ws) μ := by
  rintro ws μ R ⟨k, many, p, n, rfl, hk, ⟨a, b, c, rfl, a0, b0, b1, c0, c1⟩, n1, m0, m1, q⟩
  show AS K (t__law_draw K) _ [some (.m k), some (.d (.int many)), none, none] μ
  unfold t__law_draw
  have g0 : LW μ (.m k) (wInts [a, b, c]) := .m hk
  walk_at "xs"
  refine o_ixL g0 (atI_int (x := a) rfl) ?_
  walk_at "xs"
  refine ite_b (fun h => ?_) (fun h => ?_)
  · have ha : 0 < a := of_decide_eq_true h
    walk_at "xs"
    refine o_ixL g0 (atI_int (x := a) rfl) ?_
    walk_at "xs"
    refine o_modI m0 ?_
    walk_at "xs"
    refine o_ixL g0 (atI_int (x := a) rfl) ?_
    walk_at "xs"
    refine o_divI (div_ok m0 m1) ?_
    walk_at "xs"
    refine aset_L (j := 0) hk rfl ?_
    walk_at "xs"
    exact q _ _ (Int.emod_nonneg _ (by omega)) (Int.emod_lt_of_pos _ m0) (pot_ok (Int.ediv_nonneg a0 (by omega)) b0 b1 c0 (by omega))
  · refine as_next ?_
    walk_at "xs"
    refine o_ixL g0 (atI_int (x := c) rfl) ?_
    walk_at "xs"
    refine aset_L (j := 2) hk rfl ?_
    have ej : (some (C.lst ((wInts [a, b, c]).set 2 (W.d (PyData.int (c + 1)))))) = some (C.lst (wInts [a, b, c + 1])) := rfl
    rw [ej]
    have hk2 : (μ.set k (some (C.lst (wInts [a, b, c + 1]))))[k]? = some (some (C.lst (wInts [a, b, c + 1]))) := mu_set hk
    have g2 : LW (μ.set k (some (C.lst (wInts [a, b, c + 1])))) (.m k) (wInts [a, b, c + 1]) := .m hk2
    walk_at "xs"
    refine o_ixL g2 (atI_int (x := b) rfl) ?_
    walk_at "xs"
    refine o_ixL g2 (atI_int (x := c + 1) rfl) ?_
    refine o_mulI (mul_l (by decide)) ?_
    walk_at "xs"
    refine o_powI (pow_ok (a := 201) (by decide) (by omega) (by decide)) ?_
    walk_at "xs"
    refine o_ixL g2 (atI_int (x := c + 1) rfl) ?_
    refine o_mulI (mul_l (by decide)) ?_
    walk_at "xs"
    refine o_powI (ten_ok (by decide) (by decide)) ?_
    walk_at "xs"
    rw [p27]
    refine o_modI (by decide) ?_
    generalize (b + 7368787 * (c + 1)) ^ (2 : Int).toNat + 131 * (c + 1) = z
    have h1 := Int.emod_nonneg z (show (1000000000000000000000000000 + 103 : Int) ≠ 0 by decide)
    have h2 := Int.emod_lt_of_pos z (show (0 : Int) < 1000000000000000000000000000 + 103 by decide)
    generalize z % (1000000000000000000000000000 + 103 : Int) = z2 at *
    walk_at "xs"
    refine o_mulX (mulx_ok (a := 200) (b := 200) (by omega) (by omega) (by decide)) ?_
    walk_at "xs"
    refine o_ixL g2 (atI_int (x := b) rfl) ?_
    walk_at "xs"
    refine o_powI (ten_ok (by decide) (by decide)) ?_
    walk_at "xs"
    rw [p28]
    refine o_modI (by decide) ?_
    walk_at "xs"
    refine o_divI (div_ok (by decide) (by decide)) ?_
    walk_at "xs"
    refine o_modI m0 ?_
    exact q _ _ (Int.emod_nonneg _ (by omega)) (Int.emod_lt_of_pos _ m0) (pot_ok a0 b0 b1 (by omega) (by omega))
theorem isNon_t (o : Option (Int × Int × Int)) : isNon (.d (tdat o)) = !o.isSome := by
  cases o with
  | none => rfl
  | some x => rfl
theorem rd_tree_right {K : PySem.W.Frag} : ∀ ws μ R, F_tree_right ws μ R → AS K (t_tree_right K) { nx := fun _ μ' => R (.d .none) μ', rt := R } (stG n_tree_right ws) μ := by
  rintro ws μ R ⟨g, d, rfl, hb, hd, q⟩
  show AS K _ _ [some (.d (.int g)), some (.d d)] μ
  unfold t_tree_right
  walk_at "xs"
  refine ⟨g, d, rfl, hb, hd, ?_⟩
  walk_at "xs"
  rw [isNon_t]
  rw [if_pos rfl, Bool.not_not]
  exact q
theorem sh_i (x : Int) (y : Int) : SeqAt.shaped (.tuple [.int x, .int y]) = true := rfl
theorem eqv_ii (x y i j : Int) : PyData.eqv (.tuple [.int x, .int y]) (.tuple [.int i, .int j]) = decide (x = i ∧ y = j) := by
  show ((x == i) && ((y == j) && true)) = _
  by_cases h1 : x = i <;> by_cases h2 : y = j <;> simp [h1, h2]
theorem no__law_tree_told {ws : List W} {μ : Mu} {R : W → Mu → Prop} : ¬ F__law_tree_told 0 ws μ R := no_measured
theorem rd__law_tree_told {K : PySem.W.Frag} (n : Nat) : ∀ ws μ R, F__law_tree_told (n + 1) ws μ R → AS K (t__law_tree_told K n) { nx := fun _ μ' => R (.d .none) μ', rt := R } (stG n__law_tree_told ws) μ := by
  rintro ws μ R ⟨g, d, rfl, hb, hd, q⟩
  show AS K _ _ [some (.d (.int g)), some (.d d), none, none, none] μ
  unfold t__law_tree_told
  have bad : ∀ d : PyData, bd d → d ≠ .none → is_tuple d = false → R (.d .none) μ → AS K (t__law_tree_told K n) { nx := fun _ μ' => R (.d .none) μ', rt := R } [some (.d (.int g)), some (.d d), none, none, none] μ := fun d hb h0 h1 q => by
    unfold t__law_tree_told
    walk_at "xs"
    rw [isNon_d h0]
    refine ite_f rfl ?_
    walk_at "xs"
    refine c_is_tuple hb ?_
    rw [h1]
    walk_at "xi"
    exact q
  cases d with
  | none =>
    walk_at "xi"
    walk_at "d"
    exact q
  | dict _ => exact hb.elim
  | bool _ => exact bad _ hb (by simp) rfl q
  | int _ => exact bad _ hb (by simp) rfl q
  | str _ => exact bad _ hb (by simp) rfl q
  | list _ => exact bad _ hb (by simp) rfl q
  | tuple xs =>
    walk_at "xi"
    by_cases h5 : xs.length = 5
    · refine ite_f (by simp [h5]) ?_
      obtain ⟨l, h, r, a, b, rfl⟩ := five h5
      obtain ⟨bl, bh, br, ba, bb, _⟩ := hb
      obtain ⟨dl, dr, dh⟩ := dep5 hd
      walk_at "xs"
      refine o_ixT TW.d5 rfl ?_
      walk_at "xs"
      refine ⟨g, l, rfl, bl, dl, ?_⟩
      walk_at "xs"
      refine o_ixT TW.d5 rfl ?_
      walk_at "xs"
      refine ⟨g, r, rfl, br, dr, ?_⟩
      walk_at "xs"
      refine ⟨_, _, rfl, ?_⟩
      dsimp only [List.set_cons_zero, List.set_cons_succ]
      unfold told at q
      cases hx : told g n l with
      | none =>
        rw [hx] at q
        have q' : R (.d .none) μ := by
          split at q <;> exact q
        walk_at "xi"
        exact q'
      | some x =>
        obtain ⟨x1, x2, x3⟩ := x
        cases hy : told g n r with
        | none =>
          rw [hx, hy] at q
          have q' : R (.d .none) μ := by
            split at q <;> exact q
          walk_at "xi"
          exact q'
        | some y =>
          obtain ⟨y1, y2, y3⟩ := y
          rw [hx, hy] at q
          dsimp only at q
          walk_at "xi"
          refine o_ixT TW.d3 rfl ?_
          walk_at "xi"
          refine o_ixT TW.d3 rfl ?_
          walk_at "xs"
          by_cases h1 : 1 < (x3 - y3).natAbs
          · rw [if_pos h1] at q
            have q' : R (.d .none) μ := by
              split at q <;> exact q
            refine ite_t (decide_eq_true (by split <;> omega)) ?_
            walk_at "xi"
            exact q'
          · rw [if_neg h1] at q
            refine ite_f (decide_eq_false (by split <;> omega)) ?_
            have rest : okH h = true → AS K (tSeq (tAsg (tTup (tCons (tOp (rAddU K) (tOp (rAddU K) (tOp (rIx K) (tVar 2) (tC (.int 0))) (tC (.int 1))) (tOp (rIx K) (tVar 3) (tC (.int 0)))) (tCons (tOp (rAddU K) (tOp (rAddU K) (tOp (rIx K) (tVar 2) (tC (.int 1))) (tCallS (spD K F__law_counted) Ez (tCons (tOp (rIx K) (tVar 1) (tC (.int 1))) (tCons (tVar 0) tNil)))) (tOp (rIx K) (tVar 3) (tC (.int 1)))) tNil))) (gName 4))
                (tSeq (tIfS (tOr (tNot (tTru K (tCallS (spD K F__law_integer) Ez (tCons (tOp (rIx K) (tVar 1) (tC (.int 3))) tNil)))) (tOr (tNot (tTru K (tCallS (spD K F__law_integer) Ez (tCons (tOp (rIx K) (tVar 1) (tC (.int 4))) tNil)))) (tTest (tOp (rNeU K) (tVar 4) (tSl (rSlU K) (tVar 1) (tPart (tC (.int 3))) tNoPart))))) (tRet (tC .non)) tNext)
                (tRet (tOp (rAddU K) (tVar 4) (tTup (tCons (tOp (rAddU K) (tC (.int 1)) (tCB (rMaxU K) (tCons (tOp (rIx K) (tVar 2) (tC (.int 2))) (tCons (tOp (rIx K) (tVar 3) (tC (.int 2))) tNil)))) tNil)))))) { nx := fun _ μ' => R (.d .none) μ', rt := R }
                [some (.d (.int g)), some (.d (.tuple [l, h, r, a, b])), some (.d (tdat (some (x1, x2, x3)))), some (.d (tdat (some (y1, y2, y3)))), none] μ := fun ho => by
              have hc : h = .none ∨ ∃ i, h = .int i := by
                cases h with
                | none => exact .inl rfl
                | int i => exact .inr ⟨i, rfl⟩
                | _ => cases ho
              rw [if_pos ho] at q
              walk_at "xs"
              refine o_ixT TW.d3 rfl ?_
              walk_at "xs"
              refine o_ixT TW.d3 rfl ?_
              walk_at "xs"
              refine o_ixT TW.d3 rfl ?_
              walk_at "xs"
              refine o_ixT TW.d5 rfl ?_
              walk_at "xs"
              refine ⟨h, g, rfl, hc, ?_⟩
              walk_at "xs"
              refine o_ixT TW.d3 rfl ?_
              walk_at "xs"
              walk_at "d"
              walk_at "xs"
              refine o_ixT TW.d5 rfl ?_
              walk_at "xs"
              refine ⟨a, rfl, ba, ?_⟩
              walk_at "xs"
              cases a with
              | int i =>
                walk_at "xi"
                refine o_ixT TW.d5 rfl ?_
                walk_at "xs"
                refine ⟨b, rfl, bb, ?_⟩
                walk_at "xs"
                cases b with
                | int j =>
                  walk_at "xi"
                  refine o_slT TW.d5 ?_
                  refine NT.d (xs := [.int i, .int j]) ?_ rfl
                  refine o_neD (.d _) (.d _) (sh_i _ _) (sh_i _ _) ?_
                  rw [eqv_ii]
                  dsimp only at q
                  walk_at "xs"
                  by_cases e : i = x1 + 1 + y1 ∧ j = x2 + cnt g h + y2
                  · rw [if_pos e] at q
                    obtain ⟨e1, e2⟩ := e
                    subst e1 e2
                    refine ite_f (by simp) ?_
                    walk_at "xs"
                    refine o_ixT TW.d3 rfl ?_
                    walk_at "xs"
                    refine o_ixT TW.d3 rfl ?_
                    walk_at "xs"
                    walk_at "d"
                    refine o_addT TW.d2 TW.d1 (sz_ok (by simp)) ?_
                    exact NT.d (xs := [_, _, _]) q rfl
                  · rw [if_neg e] at q
                    refine ite_t ?_ ?_
                    · rw [Bool.not_eq_true', decide_eq_false_iff_not]
                      rintro ⟨z1, z2⟩
                      exact e ⟨z1.symm, z2.symm⟩
                    · walk_at "xs"
                      exact q
                | dict _ => exact bb.elim
                | _ => walk_at "xi"; exact q
              | dict _ => exact ba.elim
              | _ => walk_at "xi"; exact q
            walk_at "xs"
            refine o_ixT TW.d5 rfl ?_
            walk_at "xs"
            rcases okH_cases h bh with ⟨rfl, ho⟩ | ⟨i, rfl, hi, ho⟩ | ⟨i, rfl, hi, ho⟩ | ⟨h0, h1, ho⟩
            · refine ite_f rfl ?_
              refine ite_f rfl ?_
              refine as_next ?_
              exact rest ho
            · refine ite_t rfl ?_
              walk_at "xs"
              refine o_ixT TW.d5 rfl ?_
              walk_at "xs"
              refine ⟨_, rfl, bh, ?_⟩
              walk_at "xi"
              refine o_ixT TW.d5 rfl ?_
              walk_at "xs"
              refine ite_f (decide_eq_false (by omega)) ?_
              refine as_next ?_
              exact rest ho
            · refine ite_t rfl ?_
              walk_at "xs"
              refine o_ixT TW.d5 rfl ?_
              walk_at "xs"
              refine ⟨_, rfl, bh, ?_⟩
              walk_at "xi"
              refine o_ixT TW.d5 rfl ?_
              walk_at "xs"
              refine ite_t (decide_eq_true (by omega)) ?_
              walk_at "xs"
              rw [ho] at q
              exact q
            · rw [isNon_d h0]
              refine ite_t rfl ?_
              walk_at "xs"
              refine o_ixT TW.d5 rfl ?_
              walk_at "xs"
              refine ⟨_, rfl, bh, ?_⟩
              rw [h1]
              walk_at "xi"
              rw [ho] at q
              exact q
    · refine ite_t (by simp; omega) ?_
      walk_at "xs"
      rw [told_len h5] at q
      exact q
theorem bds_get : ∀ {xs : List PyData} {i : Nat} {x : PyData}, bds xs → xs[i]? = some x → bd x
  | [], _, _, _, h => by simp at h
  | y :: ys, 0, x, hb, h => by
    have : y = x := by simpa using h
    rw [← this]
    exact hb.1
  | y :: ys, i + 1, x, hb, h => bds_get hb.2 (by simpa using h)
theorem depth_get : ∀ {xs : List PyData} {i : Nat} {x : PyData}, xs[i]? = some x → x.depth ≤ PyData.depthAll xs
  | [], _, _, h => by simp at h
  | y :: ys, 0, x, h => by
    have : y = x := by simpa using h
    rw [← this]
    simp only [PyData.depthAll]
    omega
  | y :: ys, i + 1, x, h => by
    have := depth_get (xs := ys) (i := i) (by simpa using h)
    simp only [PyData.depthAll]
    omega
theorem nd_get : ∀ {xs : List PyData} {i : Nat} {x : PyData}, xs[i]? = some x → nd x ≤ nds xs
  | [], _, _, h => by simp at h
  | y :: ys, 0, x, h => by
    have : y = x := by simpa using h
    rw [← this]
    show nd y ≤ nd y + nds ys
    omega
  | y :: ys, i + 1, x, h => by
    have := nd_get (xs := ys) (i := i) (by simpa using h)
    show nd x ≤ nd y + nds ys
    omega
theorem nd_pos (x : PyData) : 0 < nd x := by
  cases x <;> simp [nd]
theorem nds_len : ∀ xs : List PyData, xs.length ≤ nds xs
  | [] => Nat.le_refl _
  | x :: xs => by
    have := nds_len xs
    have := nd_pos x
    show xs.length + 1 ≤ nd x + nds xs
    omega
theorem atI_d {xs : List PyData} {i : Nat} {x : PyData} (h : xs[i]? = some x) : atI (xs.map W.d) (i : Int) = some (.d x) := atI_get (by rw [List.getElem?_map, h]; rfl)
theorem no__law_same {ws : List W} {μ : Mu} {R : W → Mu → Prop} : ¬ F__law_same 0 ws μ R := by
  rintro ⟨_, _, _, h, _⟩
  exact absurd h (Nat.not_lt_zero _)
theorem rd__law_same {K : PySem.W.Frag} (n : Nat) : ∀ ws μ R, F__law_same (n + 1) ws μ R → AS K (t__law_same K n) { nx := fun _ μ' => R (.d .none) μ', rt := R } (stG n__law_same ws) μ := by
  rintro ws μ R ⟨d, rfl, hb, hd, hn, q⟩
  show AS K _ _ [some (.d d), some (.d d), none] μ
  unfold t__law_same
  cases d with
  | dict _ => exact hb.elim
  | none => walk_at "xi"; exact q
  | bool b =>
    walk_at "xi"
    rw [decide_eq_true rfl]
    exact q
  | int b =>
    walk_at "xi"
    rw [decide_eq_true rfl]
    exact q
  | str b =>
    walk_at "xi"
    rw [decide_eq_true rfl]
    exact q
  | list xs =>
    have hdx : ∀ {i : Nat} {x : PyData}, xs[i]? = some x → x.depth < n := fun h => by
      have := depth_get h
      simp only [PyData.depth] at hd
      omega
    have hnx : nds xs + 1 ≤ 100000 := hn
    have hlx := nds_len xs
    walk_at "xi"
    refine ite_t (decide_eq_true rfl) ?_
    walk_at "xs"
    refine ax_lcB (fun (i : Nat) => W.d (.int (0 + i))) (List.range xs.length) (fun _ => true) (sz_ok (by simp; omega)) (wk_name (by decide)) (ai_rng1 ?_) ?_ ?_
    · walk_at "xs"
      rw [List.length_map]
      exact ⟨by omega, rfl, trivial, rfl⟩
    · intro i hi
      have hi := List.mem_range.mp hi
      have hx : xs[i]? = some xs[i] := List.getElem?_eq_getElem hi
      show AG K _ _ [some (.d (.list xs)), some (.d (.list xs)), none] _ _
      walk_at "xs"
      rw [show (0 + (i : Int)) = (i : Int) by omega]
      refine o_ixL (.d _) (atI_d hx) ?_
      walk_at "xs"
      refine o_ixL (.d _) (atI_d hx) ?_
      walk_at "xs"
      refine ⟨_, rfl, bds_get hb hx, hdx hx, Nat.le_trans (nd_get hx) (by omega), ?_⟩
      exact ⟨rfl, rfl⟩
    · walk_at "xs"
      refine c_allB ?_
      have e : ((List.range xs.length).map fun _ => true).all id = true := by simp
      rw [e]
      exact q
  | tuple xs =>
    have hdx : ∀ {i : Nat} {x : PyData}, xs[i]? = some x → x.depth < n := fun h => by
      have := depth_get h
      simp only [PyData.depth] at hd
      omega
    have hnx : nds xs + 1 ≤ 100000 := hn
    have hlx := nds_len xs
    walk_at "xi"
    refine ite_t (decide_eq_true rfl) ?_
    walk_at "xs"
    refine ax_lcB (fun (i : Nat) => W.d (.int (0 + i))) (List.range xs.length) (fun _ => true) (sz_ok (by simp; omega)) (wk_name (by decide)) (ai_rng1 ?_) ?_ ?_
    · walk_at "xs"
      rw [List.length_map]
      exact ⟨by omega, rfl, trivial, rfl⟩
    · intro i hi
      have hi := List.mem_range.mp hi
      have hx : xs[i]? = some xs[i] := List.getElem?_eq_getElem hi
      show AG K _ _ [some (.d (.tuple xs)), some (.d (.tuple xs)), none] _ _
      walk_at "xs"
      rw [show (0 + (i : Int)) = (i : Int) by omega]
      refine o_ixT (.d _) (atI_d hx) ?_
      walk_at "xs"
      refine o_ixT (.d _) (atI_d hx) ?_
      walk_at "xs"
      refine ⟨_, rfl, bds_get hb hx, hdx hx, Nat.le_trans (nd_get hx) (by omega), ?_⟩
      exact ⟨rfl, rfl⟩
    · walk_at "xs"
      refine c_allB ?_
      have e : ((List.range xs.length).map fun _ => true).all id = true := by simp
      rw [e]
      exact q
theorem rd__law_height {K : PySem.W.Frag} : ∀ ws μ R, F__law_height ws μ R → AS K (t__law_height K) { nx := fun _ μ' => R (.d .none) μ', rt := R } (stG n__law_height ws) μ := by
  rintro ws μ R ⟨k, p, n, rfl, hk, hp, hn, q⟩
  show AS K _ _ [some (.m k)] μ
  unfold t__law_height
  walk_at "xs"
  walk_at "dr"
  intro r1 p1 a1 b1 hp1
  walk_at "xs"
  walk_at "dr"
  intro r2 p2 a2 b2 hp2
  rw [mu_set2]
  walk_at "xs"
  refine o_powI (ten_ok (by decide) (by decide)) ?_
  rw [p6]
  walk_at "xs"
  refine NL.d (xs := [.none, .int 0, .int 1, .int r1, .int r2, .int 1000000, .none]) ?_ rfl
  walk_at "xs"
  walk_at "dr"
  intro r3 p3 a3 b3 hp3
  rw [mu_set2]
  obtain ⟨h, hh, ho⟩ : ∃ h, ([.none, .int 0, .int 1, .int r1, .int r2, .int 1000000, .none] : List PyData)[r3.toNat]? = some h ∧ hgt h := by
    have : r3 = 0 ∨ r3 = 1 ∨ r3 = 2 ∨ r3 = 3 ∨ r3 = 4 ∨ r3 = 5 ∨ r3 = 6 := by omega
    rcases this with rfl | rfl | rfl | rfl | rfl | rfl | rfl
    · exact ⟨_, rfl, trivial⟩
    · exact ⟨_, rfl, by decide, by decide⟩
    · exact ⟨_, rfl, by decide, by decide⟩
    · exact ⟨_, rfl, a1, by omega⟩
    · exact ⟨_, rfl, a2, by omega⟩
    · exact ⟨_, rfl, by decide, by decide⟩
    · exact ⟨_, rfl, trivial⟩
  have ha := atI_d hh
  rw [show ((r3.toNat : Nat) : Int) = r3 by omega] at ha
  refine o_ixL (.d _) ha ?_
  exact q _ _ ho hp3
theorem hgt_c {h : PyData} (x : hgt h) : h = .none ∨ ∃ i, h = .int i := by
  cases h with
  | none => exact .inl rfl
  | int i => exact .inr ⟨i, rfl⟩
  | _ => exact x.elim
theorem rd_law {K : PySem.W.Frag} : ∀ ws μ R, F_law ws μ R → AS K (t_law K) { nx := fun _ μ' => R (.d .none) μ', rt := R } (stG n_law ws) μ := by
  rintro ws μ R ⟨ns, rfl, hns, q⟩
  refine as_fz ?_
  show AS K (t_law K) _ [some (.f (wInts ns)), none] μ
  unfold t_law
  walk_at "xs"
  refine as_for (fun (i : Nat) => W.d (.int (0 + i))) (List.range (max 1 (min 2 ((wInts ns).length : Int))).toNat) (fun pre Γ' μ' => ∃ cs z1, Γ' = [some (.f (wInts ns)), z1] ∧ μ' = μ ++ cs) (ai_rng1 ?_) ?_ ?_
  · walk_at "xs"
    exact ⟨by omega, rfl, fun _ _ _ _ => trivial, [], none, rfl, by simp⟩
  · rintro pre x post Γ' μ' e ⟨cs, z1, rfl, rfl⟩
    obtain ⟨ex, xl⟩ := rng_split e
    walk_at "xs"
    refine ⟨ns, _, rfl, hns, by omega, by omega, fun p hp => ?_⟩
    walk_at "xs"
    refine ⟨_, p, rfl, mu_end, hp, fun n p' hp' => ?_⟩
    refine ⟨_, rfl, ?_⟩
    refine ite_f rfl ?_
    refine as_next ?_
    refine ⟨cs ++ [p'], _, rfl, ?_⟩
    rw [mu_setEnd, List.append_assoc]
  · rintro Γ' μ' ⟨cs, z1, rfl, rfl⟩
    walk_at "xs"
    exact Fz.same (.d _) q
/-! tuple places, dicts -/
local macro_rules | `(tactic| walk_at "dk") => `(tactic| first | exact .inl (by walk_at "mu") | exact .inr ⟨_, _, by walk_at "mu"⟩)
local macro_rules | `(tactic| walk_at "x") => `(tactic| (first
  | ((with_reducible refine' o_ixT ?a1 ?a2 ?_); (case a1 => walk_at "lw"); (case a2 => exact rfl))
  | (with_reducible refine' ax_dnew ?_)
  | ((with_reducible refine' o_dinI ?a1 ?_); (case a1 => walk_at "dk"))
  | ((with_reducible refine' o_dnotinI ?a1 ?_); (case a1 => walk_at "dk"))))
theorem mu_at0 {μ cs : Mu} {a : Option C} : (μ ++ a :: cs)[μ.length]? = some a := by simp
theorem mu_at1 {μ cs : Mu} {a b : Option C} : (μ ++ a :: b :: cs)[μ.length + 1]? = some b := by simp
theorem mu_at2 {μ cs : Mu} {a b c : Option C} : (μ ++ a :: b :: c :: cs)[μ.length + 2]? = some c := by simp
theorem mu_at3 {μ cs : Mu} {a b c d : Option C} : (μ ++ a :: b :: c :: d :: cs)[μ.length + 3]? = some d := by simp
theorem mu_at4 {μ cs : Mu} {a b c d e : Option C} : (μ ++ a :: b :: c :: d :: e :: cs)[μ.length + 4]? = some e := by simp
theorem mu_st0 {μ cs : Mu} {a x : Option C} : (μ ++ a :: cs).set μ.length x = μ ++ x :: cs := by simp
theorem mu_st1 {μ cs : Mu} {a b x : Option C} : (μ ++ a :: b :: cs).set (μ.length + 1) x = μ ++ a :: x :: cs := by simp
theorem mu_st2 {μ cs : Mu} {a b c x : Option C} : (μ ++ a :: b :: c :: cs).set (μ.length + 2) x = μ ++ a :: b :: x :: cs := by simp
theorem mu_st3 {μ cs : Mu} {a b c d x : Option C} : (μ ++ a :: b :: c :: d :: cs).set (μ.length + 3) x = μ ++ a :: b :: c :: x :: cs := by simp
theorem mu_st4 {μ cs : Mu} {a b c d e x : Option C} : (μ ++ a :: b :: c :: d :: e :: cs).set (μ.length + 4) x = μ ++ a :: b :: c :: d :: x :: cs := by simp
local macro_rules | `(tactic| walk_at "mu") => `(tactic| with_reducible first | exact mu_at0 | exact mu_at1 | exact mu_at2 | exact mu_at3 | exact mu_at4)
theorem mlen {μ : Mu} {c : Option C} {cs : Mu} : (μ ++ c :: cs).length = μ.length + (cs.length + 1) := by simp
/-- cells in one list -/
local macro_rules | `(tactic| walk_at "nm") => `(tactic| simp only [List.append_assoc, List.cons_append, List.nil_append, mlen, List.length_cons, List.length_nil, Nat.zero_add, Nat.reduceAdd, mu_st0, mu_st1, mu_st2, mu_st3, mu_st4])
/-- the slots within a comprehension -/
local macro_rules | `(tactic| walk_at "wp") => `(tactic| simp only [wipeG, List.foldr_cons, List.foldr_nil, List.set_cons_succ, List.set_cons_zero])
local macro_rules | `(tactic| walk_at "if") => `(tactic| with_reducible first | refine ite_f ne_self ?_ | refine ite_t eq_self' ?_)
/-- steps where each list and tuple is data -/
local macro_rules | `(tactic| walk_at "xd") => `(tactic| repeat (first | walk_at "x" | walk_at "if" | walk_at "d"))
local macro_rules | `(tactic| walk_at "x") => `(tactic| ((with_reducible refine' o_ixL ?a1 ?a2 ?_); (case a1 => with_reducible exact LW.d _); (case a2 => exact rfl)))
theorem mu_at0S {μ cs : Mu} {k : Nat} {p a : Option C} : (μ.set k p ++ a :: cs)[μ.length]? = some a := by rw [List.getElem?_append_right (by simp)]; simp
theorem mu_at1S {μ cs : Mu} {k : Nat} {p a b : Option C} : (μ.set k p ++ a :: b :: cs)[μ.length + 1]? = some b := by rw [List.getElem?_append_right (by simp)]; simp
theorem mu_at2S {μ cs : Mu} {k : Nat} {p a b c : Option C} : (μ.set k p ++ a :: b :: c :: cs)[μ.length + 2]? = some c := by rw [List.getElem?_append_right (by simp)]; simp
theorem mu_st0S {μ cs : Mu} {k : Nat} {p a x : Option C} : (μ.set k p ++ a :: cs).set μ.length x = μ.set k p ++ x :: cs := by rw [List.set_append_right _ _ (by simp)]; simp
theorem mu_st1S {μ cs : Mu} {k : Nat} {p a b x : Option C} : (μ.set k p ++ a :: b :: cs).set (μ.length + 1) x = μ.set k p ++ a :: x :: cs := by rw [List.set_append_right _ _ (by simp)]; simp
theorem mu_st2S {μ cs : Mu} {k : Nat} {p a b c x : Option C} : (μ.set k p ++ a :: b :: c :: cs).set (μ.length + 2) x = μ.set k p ++ a :: b :: x :: cs := by rw [List.set_append_right _ _ (by simp)]; simp
local macro_rules | `(tactic| walk_at "mu") => `(tactic| with_reducible first | exact mu_at0S | exact mu_at1S | exact mu_at2S)
local macro_rules | `(tactic| walk_at "nm") => `(tactic| simp only [List.append_assoc, List.cons_append, List.nil_append, mlen, List.length_cons, List.length_nil, Nat.zero_add, Nat.reduceAdd, mu_st0, mu_st1, mu_st2, mu_st3, mu_st4, mu_st0S, mu_st1S, mu_st2S])
/-- the end of a plain element -/
local macro_rules | `(tactic| walk_at "e") => `(tactic| first | exact rfl | exact ⟨rfl, rfl⟩)
theorem mu_same {μ : Mu} {k : Nat} {p : Option C} (h : μ[k]? = some p) : μ.set k p = μ := by
  apply List.ext_getElem?
  intro i
  rw [List.getElem?_set]
  split
  · rename_i z
    subst z
    rw [if_pos (List.getElem?_eq_some_iff.mp h).1, h]
  · rfl
/-! part base -/
open M45 (Nd dn pln rows lst dep Bal bal ins upd get del cov rowAt isn kno k1 Hs)
theorem hs_node {l r : Nd} {h : PyData} (H : Hs (lst (.node l h r))) : Hs (lst l) ∧ hgt h ∧ Hs (lst r) := ⟨fun x hx => H x (List.mem_append_left _ hx), H h (List.mem_append_right _ (.head _)), fun x hx => H x (List.mem_append_right _ (.tail _ hx))⟩
theorem dep_nl {l r : Nd} {h : PyData} {n : Nat} (z : dep (.node l h r) < n + 1) : dep l < n ∧ dep r < n := by
  simp only [M45.dep] at z
  omega
theorem sl3 {K : PySem.W.Frag} {μ : Mu} {R : W → Mu → Prop} {a b c d e f : PyData} (h : R (.d (.tuple [a, b, c])) μ) : ASl K (rSlU K) (.d (.tuple [a, b, c, d, e, f])) none (some 3) μ R := o_slT (TW.d _) (NT.d (xs := [a, b, c]) h rfl)
/-- the first three parts of a node -/
local macro_rules | `(tactic| walk_at "s3") => `(tactic| (refine sl3 ?_; refine ag_tup TW.d3 rfl (ags_cons (ag_name (ags_cons (ag_name (ags_cons (ag_name (ags_nil ?_))))))); dsimp only [List.set_cons_zero, List.set_cons_succ]))
abbrev dN (g : Int) (l : Nd) (h : PyData) (r : Nd) : PyData := .tuple [dn g l, h, dn g r, .int (rows (.node l h r) : Nat), .int (tot g (lst (.node l h r))), .int (dep (.node l h r) : Nat)]
theorem tot_node (g : Int) (l : Nd) (h : PyData) (r : Nd) : tot g (lst (.node l h r)) = tot g (lst l) + cnt g h + tot g (lst r) := by
  rw [M45.lst, M46.tot_app, M46.tot_cons]
  omega
/-! part nodes -/
theorem rd_rows_of {K : PySem.W.Frag} : ∀ ws μ R, F_rows_of ws μ R → AS K (t_rows_of K) { nx := fun _ μ' => R (.d .none) μ', rt := R } (stG n_rows_of ws) μ := by
  rintro ws μ R ⟨g, t, rfl, q⟩
  cases t with
  | nil =>
    show AS K _ _ [some (.d .none)] μ
    unfold t_rows_of
    walk_at "xi"
    exact q
  | node l h r =>
    show AS K _ _ [some (.d (dN g l h r))] μ
    unfold t_rows_of
    walk_at "xi"
    exact q
theorem rd_total_of {K : PySem.W.Frag} : ∀ ws μ R, F_total_of ws μ R → AS K (t_total_of K) { nx := fun _ μ' => R (.d .none) μ', rt := R } (stG n_total_of ws) μ := by
  rintro ws μ R ⟨g, t, rfl, q⟩
  cases t with
  | nil =>
    show AS K _ _ [some (.d .none)] μ
    unfold t_total_of
    walk_at "xi"
    exact q
  | node l h r =>
    show AS K _ _ [some (.d (dN g l h r))] μ
    unfold t_total_of
    walk_at "xi"
    exact q
theorem rd_depth_of {K : PySem.W.Frag} : ∀ ws μ R, F_depth_of ws μ R → AS K (t_depth_of K) { nx := fun _ μ' => R (.d .none) μ', rt := R } (stG n_depth_of ws) μ := by
  rintro ws μ R ⟨g, t, rfl, q⟩
  cases t with
  | nil =>
    show AS K _ _ [some (.d .none)] μ
    unfold t_depth_of
    walk_at "xi"
    exact q
  | node l h r =>
    show AS K _ _ [some (.d (dN g l h r))] μ
    unfold t_depth_of
    walk_at "xi"
    exact q
theorem rd_joined {K : PySem.W.Frag} : ∀ ws μ R, F_joined ws μ R → AS K (t_joined K) { nx := fun _ μ' => R (.d .none) μ', rt := R } (stG n_joined ws) μ := by
  rintro ws μ R ⟨g, l, h, r, rfl, hh, q⟩
  show AS K _ _ [some (.d (dn g l)), some (.d h), some (.d (dn g r)), some (.d (.int g)), none, none] μ
  unfold t_joined
  walk_at "xs"
  refine ⟨g, l, rfl, ?_⟩
  walk_at "xs"
  refine ⟨g, r, rfl, ?_⟩
  walk_at "xs"
  refine ⟨g, l, rfl, ?_⟩
  walk_at "xs"
  refine ⟨h, g, rfl, hgt_c hh, ?_⟩
  walk_at "xs"
  refine ⟨g, r, rfl, ?_⟩
  walk_at "xs"
  refine ⟨g, l, rfl, ?_⟩
  walk_at "xs"
  refine ⟨g, r, rfl, ?_⟩
  walk_at "xs"
  refine NT.d6 ?_
  have e1 : ((rows l : Int) + 1 + rows r) = ((rows (.node l h r) : Nat) : Int) := by
    simp only [M45.rows]
    omega
  have e2 : (1 + max (dep l : Int) (dep r)) = ((dep (.node l h r) : Nat) : Int) := by
    simp only [M45.dep]
    omega
  rw [e1, e2, ← tot_node]
  exact q
theorem rd_balanced {K : PySem.W.Frag} : ∀ ws μ R, F_balanced ws μ R → AS K (t_balanced K) { nx := fun _ μ' => R (.d .none) μ', rt := R } (stG n_balanced ws) μ := by
  rintro ws μ R ⟨g, l, h, r, rfl, Hl, hh, Hr, q⟩
  show AS K _ _ [some (.d (dn g l)), some (.d h), some (.d (dn g r)), some (.d (.int g)), none, none, none, none, none, none] μ
  unfold t_balanced
  unfold M45.bal at q
  walk_at "xs"
  refine ⟨g, l, rfl, ?_⟩
  walk_at "xs"
  refine ⟨g, r, rfl, ?_⟩
  walk_at "xs"
  by_cases z : dep r + 1 < dep l
  · rw [if_pos z] at q
    refine ite_t (decide_eq_true (by omega)) ?_
    cases l with
    | nil => simp [M45.dep] at z
    | node a o b =>
      obtain ⟨Ha, ho, Hb⟩ := hs_node Hl
      dsimp only at q
      show AS K _ _ [some (.d (dN g a o b)), some (.d h), some (.d (dn g r)), some (.d (.int g)), none, none, none, none, none, none] μ
      walk_at "xs"
      walk_at "s3"
      walk_at "xs"
      refine ⟨g, a, rfl, ?_⟩
      walk_at "xs"
      refine ⟨g, b, rfl, ?_⟩
      walk_at "xs"
      by_cases y : dep b ≤ dep a
      · rw [if_pos y] at q
        refine ite_t (decide_eq_true (by omega)) ?_
        walk_at "xs"
        refine ⟨g, b, h, r, rfl, hh, ?_⟩
        walk_at "xs"
        exact ⟨g, a, o, .node b h r, rfl, ho, q⟩
      · rw [if_neg y] at q
        refine ite_f (decide_eq_false (by omega)) ?_
        cases b with
        | nil => simp [M45.dep] at y
        | node c m d =>
          obtain ⟨Hc, hm, Hd⟩ := hs_node Hb
          dsimp only at q
          refine as_next ?_
          show AS K _ _ [some (.d (dN g a o (.node c m d))), some (.d h), some (.d (dn g r)), some (.d (.int g)), some (.d (dn g a)), some (.d o), some (.d (dN g c m d)), none, none, none] μ
          walk_at "xs"
          walk_at "s3"
          walk_at "xs"
          refine ⟨g, a, o, c, rfl, ho, ?_⟩
          walk_at "xs"
          refine ⟨g, d, h, r, rfl, hh, ?_⟩
          walk_at "xs"
          exact ⟨g, .node a o c, m, .node d h r, rfl, hm, q⟩
  · rw [if_neg z] at q
    refine ite_f (decide_eq_false (by omega)) ?_
    walk_at "xs"
    refine ⟨g, r, rfl, ?_⟩
    walk_at "xs"
    refine ⟨g, l, rfl, ?_⟩
    walk_at "xs"
    by_cases z2 : dep l + 1 < dep r
    · rw [if_pos z2] at q
      refine ite_t (decide_eq_true (by omega)) ?_
      cases r with
      | nil => simp [M45.dep] at z2
      | node a o b =>
        obtain ⟨Ha, ho, Hb⟩ := hs_node Hr
        dsimp only at q
        show AS K _ _ [some (.d (dn g l)), some (.d h), some (.d (dN g a o b)), some (.d (.int g)), none, none, none, none, none, none] μ
        walk_at "xs"
        walk_at "s3"
        walk_at "xs"
        refine ⟨g, b, rfl, ?_⟩
        walk_at "xs"
        refine ⟨g, a, rfl, ?_⟩
        walk_at "xs"
        by_cases y : dep a ≤ dep b
        · rw [if_pos y] at q
          refine ite_t (decide_eq_true (by omega)) ?_
          walk_at "xs"
          refine ⟨g, l, h, a, rfl, hh, ?_⟩
          walk_at "xs"
          exact ⟨g, .node l h a, o, b, rfl, ho, q⟩
        · rw [if_neg y] at q
          refine ite_f (decide_eq_false (by omega)) ?_
          cases a with
          | nil => simp [M45.dep] at y
          | node c m d =>
            obtain ⟨Hc, hm, Hd⟩ := hs_node Ha
            dsimp only at q
            refine as_next ?_
            show AS K _ _ [some (.d (dn g l)), some (.d h), some (.d (dN g (.node c m d) o b)), some (.d (.int g)), some (.d (dN g c m d)), some (.d o), some (.d (dn g b)), none, none, none] μ
            walk_at "xs"
            walk_at "s3"
            walk_at "xs"
            refine ⟨g, l, h, c, rfl, hh, ?_⟩
            walk_at "xs"
            refine ⟨g, d, o, b, rfl, ho, ?_⟩
            walk_at "xs"
            exact ⟨g, .node l h c, m, .node d o b, rfl, hm, q⟩
    · rw [if_neg z2] at q
      refine ite_f (decide_eq_false (by omega)) ?_
      walk_at "xs"
      exact ⟨g, l, h, r, rfl, hh, q⟩
theorem no_with_row {ws : List W} {μ : Mu} {R : W → Mu → Prop} : ¬ F_with_row 0 ws μ R := by
  rintro ⟨_, _, _, _, _, h, _⟩
  exact absurd h (Nat.not_lt_zero _)
theorem rd_with_row {K : PySem.W.Frag} (n : Nat) : ∀ ws μ R, F_with_row (n + 1) ws μ R → AS K (t_with_row K n) { nx := fun _ μ' => R (.d .none) μ', rt := R } (stG n_with_row ws) μ := by
  rintro ws μ R ⟨g, t, i, h, rfl, hd, H, hh, hi, q⟩
  cases t with
  | nil =>
    show AS K _ _ [some (.d .none), some (.d (.int i)), some (.d h), some (.d (.int g)), none, none, none] μ
    unfold t_with_row
    walk_at "xi"
    exact ⟨g, .nil, h, .nil, rfl, hh, q⟩
  | node l o r =>
    obtain ⟨Hl, ho, Hr⟩ := hs_node H
    obtain ⟨dl, dr⟩ := dep_nl hd
    simp only [M45.rows] at hi
    show AS K _ _ [some (.d (dN g l o r)), some (.d (.int i)), some (.d h), some (.d (.int g)), none, none, none] μ
    unfold t_with_row
    rw [M45.ins] at q
    walk_at "xi"
    walk_at "s3"
    walk_at "xs"
    refine ⟨g, l, rfl, ?_⟩
    walk_at "xs"
    by_cases z : i ≤ rows l
    · rw [if_pos z] at q
      refine ite_t (decide_eq_true (by omega)) ?_
      walk_at "xs"
      refine ⟨g, l, i, h, rfl, dl, Hl, hh, z, ?_⟩
      walk_at "xs"
      exact ⟨g, ins l i h, o, r, rfl, M45.hs_ins z Hl hh, ho, Hr, q⟩
    · rw [if_neg z] at q
      refine ite_f (decide_eq_false (by omega)) ?_
      walk_at "xs"
      refine ⟨g, l, rfl, ?_⟩
      walk_at "xs"
      rw [show ((i : Int) - rows l - 1) = ((i - rows l - 1 : Nat) : Int) by omega]
      refine ⟨g, r, i - rows l - 1, h, rfl, dr, Hr, hh, by omega, ?_⟩
      walk_at "xs"
      exact ⟨g, l, o, ins r (i - rows l - 1) h, rfl, Hl, ho, M45.hs_ins (by omega) Hr hh, q⟩
theorem no_with_height {ws : List W} {μ : Mu} {R : W → Mu → Prop} : ¬ F_with_height 0 ws μ R := by
  rintro ⟨_, _, _, _, _, h, _⟩
  exact absurd h (Nat.not_lt_zero _)
theorem rd_with_height {K : PySem.W.Frag} (n : Nat) : ∀ ws μ R, F_with_height (n + 1) ws μ R → AS K (t_with_height K n) { nx := fun _ μ' => R (.d .none) μ', rt := R } (stG n_with_height ws) μ := by
  rintro ws μ R ⟨g, t, i, h, rfl, hd, H, hh, hi, q⟩
  cases t with
  | nil => simp [M45.rows] at hi
  | node l o r =>
    obtain ⟨Hl, ho, Hr⟩ := hs_node H
    obtain ⟨dl, dr⟩ := dep_nl hd
    simp only [M45.rows] at hi
    show AS K _ _ [some (.d (dN g l o r)), some (.d (.int i)), some (.d h), some (.d (.int g)), none, none, none, none] μ
    unfold t_with_height
    rw [M45.upd] at q
    walk_at "xs"
    walk_at "s3"
    walk_at "xs"
    refine ⟨g, l, rfl, ?_⟩
    walk_at "xs"
    by_cases z : i < rows l
    · rw [if_pos z] at q
      refine ite_t (decide_eq_true (by omega)) ?_
      walk_at "xs"
      refine ⟨g, l, i, h, rfl, dl, Hl, hh, z, ?_⟩
      walk_at "xs"
      exact ⟨g, upd l i h, o, r, rfl, ho, q⟩
    · rw [if_neg z] at q
      refine ite_f (decide_eq_false (by omega)) ?_
      walk_at "xs"
      by_cases y : rows l < i
      · rw [if_pos y] at q
        refine ite_t (decide_eq_true (by omega)) ?_
        walk_at "xs"
        rw [show ((i : Int) - rows l - 1) = ((i - rows l - 1 : Nat) : Int) by omega]
        refine ⟨g, r, i - rows l - 1, h, rfl, dr, Hr, hh, by omega, ?_⟩
        walk_at "xs"
        exact ⟨g, l, o, upd r (i - rows l - 1) h, rfl, ho, q⟩
      · rw [if_neg y] at q
        refine ite_f (decide_eq_false (by omega)) ?_
        walk_at "xs"
        exact ⟨g, l, h, r, rfl, hh, q⟩
theorem no_height_at {ws : List W} {μ : Mu} {R : W → Mu → Prop} : ¬ F_height_at 0 ws μ R := by
  rintro ⟨_, _, _, _, h, _⟩
  exact absurd h (Nat.not_lt_zero _)
theorem rd_height_at {K : PySem.W.Frag} (n : Nat) : ∀ ws μ R, F_height_at (n + 1) ws μ R → AS K (t_height_at K n) { nx := fun _ μ' => R (.d .none) μ', rt := R } (stG n_height_at ws) μ := by
  rintro ws μ R ⟨g, t, i, rfl, hd, hi, q⟩
  cases t with
  | nil => simp [M45.rows] at hi
  | node l o r =>
    obtain ⟨dl, dr⟩ := dep_nl hd
    simp only [M45.rows] at hi
    show AS K _ _ [some (.d (dN g l o r)), some (.d (.int i)), none] μ
    unfold t_height_at
    rw [M45.get] at q
    have tw : TW (.d (dN g l o r)) ([dn g l, o, dn g r, .int (rows (.node l o r) : Nat), .int (tot g (lst (.node l o r))), .int (dep (.node l o r) : Nat)].map W.d) := TW.d _
    walk_at "xs"
    refine ⟨g, l, rfl, ?_⟩
    walk_at "xs"
    by_cases z : i < rows l
    · rw [if_pos z] at q
      refine ite_t (decide_eq_true (by omega)) ?_
      walk_at "xs"
      exact ⟨g, l, i, rfl, dl, z, q⟩
    · rw [if_neg z] at q
      refine ite_f (decide_eq_false (by omega)) ?_
      walk_at "xs"
      by_cases y : rows l < i
      · rw [if_pos y] at q
        refine ite_f (decide_eq_false (by omega)) ?_
        walk_at "xs"
        rw [show ((i : Int) - rows l - 1) = ((i - rows l - 1 : Nat) : Int) by omega]
        exact ⟨g, r, i - rows l - 1, rfl, dr, by omega, q⟩
      · rw [if_neg y] at q
        refine ite_t (decide_eq_true (by omega)) ?_
        walk_at "xs"
        exact q
/-! part nodes2 -/
theorem no_without_row {ws : List W} {μ : Mu} {R : W → Mu → Prop} : ¬ F_without_row 0 ws μ R := by
  rintro ⟨_, _, _, _, h, _⟩
  exact absurd h (Nat.not_lt_zero _)
theorem rd_without_row {K : PySem.W.Frag} (n : Nat) : ∀ ws μ R, F_without_row (n + 1) ws μ R → AS K (t_without_row K n) { nx := fun _ μ' => R (.d .none) μ', rt := R } (stG n_without_row ws) μ := by
  rintro ws μ R ⟨g, t, i, rfl, hd, h60, H, hi, q⟩
  cases t with
  | nil => simp [M45.rows] at hi
  | node l o r =>
    obtain ⟨Hl, ho, Hr⟩ := hs_node H
    obtain ⟨dl, dr⟩ := dep_nl hd
    obtain ⟨dl2, dr2⟩ := dep_nl (Nat.lt_succ_of_lt h60)
    simp only [M45.rows] at hi
    show AS K _ _ [some (.d (dN g l o r)), some (.d (.int i)), some (.d (.int g)), none, none, none, none] μ
    unfold t_without_row
    rw [M45.del.eq_def] at q
    dsimp only at q
    walk_at "xs"
    walk_at "s3"
    walk_at "xs"
    refine ⟨g, l, rfl, ?_⟩
    walk_at "xs"
    by_cases z : i < rows l
    · rw [if_pos z] at q
      refine ite_t (decide_eq_true (by omega)) ?_
      walk_at "xs"
      refine ⟨g, l, i, rfl, dl, dl2, Hl, z, ?_⟩
      walk_at "xs"
      exact ⟨g, del l i, o, r, rfl, M45.hs_del z Hl, ho, Hr, q⟩
    · rw [if_neg z] at q
      refine ite_f (decide_eq_false (by omega)) ?_
      walk_at "xs"
      by_cases y : rows l < i
      · rw [if_pos y] at q
        refine ite_t (decide_eq_true (by omega)) ?_
        walk_at "xs"
        rw [show ((i : Int) - rows l - 1) = ((i - rows l - 1 : Nat) : Int) by omega]
        refine ⟨g, r, i - rows l - 1, rfl, dr, dr2, Hr, by omega, ?_⟩
        walk_at "xs"
        exact ⟨g, l, o, del r (i - rows l - 1), rfl, Hl, ho, M45.hs_del (by omega) Hr, q⟩
      · rw [if_neg y] at q
        refine ite_f (decide_eq_false (by omega)) ?_
        cases r with
        | nil =>
          dsimp only at q
          refine as_next ?_
          show AS K _ _ [some (.d (dN g l o .nil)), some (.d (.int i)), some (.d (.int g)), some (.d (dn g l)), some (.d o), some (.d .none), some (.d (.int (rows l : Nat)))] μ
          walk_at "xi"
          exact q
        | node a m b =>
          dsimp only at q
          refine as_next ?_
          show AS K _ _ [some (.d (dN g l o (.node a m b))), some (.d (.int i)), some (.d (.int g)), some (.d (dn g l)), some (.d o), some (.d (dN g a m b)), some (.d (.int (rows l : Nat)))] μ
          have r0 : 0 < rows (.node a m b) := by simp only [M45.rows]; omega
          walk_at "xi"
          refine ⟨g, .node a m b, 0, rfl, dr2, r0, ?_⟩
          walk_at "xs"
          refine ⟨g, .node a m b, 0, rfl, dr, dr2, Hr, r0, ?_⟩
          walk_at "xs"
          exact ⟨g, l, get (.node a m b) 0, del (.node a m b) 0, rfl, Hl, Hr _ (M45.get_mem r0), M45.hs_del r0 Hr, q⟩
theorem no_offset_of {ws : List W} {μ : Mu} {R : W → Mu → Prop} : ¬ F_offset_of 0 ws μ R := by
  rintro ⟨_, _, _, _, h, _⟩
  exact absurd h (Nat.not_lt_zero _)
theorem rd_offset_of {K : PySem.W.Frag} (n : Nat) : ∀ ws μ R, F_offset_of (n + 1) ws μ R → AS K (t_offset_of K n) { nx := fun _ μ' => R (.d .none) μ', rt := R } (stG n_offset_of ws) μ := by
  rintro ws μ R ⟨g, t, i, rfl, hd, H, hi, q⟩
  cases t with
  | nil =>
    show AS K _ _ [some (.d .none), some (.d (.int i)), some (.d (.int g)), none, none, none, none] μ
    unfold t_offset_of
    walk_at "xi"
    rw [M45.lst, List.take_nil] at q
    exact q
  | node l o r =>
    obtain ⟨Hl, ho, Hr⟩ := hs_node H
    obtain ⟨dl, dr⟩ := dep_nl hd
    simp only [M45.rows] at hi
    show AS K _ _ [some (.d (dN g l o r)), some (.d (.int i)), some (.d (.int g)), none, none, none, none] μ
    unfold t_offset_of
    rw [M45.lst] at q
    walk_at "xi"
    walk_at "s3"
    walk_at "xs"
    refine ⟨g, l, rfl, ?_⟩
    walk_at "xs"
    by_cases z : i ≤ rows l
    · refine ite_t (decide_eq_true (by omega)) ?_
      walk_at "xs"
      rw [List.take_append_of_le_length (by rw [← M45.rows_lst]; exact z)] at q
      exact ⟨g, l, i, rfl, dl, Hl, z, q⟩
    · refine ite_f (decide_eq_false (by omega)) ?_
      walk_at "xs"
      refine ⟨g, l, rfl, ?_⟩
      walk_at "xs"
      rw [show ((i : Int) - rows l - 1) = ((i - rows l - 1 : Nat) : Int) by omega]
      refine ⟨g, r, i - rows l - 1, rfl, dr, Hr, by omega, ?_⟩
      walk_at "xs"
      refine ⟨g, l, rfl, ?_⟩
      walk_at "xs"
      refine ⟨o, g, rfl, hgt_c ho, ?_⟩
      walk_at "xs"
      obtain ⟨j, hj⟩ : ∃ j, i = (lst l).length + (j + 1) := ⟨i - rows l - 1, by rw [← M45.rows_lst]; omega⟩
      rw [hj, List.take_length_add_append, List.take_succ_cons, M46.tot_app, M46.tot_cons, ← Int.add_assoc] at q
      rw [M45.rows_lst, hj, show (lst l).length + (j + 1) - (lst l).length - 1 = j by omega]
      exact q
theorem no_covering {ws : List W} {μ : Mu} {R : W → Mu → Prop} : ¬ F_covering 0 ws μ R := by
  rintro ⟨_, _, _, _, h, _⟩
  exact absurd h (Nat.not_lt_zero _)
theorem rd_covering {K : PySem.W.Frag} (n : Nat) : ∀ ws μ R, F_covering (n + 1) ws μ R → AS K (t_covering K n) { nx := fun _ μ' => R (.d .none) μ', rt := R } (stG n_covering ws) μ := by
  rintro ws μ R ⟨g, t, o, rfl, hd, hg, H, h0, h1, q⟩
  cases t with
  | nil => exact absurd (show o < 0 from h1) (by omega)
  | node l h r =>
    obtain ⟨Hl, hh, Hr⟩ := hs_node H
    obtain ⟨dl, dr⟩ := dep_nl hd
    rw [tot_node] at h1
    rw [M45.lst, M45.cov_app hg Hl h0] at q
    show AS K _ _ [some (.d (dN g l h r)), some (.d (.int o)), some (.d (.int g)), none, none, none, none] μ
    unfold t_covering
    walk_at "xs"
    walk_at "s3"
    walk_at "xs"
    refine ⟨g, l, rfl, ?_⟩
    walk_at "xs"
    by_cases z : o < tot g (lst l)
    · rw [if_pos z] at q
      refine ite_t (decide_eq_true z) ?_
      walk_at "xs"
      exact ⟨g, l, o, rfl, dl, hg, Hl, h0, z, q⟩
    · rw [if_neg z] at q
      refine ite_f (decide_eq_false z) ?_
      walk_at "xs"
      refine ⟨g, l, rfl, ?_⟩
      walk_at "xs"
      refine ⟨h, g, rfl, hgt_c hh, ?_⟩
      walk_at "xs"
      rw [M45.cov] at q
      by_cases y : o < tot g (lst l) + cnt g h
      · rw [if_pos (show o - tot g (lst l) < cnt g h by omega)] at q
        refine ite_t (decide_eq_true y) ?_
        walk_at "xs"
        refine ⟨g, l, rfl, ?_⟩
        rw [M45.rows_lst]
        exact q
      · rw [if_neg (show ¬ o - tot g (lst l) < cnt g h by omega)] at q
        refine ite_f (decide_eq_false y) ?_
        walk_at "xs"
        refine ⟨g, l, rfl, ?_⟩
        walk_at "xs"
        refine ⟨g, r, o - (tot g (lst l) + cnt g h), rfl, dr, hg, Hr, by omega, by omega, ?_⟩
        walk_at "xs"
        rw [show o - (tot g (lst l) + cnt g h) = o - tot g (lst l) - cnt g h by omega]
        rw [show ((rows l : Int) + 1 + ((cov g (lst r) (o - tot g (lst l) - cnt g h) : Nat) : Int)) = (((lst l).length + (1 + cov g (lst r) (o - tot g (lst l) - cnt g h)) : Nat) : Int) by rw [M45.rows_lst]; omega]
        exact q
theorem no_plain_tree {ws : List W} {μ : Mu} {R : W → Mu → Prop} : ¬ F_plain_tree 0 ws μ R := by
  rintro ⟨_, _, _, h, _⟩
  exact absurd h (Nat.not_lt_zero _)
theorem rd_plain_tree {K : PySem.W.Frag} (n : Nat) : ∀ ws μ R, F_plain_tree (n + 1) ws μ R → AS K (t_plain_tree K n) { nx := fun _ μ' => R (.d .none) μ', rt := R } (stG n_plain_tree ws) μ := by
  rintro ws μ R ⟨g, t, rfl, hd, q⟩
  cases t with
  | nil =>
    show AS K _ _ [some (.d .none), none, none, none, none, none, none] μ
    unfold t_plain_tree
    walk_at "xi"
    exact q
  | node l h r =>
    obtain ⟨dl, dr⟩ := dep_nl hd
    show AS K _ _ [some (.d (dN g l h r)), none, none, none, none, none, none] μ
    unfold t_plain_tree
    walk_at "xi"
    simp only [List.map_cons, List.map_nil]
    walk_at "xs"
    refine ⟨g, l, rfl, dl, ?_⟩
    walk_at "xs"
    refine ⟨g, r, rfl, dr, ?_⟩
    walk_at "xs"
    refine NT.d5 ?_
    exact q
theorem no_heights_of {ws : List W} {μ : Mu} {R : W → Mu → Prop} : ¬ F_heights_of 0 ws μ R := by
  rintro ⟨_, _, _, _, h, _⟩
  exact absurd h (Nat.not_lt_zero _)
theorem rd_heights_of {K : PySem.W.Frag} (n : Nat) : ∀ ws μ R, F_heights_of (n + 1) ws μ R → AS K (t_heights_of K n) { nx := fun _ μ' => R (.d .none) μ', rt := R } (stG n_heights_of ws) μ := by
  rintro ws μ R ⟨g, t, b, rfl, hd, hl, q⟩
  cases t with
  | nil =>
    have e : (if b = true then dn g .nil else pln g .nil) = .none := by cases b <;> rfl
    show AS K _ _ [some (.d (if b = true then dn g .nil else pln g .nil))] μ
    rw [e]
    unfold t_heights_of
    walk_at "xi"
    walk_at "d"
    exact q
  | node l h r =>
    obtain ⟨dl, dr⟩ := dep_nl hd
    simp only [M45.rows] at hl
    obtain ⟨e, hx⟩ : ∃ e : List PyData, (if b = true then dn g (.node l h r) else pln g (.node l h r)) = .tuple ((if b = true then dn g l else pln g l) :: h :: (if b = true then dn g r else pln g r) :: e) := by
      cases b <;> exact ⟨_, rfl⟩
    show AS K _ _ [some (.d (if b = true then dn g (.node l h r) else pln g (.node l h r)))] μ
    rw [hx]
    unfold t_heights_of
    have tw : TW (.d (.tuple ((if b = true then dn g l else pln g l) :: h :: (if b = true then dn g r else pln g r) :: e))) (W.d (if b = true then dn g l else pln g l) :: W.d h :: W.d (if b = true then dn g r else pln g r) :: e.map W.d) := TW.d _
    have ll := M45.rows_lst l
    have lr := M45.rows_lst r
    walk_at "xi"
    refine o_ixT tw (Pd.atI_get (i := 0) rfl) ?_
    walk_at "xi"
    refine ⟨g, l, b, rfl, dl, by omega, ?_⟩
    walk_at "xi"
    refine o_ixT tw (Pd.atI_get (i := 1) rfl) ?_
    walk_at "xi"
    walk_at "d"
    refine o_addL (.d _) (.d _) (by rw [List.length_map, List.length_map]; exact sz_ok (by simp; omega)) ?_
    rw [← List.map_append]
    refine NL.dd ?_
    walk_at "xi"
    refine o_ixT tw (Pd.atI_get (i := 2) rfl) ?_
    walk_at "xi"
    refine ⟨g, r, b, rfl, dr, by omega, ?_⟩
    refine o_addL (.d _) (.d _) (by rw [List.length_map, List.length_map]; exact sz_ok (by simp; omega)) ?_
    rw [← List.map_append]
    refine NL.dd ?_
    rw [List.append_assoc]
    exact q
theorem rd_heights_in {K : PySem.W.Frag} : ∀ ws μ R, F_heights_in ws μ R → AS K (t_heights_in K) { nx := fun _ μ' => R (.d .none) μ', rt := R } (stG n_heights_in ws) μ := by
  rintro ws μ R ⟨g, t, b, rfl, hd, hl, q⟩
  show AS K _ _ [some (.d (if b = true then dn g t else pln g t))] μ
  unfold t_heights_in
  walk_at "xi"
  exact ⟨g, t, b, rfl, hd, hl, q⟩
theorem no__law_tree_rows {ws : List W} {μ : Mu} {R : W → Mu → Prop} : ¬ F__law_tree_rows 0 ws μ R := by
  rintro ⟨_, _, _, h, _⟩
  exact absurd h (Nat.not_lt_zero _)
theorem rd__law_tree_rows {K : PySem.W.Frag} (n : Nat) : ∀ ws μ R, F__law_tree_rows (n + 1) ws μ R → AS K (t__law_tree_rows K n) { nx := fun _ μ' => R (.d .none) μ', rt := R } (stG n__law_tree_rows ws) μ := by
  rintro ws μ R ⟨g, t, rfl, hd, hl, q⟩
  cases t with
  | nil =>
    show AS K _ _ [some (.d .none)] μ
    unfold t__law_tree_rows
    walk_at "xi"
    walk_at "d"
    exact q
  | node l h r =>
    obtain ⟨dl, dr⟩ := dep_nl hd
    simp only [M45.rows] at hl
    show AS K _ _ [some (.d (.tuple [pln g l, h, pln g r, .int (rows (.node l h r) : Nat), .int (tot g (lst (.node l h r)))]))] μ
    unfold t__law_tree_rows
    have ll := M45.rows_lst l
    have lr := M45.rows_lst r
    walk_at "xi"
    refine ⟨g, l, rfl, dl, by omega, ?_⟩
    walk_at "xi"
    walk_at "d"
    refine o_addL (.d _) (.d _) (by rw [List.length_map, List.length_map]; exact sz_ok (by simp; omega)) ?_
    rw [← List.map_append]
    refine NL.dd ?_
    walk_at "xi"
    refine ⟨g, r, rfl, dr, by omega, ?_⟩
    refine o_addL (.d _) (.d _) (by rw [List.length_map, List.length_map]; exact sz_ok (by simp; omega)) ?_
    rw [← List.map_append]
    refine NL.dd ?_
    rw [List.append_assoc]
    exact q
theorem rd_need_guess {K : PySem.W.Frag} (xk : L2.XK) : ∀ ws μ R S, F_need_guess ws μ R S → AS K (t_need_guess K fun c d _ H => xk c d H) (xD R S xk) (stG n_need_guess ws) μ := by
  rintro ws μ R S ⟨g, rfl, q1, q2⟩
  show AS K _ _ [some (.d (.int g))] μ
  unfold t_need_guess
  walk_at "xs"
  by_cases z : g < 1
  · refine ite_t (decide_eq_true z) ?_
    walk_at "xs"
    exact q2 z
  · refine ite_f (decide_eq_false z) ?_
    walk_at "xs"
    exact q1 (by omega)
theorem rd_need_height {K : PySem.W.Frag} (xk : L2.XK) : ∀ ws μ R S, F_need_height ws μ R S → AS K (t_need_height K fun c d _ H => xk c d H) (xD R S xk) (stG n_need_height ws) μ := by
  rintro ws μ R S ⟨h, rfl, ⟨hh, q⟩ | ⟨i, hi, rfl, q⟩⟩
  · show AS K _ _ [some (.d h)] μ
    unfold t_need_height
    cases h with
    | none =>
      walk_at "xi"
      exact q
    | int i =>
      have z : ¬ i < 0 := by have := hh.1; omega
      walk_at "xi"
      refine ite_f (decide_eq_false z) ?_
      walk_at "xs"
      exact q
    | _ => exact hh.elim
  · show AS K _ _ [some (.d (.int i))] μ
    unfold t_need_height
    walk_at "xi"
    refine ite_t (decide_eq_true hi) ?_
    walk_at "xs"
    exact q
/-! part cls -/
theorem HX_g {g : Int} {t : Nd} {a m : Nat} : (HX g t a m).lookup ("guess" : Str) = some (.d (.int g)) := rfl
theorem HX_r {g : Int} {t : Nd} {a m : Nat} : (HX g t a m).lookup ("root" : Str) = some (.d (dn g t)) := rfl
theorem HX_k {g : Int} {t : Nd} {a m : Nat} : (HX g t a m).lookup ("known_ones" : Str) = some (.d (.int a)) := rfl
theorem HX_m {g : Int} {t : Nd} {a m : Nat} : (HX g t a m).lookup ("many" : Str) = some (.d (.int m)) := rfl
theorem HX_len {g : Int} {t : Nd} {a m : Nat} : (HX g t a m).length < 1000 := by show 4 < 1000; decide
theorem HX_pr {g : Int} {t u : Nd} {a m : Nat} : putFW "root" (.d (dn g u)) (HX g t a m) = HX g u a m := rfl
theorem HX_pk {g : Int} {t : Nd} {a m b : Nat} : putFW "known_ones" (.d (.int (b : Nat))) (HX g t a m) = HX g t b m := rfl
theorem HX_pm {g : Int} {t : Nd} {a m b : Nat} : putFW "many" (.d (.int (b : Nat))) (HX g t a m) = HX g t a b := rfl
theorem HN_total {g : Int} {t : Nd} {a m : Nat} : (HX g t a m).lookup ("total" : Str) = none := rfl
theorem HN_row_at {g : Int} {t : Nd} {a m : Nat} : (HX g t a m).lookup ("row_at" : Str) = none := rfl
theorem HN_need_index {g : Int} {t : Nd} {a m : Nat} : (HX g t a m).lookup ("need_index" : Str) = none := rfl
theorem HN_height {g : Int} {t : Nd} {a m : Nat} : (HX g t a m).lookup ("height" : Str) = none := rfl
theorem HN_offset {g : Int} {t : Nd} {a m : Nat} : (HX g t a m).lookup ("offset" : Str) = none := rfl
theorem HN_known {g : Int} {t : Nd} {a m : Nat} : (HX g t a m).lookup ("known" : Str) = none := rfl
theorem HN_all_heights {g : Int} {t : Nd} {a m : Nat} : (HX g t a m).lookup ("all_heights" : Str) = none := rfl
theorem HN_tree {g : Int} {t : Nd} {a m : Nat} : (HX g t a m).lookup ("tree" : Str) = none := rfl
theorem HN_insert {g : Int} {t : Nd} {a m : Nat} : (HX g t a m).lookup ("insert" : Str) = none := rfl
theorem HN_learn {g : Int} {t : Nd} {a m : Nat} : (HX g t a m).lookup ("learn" : Str) = none := rfl
theorem HN_remove {g : Int} {t : Nd} {a m : Nat} : (HX g t a m).lookup ("remove" : Str) = none := rfl
theorem HN_counts {g : Int} {t : Nd} {a m : Nat} : (HX g t a m).lookup ("counts" : Str) = none := rfl
theorem hattrs {K : PySem.W.Frag} (CF : ClsF K) : AttrOk K "Heights" "guess" ∧ AttrOk K "Heights" "root" ∧ AttrOk K "Heights" "known_ones" ∧ AttrOk K "Heights" "many" := ⟨CF.a_Heights_guess, CF.a_Heights_root, CF.a_Heights_known_ones, CF.a_Heights_many⟩
/-- an attribute of a Heights whose cell stands in the context -/
local macro_rules | `(tactic| walk_at "fl") => `(tactic| (refine ax_fld ?_; refine ax_var rfl ?_; refine ⟨_, "Heights", _, _, rfl, by assumption, by assumption, by first | exact HX_g | exact HX_r | exact HX_k | exact HX_m, ?_⟩))
/-- the object of a method call -/
local macro_rules | `(tactic| walk_at "ob") => `(tactic| (refine ax_var rfl ?_; refine ⟨_, _, rfl, by assumption, by first | exact HN_total | exact HN_row_at | exact HN_need_index | exact HN_height | exact HN_offset | exact HN_known | exact HN_all_heights | exact HN_tree | exact HN_insert | exact HN_learn | exact HN_remove | exact HN_counts, ?_⟩))
theorem HOk.deep {g : Int} {t : Nd} (h : HOk g t) : dep t < 60 := Nat.lt_trans (M45.bal_deep60 h.b (by have := h.n; omega)) (by decide)
theorem HOk.g0 {g : Int} {t : Nd} (h : HOk g t) : 0 ≤ g := by have := h.g1; omega
theorem rd_Heights_total {K : PySem.W.Frag} (CF : ClsF K) : ∀ ws μ R, F_Heights_total ws μ R → AS K (t_Heights_total K) { nx := fun _ μ' => R (.d .none) μ', rt := R } (stG n_Heights_total ws) μ := by
  rintro ws μ R ⟨k, g, t, rfl, ho, q⟩
  obtain ⟨c1, c2, c3, c4⟩ := hattrs CF
  show AS K _ _ [some (.m k)] μ
  unfold t_Heights_total
  walk_at "xs"
  walk_at "fl"
  walk_at "xs"
  exact ⟨g, t, rfl, q⟩
theorem rd_Heights_known {K : PySem.W.Frag} (CF : ClsF K) : ∀ ws μ R, F_Heights_known ws μ R → AS K (t_Heights_known K) { nx := fun _ μ' => R (.d .none) μ', rt := R } (stG n_Heights_known ws) μ := by
  rintro ws μ R ⟨k, g, t, rfl, ho, q⟩
  obtain ⟨c1, c2, c3, c4⟩ := hattrs CF
  show AS K _ _ [some (.m k)] μ
  unfold t_Heights_known
  walk_at "xs"
  walk_at "fl"
  exact q
theorem rd_Heights_all_heights {K : PySem.W.Frag} (CF : ClsF K) : ∀ ws μ R, F_Heights_all_heights ws μ R → AS K (t_Heights_all_heights K) { nx := fun _ μ' => R (.d .none) μ', rt := R } (stG n_Heights_all_heights ws) μ := by
  rintro ws μ R ⟨k, g, t, rfl, ho, ok, q⟩
  obtain ⟨c1, c2, c3, c4⟩ := hattrs CF
  show AS K _ _ [some (.m k)] μ
  unfold t_Heights_all_heights
  walk_at "xs"
  walk_at "fl"
  walk_at "xs"
  exact ⟨g, t, true, rfl, ok.deep, by have := ok.n; omega, q⟩
theorem rd_Heights___len__ {K : PySem.W.Frag} : ∀ ws μ R, F_Heights___len__ ws μ R → AS K (t_Heights___len__ K) { nx := fun _ μ' => R (.d .none) μ', rt := R } (stG n_Heights___len__ ws) μ := by
  rintro ws μ R ⟨k, g, t, rfl, ho, ok, q⟩
  show AS K _ _ [some (.m k)] μ
  unfold t_Heights___len__
  walk_at "xs"
  refine ax_meth ?_
  walk_at "ob"
  walk_at "xs"
  refine ⟨k, g, t, rfl, ho, ok, ?_⟩
  walk_at "xs"
  rw [List.length_map, ← M45.rows_lst]
  exact q
theorem rd_Heights_tree {K : PySem.W.Frag} (CF : ClsF K) : ∀ ws μ R, F_Heights_tree ws μ R → AS K (t_Heights_tree K) { nx := fun _ μ' => R (.d .none) μ', rt := R } (stG n_Heights_tree ws) μ := by
  rintro ws μ R ⟨k, g, t, rfl, ho, ok, q⟩
  obtain ⟨c1, c2, c3, c4⟩ := hattrs CF
  show AS K _ _ [some (.m k)] μ
  unfold t_Heights_tree
  walk_at "xs"
  walk_at "fl"
  walk_at "xs"
  exact ⟨g, t, rfl, ok.deep, q⟩
theorem rd_Heights_row_at {K : PySem.W.Frag} (CF : ClsF K) : ∀ ws μ R, F_Heights_row_at ws μ R → AS K (t_Heights_row_at K) { nx := fun _ μ' => R (.d .none) μ', rt := R } (stG n_Heights_row_at ws) μ := by
  rintro ws μ R ⟨k, g, t, o, rfl, ho, ok, q⟩
  obtain ⟨c1, c2, c3, c4⟩ := hattrs CF
  show AS K _ _ [some (.m k), some (.d (.int o))] μ
  unfold t_Heights_row_at
  unfold M45.rowAt at q
  walk_at "xs"
  refine ax_chain ?_
  walk_at "xs"
  by_cases z : 0 ≤ o
  · refine ite_t (decide_eq_true z) ?_
    refine ax_meth ?_
    walk_at "ob"
    walk_at "xs"
    refine ⟨k, g, t, rfl, ho, ?_⟩
    walk_at "xs"
    by_cases y : o < tot g (lst t)
    · rw [if_pos ⟨z, y⟩] at q
      refine ite_t (decide_eq_true y) ?_
      walk_at "xs"
      walk_at "fl"
      walk_at "xs"
      walk_at "fl"
      walk_at "xs"
      exact ⟨g, t, o, rfl, ok.deep, ok.g0, ok.h, z, y, q⟩
    · rw [if_neg (by omega)] at q
      refine ite_f (decide_eq_false y) ?_
      walk_at "xs"
      exact q
  · rw [if_neg (by omega)] at q
    refine ite_f (decide_eq_false z) ?_
    walk_at "xi"
    exact q
theorem rd_Heights_need_index {K : PySem.W.Frag} (xk : L2.XK) : ∀ ws μ R S, F_Heights_need_index ws μ R S → AS K (t_Heights_need_index K fun c d _ H => xk c d H) (xD R S xk) (stG n_Heights_need_index ws) μ := by
  rintro ws μ R S ⟨k, i, m, rfl, q1, q2⟩
  show AS K _ _ [some (.m k), some (.d (.int i)), some (.d (.int m))] μ
  unfold t_Heights_need_index
  walk_at "xs"
  refine ax_chain ?_
  walk_at "xs"
  by_cases z : 0 ≤ i
  · refine ite_t (decide_eq_true z) ?_
    walk_at "xs"
    by_cases y : i < m
    · refine ite_f (by rw [decide_eq_true y]; rfl) ?_
      walk_at "xs"
      exact q1 ⟨z, y⟩
    · refine ite_t (by rw [decide_eq_false y]; rfl) ?_
      walk_at "xs"
      exact q2 fun h => y h.2
  · refine ite_f (decide_eq_false z) ?_
    walk_at "xi"
    exact q2 fun h => z h.1
theorem rd_Heights_height {K : PySem.W.Frag} (CF : ClsF K) (xk : L2.XK) : ∀ ws μ R S, F_Heights_height ws μ R S → AS K (t_Heights_height K fun c d _ H => xk c d H) (xD R S xk) (stG n_Heights_height ws) μ := by
  rintro ws μ R S ⟨k, g, t, i, rfl, ho, ok, q1, q2⟩
  obtain ⟨c1, c2, c3, c4⟩ := hattrs CF
  show AS K _ _ [some (.m k), some (.d (.int i))] μ
  unfold t_Heights_height
  refine as_seq (as_dropX (axx_meth ?_))
  walk_at "ob"
  walk_at "xs"
  walk_at "fl"
  walk_at "xs"
  refine ⟨k, i, rows t, rfl, fun z => ?_, fun z => q2 z⟩
  obtain ⟨j, rfl⟩ : ∃ j : Nat, i = j := ⟨i.toNat, by omega⟩
  walk_at "xs"
  walk_at "fl"
  walk_at "xs"
  exact ⟨g, t, j, rfl, ok.deep, by omega, q1 j rfl (by omega)⟩
theorem rd_Heights_offset {K : PySem.W.Frag} (CF : ClsF K) (xk : L2.XK) : ∀ ws μ R S, F_Heights_offset ws μ R S → AS K (t_Heights_offset K fun c d _ H => xk c d H) (xD R S xk) (stG n_Heights_offset ws) μ := by
  rintro ws μ R S ⟨k, g, t, i, rfl, ho, ok, q1, q2⟩
  obtain ⟨c1, c2, c3, c4⟩ := hattrs CF
  show AS K _ _ [some (.m k), some (.d (.int i))] μ
  unfold t_Heights_offset
  refine as_seq (as_dropX (axx_meth ?_))
  walk_at "ob"
  walk_at "xs"
  walk_at "fl"
  walk_at "xs"
  refine ⟨k, i, (rows t : Int) + 1, rfl, fun z => ?_, fun z => q2 z⟩
  obtain ⟨j, rfl⟩ : ∃ j : Nat, i = j := ⟨i.toNat, by omega⟩
  walk_at "xs"
  walk_at "fl"
  walk_at "xs"
  walk_at "fl"
  walk_at "xs"
  exact ⟨g, t, j, rfl, ok.deep, ok.h, by omega, q1 j rfl (by omega)⟩
theorem rd_Heights___init__ {K : PySem.W.Frag} (CF : ClsF K) (xk : L2.XK) : ∀ ws μ R S, F_Heights___init__ ws μ R S → AS K (t_Heights___init__ K fun c d _ H => xk c d H) (xD R S xk) (stG n_Heights___init__ ws) μ := by
  rintro ws μ R S ⟨k, g, rfl, ho, q1, q2⟩
  obtain ⟨c1, c2, c3, c4⟩ := hattrs CF
  show AS K _ _ [some (.m k), some (.d (.int g))] μ
  unfold t_Heights___init__
  walk_at "xs"
  refine ⟨g, rfl, fun z => ?_, fun z => q2 z⟩
  walk_at "xs"
  refine as_fld ?_
  refine ax_var rfl ?_
  refine ax_var rfl ?_
  refine ⟨k, "Heights", [], rfl, ho, c1, by decide, ?_⟩
  walk_at "xs"
  refine as_fld ?_
  walk_at "xs"
  refine ⟨k, "Heights", _, rfl, mu_set ho, c2, by show 1 < 1000; decide, ?_⟩
  rw [mu_set2]
  walk_at "xs"
  refine as_fld ?_
  walk_at "xs"
  refine ⟨k, "Heights", _, rfl, mu_set ho, c3, by show 2 < 1000; decide, ?_⟩
  rw [mu_set2]
  walk_at "xs"
  refine as_fld ?_
  walk_at "xs"
  refine ⟨k, "Heights", _, rfl, mu_set ho, c4, by show 3 < 1000; decide, ?_⟩
  rw [mu_set2]
  exact q1 z
theorem isn_h {h : PyData} (hh : hgt h) : isNon (.d h) = isn h := by
  cases h with
  | none => rfl
  | int i => rfl
  | _ => exact hh.elim
theorem k1_i {h : PyData} (hh : hgt h) : (if (if true = true then !isNon (.d h) else isNon (.d h)) = true then (1 : Int) else 0) = (k1 h : Nat) := by
  rw [if_pos rfl, isn_h hh]
  unfold M45.k1
  cases isn h <;> rfl
/-! part deeds -/
theorem hh_ins {g : Int} {t : Nd} {j : Nat} {h : PyData} (hj : j ≤ rows t) : HX g (ins t j h) (kno (lst t) + k1 h) (rows t + 1) = HH g (ins t j h) := by
  show _ = HX g (ins t j h) (kno (lst (ins t j h))) (rows (ins t j h))
  rw [M45.kno_ins hj, M45.rows_ins hj]
theorem rd_Heights_insert {K : PySem.W.Frag} (CF : ClsF K) (xk : L2.XK) : ∀ ws μ R S, F_Heights_insert ws μ R S → AS K (t_Heights_insert K fun c d _ H => xk c d H) (xD R S xk) (stG n_Heights_insert ws) μ := by
  rintro ws μ R S ⟨k, g, t, i, h, rfl, ho, ok, q1, q2, q3⟩
  obtain ⟨c1, c2, c3, c4⟩ := hattrs CF
  show AS K _ _ [some (.m k), some (.d (.int i)), some (.d h)] μ
  unfold t_Heights_insert
  refine as_seq (as_dropX (axx_meth ?_))
  walk_at "ob"
  walk_at "xs"
  walk_at "fl"
  walk_at "xs"
  refine ⟨k, i, (rows t : Int) + 1, rfl, fun z => ?_, fun z => q2 z⟩
  obtain ⟨j, rfl⟩ : ∃ j : Nat, i = j := ⟨i.toNat, by omega⟩
  have hj : j ≤ rows t := by omega
  refine as_seq (as_dropX (axx_call ?_))
  walk_at "xs"
  refine ⟨h, rfl, ?_⟩
  rcases q3 with hh | ⟨x, hx, rfl, q3⟩
  · refine .inl ⟨hh, ?_⟩
    refine as_seq (as_fld ?_)
    walk_at "xs"
    walk_at "fl"
    walk_at "xs"
    walk_at "fl"
    walk_at "xs"
    refine ⟨g, t, j, h, rfl, ok.deep, ok.h, hh, hj, ?_⟩
    refine ax_var rfl ?_
    refine ⟨k, "Heights", _, rfl, ho, c2, HX_len, ?_⟩
    rw [HX_pr]
    refine as_seq (as_fldaug ?_)
    refine ax_var rfl ?_
    refine ⟨k, "Heights", _, _, rfl, mu_set ho, c3, HX_k, ?_⟩
    walk_at "xs"
    rw [k1_i hh]
    refine ⟨_, mu_set ho, HX_len, ?_⟩
    rw [show ((kno (lst t) : Nat) : Int) + (k1 h : Nat) = ((kno (lst t) + k1 h : Nat) : Int) by omega, HX_pk, mu_set2]
    refine as_fldaug ?_
    refine ax_var rfl ?_
    refine ⟨k, "Heights", _, _, rfl, mu_set ho, c4, HX_m, ?_⟩
    walk_at "xs"
    refine ⟨_, mu_set ho, HX_len, ?_⟩
    rw [show ((rows t : Nat) : Int) + 1 = ((rows t + 1 : Nat) : Int) by omega, HX_pm, mu_set2, hh_ins hj]
    exact q1 j rfl hj hh
  · exact .inr ⟨x, hx, rfl, q3 z⟩
theorem rd_Heights_learn {K : PySem.W.Frag} (CF : ClsF K) (xk : L2.XK) : ∀ ws μ R S, F_Heights_learn ws μ R S → AS K (t_Heights_learn K fun c d _ H => xk c d H) (xD R S xk) (stG n_Heights_learn ws) μ := by
  rintro ws μ R S ⟨k, g, t, i, h, rfl, ho, ok, q1, q2, q3⟩
  obtain ⟨c1, c2, c3, c4⟩ := hattrs CF
  show AS K _ _ [some (.m k), some (.d (.int i)), some (.d h)] μ
  unfold t_Heights_learn
  refine as_seq (as_dropX (axx_meth ?_))
  walk_at "ob"
  walk_at "xs"
  walk_at "fl"
  walk_at "xs"
  refine ⟨k, i, (rows t : Int), rfl, fun z => ?_, fun z => q2 z⟩
  obtain ⟨j, rfl⟩ : ∃ j : Nat, i = j := ⟨i.toNat, by omega⟩
  have hj : j < rows t := by omega
  refine as_seq (as_dropX (axx_call ?_))
  walk_at "xs"
  refine ⟨h, rfl, ?_⟩
  rcases q3 with hh | ⟨x, hx, rfl, q3⟩
  · refine .inl ⟨hh, ?_⟩
    refine as_seq (as_fldaug ?_)
    refine ax_var rfl ?_
    refine ⟨k, "Heights", _, _, rfl, ho, c3, HX_k, ?_⟩
    walk_at "xs"
    refine ax_methX ?_
    walk_at "ob"
    walk_at "xs"
    refine ⟨k, g, t, j, rfl, ho, ok, fun j' e hj' => ?_, fun hn => absurd ⟨by omega, by omega⟩ hn⟩
    obtain rfl : j = j' := by omega
    walk_at "xs"
    rw [k1_i hh, k1_i (ok.h _ (M45.get_mem hj))]
    refine ⟨_, ho, HX_len, ?_⟩
    have ku := M45.kno_upd (h := h) hj
    rw [show ((kno (lst t) : Nat) : Int) + ((k1 h : Nat) - (k1 (get t j) : Nat)) = ((kno (lst (upd t j h)) : Nat) : Int) by omega, HX_pk]
    have ho2 : (μ.set k (some (.ob "Heights" (HX g t (kno (lst (upd t j h))) (rows t)))))[k]? = some (some (.ob "Heights" (HX g t (kno (lst (upd t j h))) (rows t)))) := mu_set ho
    refine as_fld ?_
    walk_at "xs"
    walk_at "fl"
    walk_at "xs"
    walk_at "fl"
    walk_at "xs"
    refine ⟨g, t, j, h, rfl, ok.deep, ok.h, hh, hj, ?_⟩
    refine ax_var rfl ?_
    refine ⟨k, "Heights", _, rfl, ho2, c2, HX_len, ?_⟩
    rw [HX_pr, mu_set2, ← M45.rows_upd (h := h) hj]
    exact q1 j rfl hj hh
  · exact .inr ⟨x, hx, rfl, q3 z⟩
theorem rd_Heights_remove {K : PySem.W.Frag} (CF : ClsF K) (xk : L2.XK) : ∀ ws μ R S, F_Heights_remove ws μ R S → AS K (t_Heights_remove K fun c d _ H => xk c d H) (xD R S xk) (stG n_Heights_remove ws) μ := by
  rintro ws μ R S ⟨k, g, t, i, rfl, ho, ok, q1, q2⟩
  obtain ⟨c1, c2, c3, c4⟩ := hattrs CF
  show AS K _ _ [some (.m k), some (.d (.int i))] μ
  unfold t_Heights_remove
  refine as_seq (as_dropX (axx_meth ?_))
  walk_at "ob"
  walk_at "xs"
  walk_at "fl"
  walk_at "xs"
  refine ⟨k, i, (rows t : Int), rfl, fun z => ?_, fun z => q2 z⟩
  obtain ⟨j, rfl⟩ : ∃ j : Nat, i = j := ⟨i.toNat, by omega⟩
  have hj : j < rows t := by omega
  refine as_seq (as_fldaug ?_)
  refine ax_var rfl ?_
  refine ⟨k, "Heights", _, _, rfl, ho, c3, HX_k, ?_⟩
  walk_at "xs"
  refine ax_methX ?_
  walk_at "ob"
  walk_at "xs"
  refine ⟨k, g, t, j, rfl, ho, ok, fun j' e hj' => ?_, fun hn => absurd ⟨by omega, by omega⟩ hn⟩
  obtain rfl : j = j' := by omega
  walk_at "xs"
  rw [k1_i (ok.h _ (M45.get_mem hj))]
  refine ⟨_, ho, HX_len, ?_⟩
  have ku := M45.kno_del hj
  have ru := M45.rows_del hj
  rw [show ((kno (lst t) : Nat) : Int) - (k1 (get t j) : Nat) = ((kno (lst (del t j)) : Nat) : Int) by omega, HX_pk]
  have ho2 : (μ.set k (some (.ob "Heights" (HX g t (kno (lst (del t j))) (rows t)))))[k]? = some (some (.ob "Heights" (HX g t (kno (lst (del t j))) (rows t)))) := mu_set ho
  refine as_seq (as_fld ?_)
  walk_at "xs"
  walk_at "fl"
  walk_at "xs"
  walk_at "fl"
  walk_at "xs"
  refine ⟨g, t, j, rfl, ok.deep, ok.deep, ok.h, hj, ?_⟩
  refine ax_var rfl ?_
  refine ⟨k, "Heights", _, rfl, ho2, c2, HX_len, ?_⟩
  rw [HX_pr, mu_set2]
  refine as_fldaug ?_
  refine ax_var rfl ?_
  refine ⟨k, "Heights", _, _, rfl, mu_set ho, c4, HX_m, ?_⟩
  walk_at "xs"
  refine ⟨_, mu_set ho, HX_len, ?_⟩
  rw [show ((rows t : Nat) : Int) - 1 = ((rows (del t j) : Nat) : Int) by omega, HX_pm, mu_set2]
  exact q1 j rfl hj
theorem rd__law_before {K : PySem.W.Frag} : ∀ ws μ R, F__law_before ws μ R → AS K (t__law_before K) { nx := fun _ μ' => R (.d .none) μ', rt := R } (stG n__law_before ws) μ := by
  rintro ws μ R ⟨hs, g, i, rfl, H, hl, q⟩
  show AS K _ _ [some (.d (.list hs)), some (.d (.int g)), some (.d (.int i)), none] μ
  unfold t__law_before
  walk_at "xs"
  refine ax_lcI (fun h : PyData => W.d h) (hs.take i) (fun h => cnt g h) (sz_ok (by rw [List.length_take]; omega)) (wk_name (by decide)) (ai_l (ai_list ?_)) ?_ ?_
  · walk_at "xs"
    refine o_slL (LW.d _) ?_
    rw [cut_takeN, ← List.map_take]
    refine NL.dd ?_
    exact ⟨_, LW.d _, rfl, LW.d _, rfl⟩
  · intro h hm
    have hh : hgt h := H h (List.mem_of_mem_take hm)
    walk_at "wp"
    walk_at "xs"
    refine ⟨h, g, rfl, hgt_c hh, ?_⟩
    walk_at "e"
  · refine NL.di ?_
    walk_at "xs"
    refine c_sumI ?_
    exact q
theorem rd__law_covering {K : PySem.W.Frag} : ∀ ws μ R, F__law_covering ws μ R → AS K (t__law_covering K) { nx := fun _ μ' => R (.d .none) μ', rt := R } (stG n__law_covering ws) μ := by
  rintro ws μ R ⟨hs, g, o, rfl, hg, H, hl, q⟩
  show AS K _ _ [some (.d (.list hs)), some (.d (.int g)), some (.d (.int o)), none, none] μ
  unfold t__law_covering
  walk_at "xs"
  refine as_for (fun (i : Nat) => W.d (.int (0 + i))) (List.range hs.length) (fun pre Γ' μ' => ∃ z3 z4, Γ' = [some (.d (.list hs)), some (.d (.int g)), some (.d (.int o)), z3, z4] ∧ μ' = μ ∧ (o < 0 ∨ tot g (hs.take pre.length) ≤ o)) (ai_rng1 ?_) ?_ ?_
  · walk_at "xs"
    refine ⟨by rw [List.length_map]; omega, by rw [List.length_map]; rfl, fun _ _ _ _ => trivial, none, none, rfl, rfl, ?_⟩
    show o < 0 ∨ (0 : Int) ≤ o
    omega
  · rintro pre x post Γ' μ' e ⟨z3, z4, rfl, rfl, hv⟩
    obtain ⟨ex, xl⟩ := rng_split e
    walk_at "xs"
    rw [Int.zero_add]
    refine ⟨hs, g, x, rfl, H, hl, ?_⟩
    have hx : hs[x]? = some hs[x] := List.getElem?_eq_getElem xl
    have hh : hgt hs[x] := H _ (List.getElem_mem xl)
    have n1 := M45.tot_nn hg (M45.hs_take H x)
    walk_at "xs"
    refine ax_chain ?_
    walk_at "xs"
    by_cases z : tot g (hs.take x) ≤ o
    · refine ite_t (decide_eq_true z) ?_
      walk_at "xs"
      refine o_ixL (LW.d _) (atI_d hx) ?_
      walk_at "xs"
      refine ⟨hs[x], g, rfl, hgt_c hh, ?_⟩
      walk_at "xs"
      by_cases y : o < tot g (hs.take x) + cnt g hs[x]
      · refine ite_t (decide_eq_true y) ?_
        walk_at "xs"
        rw [M45.cov_hit hg H hx z y] at q
        exact q
      · refine ite_f (decide_eq_false y) ?_
        walk_at "xs"
        refine ⟨_, _, rfl, rfl, .inr ?_⟩
        rw [List.length_append, List.length_singleton, ← ex, M45.tot_take hx]
        omega
    · refine ite_f (decide_eq_false z) ?_
      walk_at "xi"
      refine ⟨_, _, rfl, rfl, .inl ?_⟩
      rw [← ex] at hv
      omega
  · rintro Γ' μ' ⟨z3, z4, rfl, rfl, hv⟩
    rw [List.length_range, List.take_length] at hv
    walk_at "xs"
    rw [M45.rowAt_none hv] at q
    exact q
/-! part looks -/
theorem at_other {μ : Mu} {k j : Nat} {x : Option C} {p : Option (Option C)} (h : μ[k]? = p) (ne : j ≠ k) : (μ.set j x)[k]? = p := by
  rw [List.getElem?_set_ne ne]
  exact h
theorem int50 {i : Int} (h : i.natAbs ≤ 1000000000000) : i.natAbs < 10 ^ 50 := by
  have : (1000000000000 : Nat) < 10 ^ 50 := by decide
  omega
theorem tot_b {g : Int} {hs : List PyData} (g1 : 0 ≤ g) (g2 : g ≤ 1000000) (H : Hs hs) (hl : hs.length ≤ 1000) : (tot g hs).natAbs ≤ 1000000000 := by
  have := M46.tot_le ⟨g1, g2⟩ H
  omega
theorem bd_lst {hs : List PyData} (H : Hs hs) : bds hs ∧ nds hs = hs.length ∧ PyData.depthAll hs = 0 := by
  induction hs with
  | nil => exact ⟨trivial, rfl, rfl⟩
  | cons h hs ih =>
    obtain ⟨a, b, c⟩ := ih fun x hx => H x (.tail _ hx)
    have hh := H h (.head _)
    refine ⟨⟨M46.hgt_bd hh, a⟩, ?_, ?_⟩
    · cases h with
      | none => simp [nds, nd, b]; omega
      | int i => simp [nds, nd, b]; omega
      | _ => exact hh.elim
    · simp only [PyData.depthAll, M45.hgt_dep hh, c]
      rfl
theorem nd_h {h : PyData} (hh : hgt h) : nd h = 1 := by
  cases h with
  | none => rfl
  | int i => rfl
  | _ => exact hh.elim
theorem same_int {i : Int} {n : Nat} {μ : Mu} {R : W → Mu → Prop} (h : i.natAbs ≤ 1000000000000) (q : R (.d (.bool true)) μ) : F__law_same (n + 1) [.d (.int i), .d (.int i)] μ R := ⟨.int i, rfl, int50 h, Nat.succ_pos n, by show 1 ≤ 100000; decide, q⟩
theorem same_at {g : Int} {hs : List PyData} {o : Int} {n : Nat} {μ : Mu} {R : W → Mu → Prop} (hl : hs.length ≤ 1000) (q : R (.d (.bool true)) μ) : F__law_same (n + 1) [.d (rowAt g hs o), .d (rowAt g hs o)] μ R := by
  have := M45.cov_le (g := g) hs o
  unfold M45.rowAt
  split
  · exact same_int (by omega) q
  · exact ⟨.none, rfl, trivial, Nat.succ_pos n, by show 1 ≤ 100000; decide, q⟩
theorem kno_eq (hs : List PyData) : (hs.filter fun h => !isn h).length = kno hs := rfl
set_option hygiene false in
local macro_rules | `(tactic| walk_at "lrt") => `(tactic| (
  refine ⟨lst t, g, j, rfl, ok.h, by omega, ?_⟩
  walk_at "xs"
  walk_at "dr"
  intro r4 p4 r5 r6 hp4
  rw [mu_set2]
  have ho4 : (μ.set k p4)[kk]? = some (some (.ob "Heights" (HH g t))) := at_other ho ne
  walk_at "xs"
  refine ax_meth ?_
  walk_at "ob"
  walk_at "xs"
  refine ⟨kk, g, t, _, rfl, ho4, ok, ?_⟩
  walk_at "xs"
  refine ⟨lst t, g, _, rfl, g1, ok.h, by omega, ?_⟩
  walk_at "xs"
  refine same_at (by omega) ?_
  walk_at "xi"
  exact ⟨p4, _, _, _, rfl, rfl, hp4.le (by rw [List.length_append, List.length_singleton]; omega)⟩))
theorem rd__law_looks_right {K : PySem.W.Frag} : ∀ ws μ R, F__law_looks_right ws μ R → AS K (t__law_looks_right K) { nx := fun _ μ' => R (.d .none) μ', rt := R } (stG n__law_looks_right ws) μ := by
  rintro ws μ R ⟨k, p, n, kk, g, t, rfl, ne, hk, hp, hn, ho, ok, q⟩
  have ln := M45.rows_lst t
  have rn := ok.n
  have g1 := ok.g0
  have g2 := ok.g2
  have tb := tot_b g1 g2 ok.h (by omega)
  have kl := M45.kno_le (lst t)
  show AS K _ _ [some (.m k), some (.m kk), some (.d (.int g)), some (.d (.list (lst t))), none, none, none, none, none, none] μ
  unfold t__law_looks_right
  walk_at "xs"
  rw [List.length_map]
  refine ⟨lst t, g, (lst t).length, rfl, ok.h, by omega, ?_⟩
  rw [List.take_length]
  walk_at "xs"
  refine ax_lcF (fun h : PyData => W.d h) (lst t) (fun h => !isn h) (fun h => W.d h) (sz_ok (by omega)) (wk_name (by decide)) (ai_l (ai_list ?_)) ?_ ?_
  · walk_at "xs"
    exact ⟨_, LW.d _, rfl, LW.d _, rfl⟩
  · intro h hm
    have hh := ok.h h hm
    walk_at "wp"
    walk_at "xs"
    refine ⟨by rw [if_pos rfl, isn_h hh], rfl, fun _ => ?_⟩
    walk_at "xs"
    walk_at "e"
  · refine NL.d (xs := (lst t).filter fun h => !isn h) ?_ rfl
    walk_at "xs"
    rw [List.length_map, kno_eq]
    walk_at "xs"
    refine c_lenO ho ⟨kk, g, t, rfl, ho, ok, _, rfl, ⟨by omega, by omega⟩, ?_⟩
    walk_at "xs"
    refine ax_meth ?_
    walk_at "ob"
    walk_at "xs"
    refine ⟨kk, g, t, rfl, ho, ?_⟩
    walk_at "xs"
    refine ax_meth ?_
    walk_at "ob"
    walk_at "xs"
    refine ⟨kk, g, t, rfl, ho, ?_⟩
    walk_at "xs"
    refine NL.d3 ?_
    walk_at "xs"
    rw [List.length_map, ← ln]
    refine NL.d3 ?_
    walk_at "xs"
    refine ⟨.list [.int (rows t : Nat), .int (tot g (lst t)), .int (kno (lst t) : Nat)], rfl, ⟨int50 (by omega), int50 (by omega), int50 (by omega), trivial⟩, by show 1 < 60; decide, by show 4 ≤ 100000; decide, ?_⟩
    walk_at "xi"
    refine as_for (fun (i : Nat) => W.d (.int (0 + i))) (List.range 3) (fun pre Γ' μ' => ∃ p' z6 z7 z8, Γ' = [some (.m k), some (.m kk), some (.d (.int g)), some (.d (.list (lst t))), some (.d (.int (tot g (lst t)))), some (.d (.int (kno (lst t) : Nat))), z6, z7, z8, none] ∧ μ' = μ.set k p' ∧ PotOk (n + 2 * pre.length) p') (ai_rng1 ?_) ?_ ?_
    · walk_at "xs"
      exact ⟨by omega, rfl, fun _ _ _ _ => trivial, p, _, _, _, rfl, (mu_same hk).symm, hp⟩
    · rintro pre x post Γ' μ' e ⟨p', z6, z7, z8, rfl, rfl, hp'⟩
      obtain ⟨ex, xl⟩ := rng_split e
      walk_at "xs"
      rw [List.length_map, ← ln]
      walk_at "dr"
      intro r p3 r1 r2 hp3
      rw [mu_set2]
      obtain ⟨j, rfl⟩ : ∃ j : Nat, r = j := ⟨r.toNat, by omega⟩
      have hj : j ≤ rows t := by omega
      have ho3 : (μ.set k p3)[kk]? = some (some (.ob "Heights" (HH g t))) := at_other ho ne
      have tbj := tot_b g1 g2 (M45.hs_take ok.h j) (by rw [List.length_take]; omega)
      walk_at "xs"
      refine ax_methX ?_
      walk_at "ob"
      walk_at "xs"
      refine ⟨kk, g, t, j, rfl, ho3, ok, fun j' e' hj' => ?_, fun hn => absurd ⟨by omega, by omega⟩ hn⟩
      obtain rfl : j = j' := by omega
      walk_at "xs"
      refine ⟨lst t, g, j, rfl, ok.h, by omega, ?_⟩
      walk_at "xs"
      refine same_int (by omega) ?_
      walk_at "xi"
      rw [List.length_map, ← ln]
      by_cases z : j < rows t
      · refine ite_t (decide_eq_true (by omega)) ?_
        have hg := M45.lst_get z
        have hgt' := ok.h _ (M45.get_mem z)
        walk_at "xs"
        refine ax_methX ?_
        walk_at "ob"
        walk_at "xs"
        refine ⟨kk, g, t, j, rfl, ho3, ok, fun j' e' hj' => ?_, fun hn => absurd ⟨by omega, by omega⟩ hn⟩
        obtain rfl : j = j' := by omega
        walk_at "xs"
        refine o_ixL (LW.d _) (atI_d hg) ?_
        walk_at "xs"
        refine ⟨get t j, rfl, M46.hgt_bd hgt', by rw [M45.hgt_dep hgt']; decide, by rw [nd_h hgt']; decide, ?_⟩
        walk_at "xi"
        walk_at "lrt"
      · refine ite_f (decide_eq_false (by omega)) ?_
        walk_at "xi"
        walk_at "lrt"
    · rintro Γ' μ' ⟨p', z6, z7, z8, rfl, rfl, hp'⟩
      have ho3 : (μ.set k p')[kk]? = some (some (.ob "Heights" (HH g t))) := at_other ho ne
      walk_at "xs"
      refine ax_meth ?_
      walk_at "ob"
      walk_at "xs"
      refine ⟨kk, g, t, -1, rfl, ho3, ok, ?_⟩
      rw [M45.rowAt_none (by omega)]
      walk_at "xs"
      refine ax_meth ?_
      walk_at "ob"
      walk_at "xs"
      refine ⟨kk, g, t, tot g (lst t), rfl, ho3, ok, ?_⟩
      rw [M45.rowAt_none (by omega)]
      walk_at "xs"
      refine NL.d2 ?_
      walk_at "xs"
      refine NL.d2 ?_
      walk_at "xs"
      exact ⟨.list [.none, .none], rfl, ⟨trivial, trivial, trivial⟩, by show 1 < 60; decide, by show 3 ≤ 100000; decide, q _ hp'⟩
/-! part right_45 -/
theorem eqb_h {h : PyData} (hh : hgt h) : Eqb h 0 := by
  cases h with
  | none => exact eqb_none
  | int i => exact eqb_int i
  | _ => exact hh.elim
theorem eqb_hs {hs : List PyData} (H : Hs hs) : Eqb (.list hs) 1 := (Eqbs.of fun d hd => eqb_h (H d hd)).lst
theorem pick45 {r : Int} (h0 : 0 ≤ r) (h1 : r < 3) : ∃ s : Nat, atI ([PyData.int 8, .int 30, .int 70].map W.d) r = some (.d (.int (s : Nat))) ∧ s ≤ 70 := by
  have : r = 0 ∨ r = 1 ∨ r = 2 := by omega
  rcases this with rfl | rfl | rfl
  · exact ⟨8, rfl, by decide⟩
  · exact ⟨30, rfl, by decide⟩
  · exact ⟨70, rfl, by decide⟩
theorem hok_ins {g : Int} {t : Nd} {j : Nat} {h : PyData} (ok : HOk g t) (hj : j ≤ rows t) (hh : hgt h) (hn : rows t < 200) : HOk g (ins t j h) := ⟨ok.g1, ok.g2, (M45.ins_ok ok.b).1, M45.hs_ins hj ok.h hh, by rw [M45.rows_ins hj]; omega⟩
theorem hok_upd {g : Int} {t : Nd} {j : Nat} {h : PyData} (ok : HOk g t) (hj : j < rows t) (hh : hgt h) : HOk g (upd t j h) := ⟨ok.g1, ok.g2, (M45.upd_ok ok.b).1, M45.hs_upd hj ok.h hh, by rw [M45.rows_upd hj]; exact ok.n⟩
theorem hok_del {g : Int} {t : Nd} {j : Nat} (ok : HOk g t) (hj : j < rows t) : HOk g (del t j) := ⟨ok.g1, ok.g2, (M45.del_ok ok.b hj).1, M45.hs_del hj ok.h, by have := M45.rows_del hj; have := ok.n; omega⟩
theorem pln_ok {g : Int} {t : Nd} (ok : HOk g t) : bd (pln g t) ∧ (pln g t).depth < 60 ∧ told g 60 (pln g t) = some (((lst t).length : Int), tot g (lst t), (dep t : Int)) := by
  have tr := M45.tr_pln (g := g) ok.b ok.h
  have ln := M45.rows_lst t
  have rn := ok.n
  have dp : (pln g t).depth < 60 := by rw [M45.pln_depth ok.h]; exact ok.deep
  exact ⟨tr.bd ⟨ok.g0, ok.g2⟩ (by omega), dp, tr.told 60 dp⟩
theorem set_cat {hs : List PyData} {i : Nat} {h : PyData} (hi : i < hs.length) : hs.take i ++ [h] ++ hs.drop (i + 1) = hs.set i h := by
  rw [List.set_eq_take_append_cons_drop, if_pos hi]
  simp
set_option hygiene false in
local macro_rules | `(tactic| walk_at "insb") => `(tactic| (
  walk_at "xi"
  refine ax_methX ?_
  walk_at "ob"
  walk_at "xs"
  refine ⟨μ.length, g, t, j, h, rfl, ho, ok, fun j' e' hj' hh' => ?_, fun hn => absurd ⟨by omega, by omega⟩ hn, .inl hh⟩
  obtain rfl : j = j' := by omega
  rw [mu_st0S]
  walk_at "xs"
  refine o_slL (LW.d _) ?_
  rw [cut_takeN, ← List.map_take]
  refine NL.dd ?_
  walk_at "xs"
  refine NL.d1 ?_
  refine o_addL (LN.d _) (LN.d _) (sz_ok (by simp; omega)) ?_
  rw [← List.map_append]
  refine NL.dd ?_
  walk_at "xs"
  refine o_slL (LW.d _) ?_
  rw [cut_dropN, ← List.map_drop]
  refine NL.dd ?_
  refine o_addL (LN.d _) (LN.d _) (sz_ok (by simp; omega)) ?_
  rw [← List.map_append]
  refine NL.dd ?_
  refine ag_name ?_
  dsimp only [List.set_cons_zero, List.set_cons_succ]
  rw [show (lst t).take j ++ [h] ++ (lst t).drop j = lst (ins t j h) by rw [M45.lst_ins hj]; simp]
  exact ⟨ins t j h, rfl, rfl, hok_ins ok hj hh (by omega), by rw [M45.rows_ins hj]; omega⟩))
set_option hygiene false in
local macro_rules | `(tactic| walk_at "lrnb") => `(tactic| (
  refine ⟨μ.length, g, t, j, h, rfl, ho, ok, fun j' e' hj' hh' => ?_, fun hn => absurd ⟨by omega, by omega⟩ hn, .inl hh⟩
  obtain rfl : j = j' := by omega
  rw [mu_st0S]
  walk_at "xs"
  refine o_slL (LW.d _) ?_
  rw [cut_takeN, ← List.map_take]
  refine NL.dd ?_
  walk_at "xs"
  refine NL.d1 ?_
  refine o_addL (LN.d _) (LN.d _) (sz_ok (by simp; omega)) ?_
  rw [← List.map_append]
  refine NL.dd ?_
  walk_at "xs"
  rw [show ((j : Int) + 1) = ((j + 1 : Nat) : Int) by omega]
  refine o_slL (LW.d _) ?_
  rw [cut_dropN, ← List.map_drop]
  refine NL.dd ?_
  refine o_addL (LN.d _) (LN.d _) (sz_ok (by simp; omega)) ?_
  rw [← List.map_append]
  refine NL.dd ?_
  refine ag_name ?_
  dsimp only [List.set_cons_zero, List.set_cons_succ]
  rw [set_cat (by omega), ← M45.lst_upd hj2]
  exact ⟨upd t j h, rfl, rfl, hok_upd ok hj2 hh, by rw [M45.rows_upd hj2]; omega⟩))
set_option maxHeartbeats 4000000 in
theorem rd__law_right {K : PySem.W.Frag} : ∀ ws μ R, F__law_right ws μ R → AS K (t__law_right K) { nx := fun _ μ' => R (.d .none) μ', rt := R } (stG n__law_right ws) μ := by
  rintro ws μ R ⟨k, p, rfl, hk, hp, q⟩
  refine as_fz ?_
  show AS K _ _ [some (.m k), none, none, none, none, none, none, none, none, none] μ
  have hkl := (List.getElem?_eq_some_iff.mp hk).1
  unfold t__law_right
  walk_at "xs"
  walk_at "dr"
  intro r1 p1 a1 b1 hp1
  walk_at "xs"
  refine NL.d0 ?_
  walk_at "xs"
  refine ⟨_, _, rfl, ?_⟩
  simp only [List.set_cons_zero, List.set_cons_succ]
  have g1 : 1 ≤ 1 + r1 := by omega
  have g2 : 1 + r1 ≤ 40 := by omega
  generalize 1 + r1 = g at g1 g2 ⊢
  refine as_seq ?_
  refine as_mid (fun Γ' μ' => ∃ p', Γ' = [some (.m k), some (.d (.int g)), some (.d (.list [])), some (.m μ.length), none, none, none, none, none, none] ∧ μ' = μ.set k p' ++ [some (.ob "Heights" (HH g .nil))] ∧ PotOk 3 p') ?_ ?_
  · walk_at "xs"
    walk_at "dr"
    intro r2 p2 a2 b2 hp2
    rw [mu_set2]
    walk_at "xs"
    by_cases z : r2 = 0
    · refine ite_t (decide_eq_true z) ?_
      refine ax_makeX ?_
      walk_at "xs"
      refine ⟨_, g, rfl, mu_end, fun _ => ⟨rfl, ?_⟩, fun z => absurd z (by omega)⟩
      rw [mu_setEnd, List.length_set]
      refine ag_name ?_
      dsimp only [List.set_cons_zero, List.set_cons_succ]
      exact ⟨p2, rfl, rfl, hp2.le (by omega)⟩
    · refine ite_f (decide_eq_false z) ?_
      refine ax_makeKX ?_
      walk_at "xs"
      refine ⟨_, g, rfl, mu_end, fun _ => ⟨rfl, ?_⟩, fun z => absurd z (by omega)⟩
      rw [mu_setEnd, List.length_set]
      refine ag_name ?_
      dsimp only [List.set_cons_zero, List.set_cons_succ]
      exact ⟨p2, rfl, rfl, hp2.le (by omega)⟩
  · rintro Γ' μ' ⟨p', rfl, rfl, hp'⟩
    walk_at "xs"
    refine as_forD (fun (i : Nat) => W.d (.int (0 + i))) (ai_rng1 ?_)
    walk_at "xs"
    walk_at "d"
    walk_at "xs"
    walk_at "dr"
    intro r3 p3 a3 b3 hp3
    rw [mu_setK hk]
    obtain ⟨m, hm, hm70⟩ := pick45 a3 b3
    walk_at "xs"
    refine o_ixL (.d _) hm ?_
    walk_at "xs"
    refine ⟨by omega, List.range m, fun pre Γ' μ' => ∃ t p' z4 z5 z6 z7 z8, Γ' = [some (.m k), some (.d (.int g)), some (.d (.list (lst t))), some (.m μ.length), z4, z5, z6, z7, z8, none] ∧ μ' = μ.set k p' ++ [some (.ob "Heights" (HH g t))] ∧ HOk g t ∧ rows t ≤ pre.length ∧ PotOk (4 + 12 * pre.length) p', rfl, fun _ _ _ _ => trivial, ?_, ?_, ?_⟩
    · exact ⟨.nil, p3, _, _, _, _, _, rfl, rfl, ⟨g1, by omega, trivial, (fun _ z => by cases z), Nat.zero_le _⟩, Nat.le_refl _, hp3⟩
    · rintro pre x post Γ' μ' e ⟨t, p', z4, z5, z6, z7, z8, rfl, rfl, ok, hr, hp'⟩
      obtain ⟨ex, xl⟩ := rng_split e
      have ln := M45.rows_lst t
      walk_at "xs"
      walk_at "dr"
      intro r4 p4 a4 b4 hp4
      rw [mu_setK hk]
      walk_at "xs"
      rw [List.length_map, ← ln]
      walk_at "dr"
      intro r5 p5 a5 b5 hp5
      rw [mu_setK hk]
      obtain ⟨j, rfl⟩ : ∃ j : Nat, r5 = j := ⟨r5.toNat, by omega⟩
      have hj : j ≤ rows t := by omega
      walk_at "xs"
      refine ⟨k, p5, _, rfl, mu_app (mu_set hk), hp5, by omega, fun h p6 hh hp6 => ?_⟩
      rw [mu_setK hk]
      walk_at "xs"
      refine ⟨_, _, _, rfl, ?_⟩
      simp only [List.set_cons_zero, List.set_cons_succ]
      refine as_seq (as_asg ?_)
      refine ax_non ?_
      refine ag_name ?_
      dsimp only [List.set_cons_zero, List.set_cons_succ]
      refine as_seq ?_
      refine as_mid (fun Γ' μ' => ∃ t', Γ' = [some (.m k), some (.d (.int g)), some (.d (.list (lst t'))), some (.m μ.length), some (.d (.int (0 + (x : Int)))), some (.d (.int r4)), some (.d (.int j)), some (.d h), some (.d .none), none] ∧ μ' = μ.set k p6 ++ [some (.ob "Heights" (HH g t'))] ∧ HOk g t' ∧ rows t' ≤ pre.length + 1) ?_ ?_
      · have ho : (μ.set k p6 ++ [some (.ob "Heights" (HH g t))])[μ.length]? = some (some (.ob "Heights" (HH g t))) := mu_at0S
        have hl200 : (lst t).length ≤ 200 := by omega
        walk_at "xs"
        by_cases z : r4 < 3
        · refine ite_t (decide_eq_true z) ?_
          walk_at "insb"
        · refine ite_f (decide_eq_false z) ?_
          walk_at "xs"
          rw [List.length_map, ← ln]
          by_cases z2 : j = rows t
          · refine ite_t (decide_eq_true (by omega)) ?_
            walk_at "insb"
          · refine ite_f (decide_eq_false (by omega)) ?_
            have hj2 : j < rows t := by omega
            walk_at "xs"
            by_cases z3 : r4 < 5
            · refine ite_t (decide_eq_true z3) ?_
              walk_at "xs"
              by_cases z4 : r4 = 3
              · refine ite_t (decide_eq_true z4) ?_
                refine ax_methX ?_
                walk_at "ob"
                walk_at "xs"
                walk_at "lrnb"
              · refine ite_f (decide_eq_false z4) ?_
                refine ax_methKX ?_
                walk_at "ob"
                walk_at "xs"
                walk_at "lrnb"
            · refine ite_f (decide_eq_false z3) ?_
              walk_at "xs"
              refine ax_methX ?_
              walk_at "ob"
              walk_at "xs"
              refine ⟨μ.length, g, t, j, rfl, ho, ok, fun j' e' hj' => ?_, fun hn => absurd ⟨by omega, by omega⟩ hn⟩
              obtain rfl : j = j' := by omega
              rw [mu_st0S]
              walk_at "xs"
              refine o_slL (LW.d _) ?_
              rw [cut_takeN, ← List.map_take]
              refine NL.dd ?_
              walk_at "xs"
              rw [show ((j : Int) + 1) = ((j + 1 : Nat) : Int) by omega]
              refine o_slL (LW.d _) ?_
              rw [cut_dropN, ← List.map_drop]
              refine NL.dd ?_
              refine o_addL (LN.d _) (LN.d _) (sz_ok (by simp; omega)) ?_
              rw [← List.map_append]
              refine NL.dd ?_
              refine ag_name ?_
              dsimp only [List.set_cons_zero, List.set_cons_succ]
              rw [← M45.lst_del hj2]
              exact ⟨del t j, rfl, rfl, hok_del ok hj2, by have := M45.rows_del hj2; omega⟩
      · rintro Γ' μ' ⟨t', rfl, rfl, ok', hr'⟩
        have ho' : (μ.set k p6 ++ [some (.ob "Heights" (HH g t'))])[μ.length]? = some (some (.ob "Heights" (HH g t'))) := mu_at0S
        walk_at "xi"
        refine ⟨k, p6, _, μ.length, g, t', rfl, by omega, mu_app (mu_set hk), hp6, by omega, ho', ok', fun p7 hp7 => ?_⟩
        rw [mu_setK hk]
        walk_at "xi"
        exact ⟨t', p7, _, _, _, _, _, rfl, rfl, ok', by rw [List.length_append, List.length_singleton]; exact hr', hp7.le (by rw [List.length_append, List.length_singleton]; omega)⟩
    · rintro Γ' μ' ⟨t, p', z4, z5, z6, z7, z8, rfl, rfl, ok, hr, hp'⟩
      obtain ⟨pb, pd, pt⟩ := pln_ok ok
      have ln := M45.rows_lst t
      have rn := ok.n
      obtain ⟨lb, lnd, ld⟩ := bd_lst ok.h
      have ho : (μ.set k p' ++ [some (.ob "Heights" (HH g t))])[μ.length]? = some (some (.ob "Heights" (HH g t))) := mu_at0S
      walk_at "xs"
      refine ax_meth ?_
      walk_at "ob"
      walk_at "xs"
      refine ⟨μ.length, g, t, rfl, ho, ok, ?_⟩
      walk_at "xs"
      refine ⟨g, pln g t, rfl, pb, pd, ?_⟩
      rw [pt]
      refine ag_name ?_
      dsimp only [List.set_cons_zero, List.set_cons_succ]
      walk_at "xi"
      refine ax_meth ?_
      walk_at "ob"
      walk_at "xs"
      refine ⟨μ.length, g, t, rfl, ho, ok, ?_⟩
      walk_at "xs"
      refine ⟨g, t, rfl, ok.deep, by omega, ?_⟩
      walk_at "xs"
      refine o_neP (.d _) (.d _) (eqb_hs ok.h) (eqb_hs ok.h) (by decide) (by decide) fun b hb => ?_
      have hb : b = true := hb.mpr rfl
      subst hb
      walk_at "xi"
      refine ax_meth ?_
      walk_at "ob"
      walk_at "xs"
      refine ⟨μ.length, g, t, rfl, ho, ok, ?_⟩
      walk_at "xs"
      refine ⟨g, pln g t, rfl, pb, pd, ?_⟩
      rw [pt]
      walk_at "xi"
      refine ax_meth ?_
      walk_at "ob"
      walk_at "xs"
      refine ⟨μ.length, g, t, rfl, ho, ok, ?_⟩
      walk_at "xs"
      refine ⟨g, t, false, rfl, ok.deep, by omega, ?_⟩
      walk_at "xs"
      refine ⟨.list (lst t), rfl, lb, by simp only [PyData.depth, ld]; decide, by show nds (lst t) + 1 ≤ 100000; rw [lnd]; omega, ?_⟩
      exact fz_potC hp' (q _ _ hp')
end Lw

namespace Lw
open PySem PySem.Spec PyProof.Rows L2 Pd
theorem len_counted {ws : List W} {μ : Mu} {R : W → Mu → Prop} (h : F_counted ws μ R) : ws.length = p_counted.length := by
  unfold F_counted at h
  first
    | (repeat' (rcases h with ⟨x, h⟩)) ; subst_vars ; rfl ; done
    | (rcases h with h | h <;> (repeat' (rcases h with ⟨x, h⟩)) <;> subst_vars <;> rfl ; done)
    | (rcases h with h | h | h <;> (repeat' (rcases h with ⟨x, h⟩)) <;> subst_vars <;> rfl ; done)
    | ((repeat (replace h := h.choose_spec)) ; rw [h.1] ; rfl ; done)
    | exact lenx_counted h
theorem len_rows_of {ws : List W} {μ : Mu} {R : W → Mu → Prop} (h : F_rows_of ws μ R) : ws.length = p_rows_of.length := by
  unfold F_rows_of at h
  first
    | (repeat' (rcases h with ⟨x, h⟩)) ; subst_vars ; rfl ; done
    | (rcases h with h | h <;> (repeat' (rcases h with ⟨x, h⟩)) <;> subst_vars <;> rfl ; done)
    | (rcases h with h | h | h <;> (repeat' (rcases h with ⟨x, h⟩)) <;> subst_vars <;> rfl ; done)
    | ((repeat (replace h := h.choose_spec)) ; rw [h.1] ; rfl ; done)
    | exact lenx_rows_of h
theorem len_total_of {ws : List W} {μ : Mu} {R : W → Mu → Prop} (h : F_total_of ws μ R) : ws.length = p_total_of.length := by
  unfold F_total_of at h
  first
    | (repeat' (rcases h with ⟨x, h⟩)) ; subst_vars ; rfl ; done
    | (rcases h with h | h <;> (repeat' (rcases h with ⟨x, h⟩)) <;> subst_vars <;> rfl ; done)
    | (rcases h with h | h | h <;> (repeat' (rcases h with ⟨x, h⟩)) <;> subst_vars <;> rfl ; done)
    | ((repeat (replace h := h.choose_spec)) ; rw [h.1] ; rfl ; done)
    | exact lenx_total_of h
theorem len_depth_of {ws : List W} {μ : Mu} {R : W → Mu → Prop} (h : F_depth_of ws μ R) : ws.length = p_depth_of.length := by
  unfold F_depth_of at h
  first
    | (repeat' (rcases h with ⟨x, h⟩)) ; subst_vars ; rfl ; done
    | (rcases h with h | h <;> (repeat' (rcases h with ⟨x, h⟩)) <;> subst_vars <;> rfl ; done)
    | (rcases h with h | h | h <;> (repeat' (rcases h with ⟨x, h⟩)) <;> subst_vars <;> rfl ; done)
    | ((repeat (replace h := h.choose_spec)) ; rw [h.1] ; rfl ; done)
    | exact lenx_depth_of h
theorem len_joined {ws : List W} {μ : Mu} {R : W → Mu → Prop} (h : F_joined ws μ R) : ws.length = p_joined.length := by
  unfold F_joined at h
  first
    | (repeat' (rcases h with ⟨x, h⟩)) ; subst_vars ; rfl ; done
    | (rcases h with h | h <;> (repeat' (rcases h with ⟨x, h⟩)) <;> subst_vars <;> rfl ; done)
    | (rcases h with h | h | h <;> (repeat' (rcases h with ⟨x, h⟩)) <;> subst_vars <;> rfl ; done)
    | ((repeat (replace h := h.choose_spec)) ; rw [h.1] ; rfl ; done)
    | exact lenx_joined h
theorem len_balanced {ws : List W} {μ : Mu} {R : W → Mu → Prop} (h : F_balanced ws μ R) : ws.length = p_balanced.length := by
  unfold F_balanced at h
  first
    | (repeat' (rcases h with ⟨x, h⟩)) ; subst_vars ; rfl ; done
    | (rcases h with h | h <;> (repeat' (rcases h with ⟨x, h⟩)) <;> subst_vars <;> rfl ; done)
    | (rcases h with h | h | h <;> (repeat' (rcases h with ⟨x, h⟩)) <;> subst_vars <;> rfl ; done)
    | ((repeat (replace h := h.choose_spec)) ; rw [h.1] ; rfl ; done)
    | exact lenx_balanced h
theorem len_with_row {n : Nat} {ws : List W} {μ : Mu} {R : W → Mu → Prop} (h : F_with_row n ws μ R) : ws.length = p_with_row.length := by
  unfold F_with_row at h
  first
    | (repeat' (rcases h with ⟨x, h⟩)) ; subst_vars ; rfl ; done
    | (rcases h with h | h <;> (repeat' (rcases h with ⟨x, h⟩)) <;> subst_vars <;> rfl ; done)
    | (rcases h with h | h | h <;> (repeat' (rcases h with ⟨x, h⟩)) <;> subst_vars <;> rfl ; done)
    | ((repeat (replace h := h.choose_spec)) ; rw [h.1] ; rfl ; done)
    | exact lenx_with_row h
theorem len_with_height {n : Nat} {ws : List W} {μ : Mu} {R : W → Mu → Prop} (h : F_with_height n ws μ R) : ws.length = p_with_height.length := by
  unfold F_with_height at h
  first
    | (repeat' (rcases h with ⟨x, h⟩)) ; subst_vars ; rfl ; done
    | (rcases h with h | h <;> (repeat' (rcases h with ⟨x, h⟩)) <;> subst_vars <;> rfl ; done)
    | (rcases h with h | h | h <;> (repeat' (rcases h with ⟨x, h⟩)) <;> subst_vars <;> rfl ; done)
    | ((repeat (replace h := h.choose_spec)) ; rw [h.1] ; rfl ; done)
    | exact lenx_with_height h
theorem len_height_at {n : Nat} {ws : List W} {μ : Mu} {R : W → Mu → Prop} (h : F_height_at n ws μ R) : ws.length = p_height_at.length := by
  unfold F_height_at at h
  first
    | (repeat' (rcases h with ⟨x, h⟩)) ; subst_vars ; rfl ; done
    | (rcases h with h | h <;> (repeat' (rcases h with ⟨x, h⟩)) <;> subst_vars <;> rfl ; done)
    | (rcases h with h | h | h <;> (repeat' (rcases h with ⟨x, h⟩)) <;> subst_vars <;> rfl ; done)
    | ((repeat (replace h := h.choose_spec)) ; rw [h.1] ; rfl ; done)
    | exact lenx_height_at h
theorem len_without_row {n : Nat} {ws : List W} {μ : Mu} {R : W → Mu → Prop} (h : F_without_row n ws μ R) : ws.length = p_without_row.length := by
  unfold F_without_row at h
  first
    | (repeat' (rcases h with ⟨x, h⟩)) ; subst_vars ; rfl ; done
    | (rcases h with h | h <;> (repeat' (rcases h with ⟨x, h⟩)) <;> subst_vars <;> rfl ; done)
    | (rcases h with h | h | h <;> (repeat' (rcases h with ⟨x, h⟩)) <;> subst_vars <;> rfl ; done)
    | ((repeat (replace h := h.choose_spec)) ; rw [h.1] ; rfl ; done)
    | exact lenx_without_row h
theorem len_offset_of {n : Nat} {ws : List W} {μ : Mu} {R : W → Mu → Prop} (h : F_offset_of n ws μ R) : ws.length = p_offset_of.length := by
  unfold F_offset_of at h
  first
    | (repeat' (rcases h with ⟨x, h⟩)) ; subst_vars ; rfl ; done
    | (rcases h with h | h <;> (repeat' (rcases h with ⟨x, h⟩)) <;> subst_vars <;> rfl ; done)
    | (rcases h with h | h | h <;> (repeat' (rcases h with ⟨x, h⟩)) <;> subst_vars <;> rfl ; done)
    | ((repeat (replace h := h.choose_spec)) ; rw [h.1] ; rfl ; done)
    | exact lenx_offset_of h
theorem len_covering {n : Nat} {ws : List W} {μ : Mu} {R : W → Mu → Prop} (h : F_covering n ws μ R) : ws.length = p_covering.length := by
  unfold F_covering at h
  first
    | (repeat' (rcases h with ⟨x, h⟩)) ; subst_vars ; rfl ; done
    | (rcases h with h | h <;> (repeat' (rcases h with ⟨x, h⟩)) <;> subst_vars <;> rfl ; done)
    | (rcases h with h | h | h <;> (repeat' (rcases h with ⟨x, h⟩)) <;> subst_vars <;> rfl ; done)
    | ((repeat (replace h := h.choose_spec)) ; rw [h.1] ; rfl ; done)
    | exact lenx_covering h
theorem len_plain_tree {n : Nat} {ws : List W} {μ : Mu} {R : W → Mu → Prop} (h : F_plain_tree n ws μ R) : ws.length = p_plain_tree.length := by
  unfold F_plain_tree at h
  first
    | (repeat' (rcases h with ⟨x, h⟩)) ; subst_vars ; rfl ; done
    | (rcases h with h | h <;> (repeat' (rcases h with ⟨x, h⟩)) <;> subst_vars <;> rfl ; done)
    | (rcases h with h | h | h <;> (repeat' (rcases h with ⟨x, h⟩)) <;> subst_vars <;> rfl ; done)
    | ((repeat (replace h := h.choose_spec)) ; rw [h.1] ; rfl ; done)
    | exact lenx_plain_tree h
theorem len_heights_of {n : Nat} {ws : List W} {μ : Mu} {R : W → Mu → Prop} (h : F_heights_of n ws μ R) : ws.length = p_heights_of.length := by
  unfold F_heights_of at h
  first
    | (repeat' (rcases h with ⟨x, h⟩)) ; subst_vars ; rfl ; done
    | (rcases h with h | h <;> (repeat' (rcases h with ⟨x, h⟩)) <;> subst_vars <;> rfl ; done)
    | (rcases h with h | h | h <;> (repeat' (rcases h with ⟨x, h⟩)) <;> subst_vars <;> rfl ; done)
    | ((repeat (replace h := h.choose_spec)) ; rw [h.1] ; rfl ; done)
    | exact lenx_heights_of h
theorem len_need_guess {ws : List W} {μ : Mu} {R : W → Mu → Prop} {S : Str → W → Mu → Prop} (h : F_need_guess ws μ R S) : ws.length = p_need_guess.length := by
  unfold F_need_guess at h
  first
    | (repeat' (rcases h with ⟨x, h⟩)) ; subst_vars ; rfl ; done
    | (rcases h with h | h <;> (repeat' (rcases h with ⟨x, h⟩)) <;> subst_vars <;> rfl ; done)
    | (rcases h with h | h | h <;> (repeat' (rcases h with ⟨x, h⟩)) <;> subst_vars <;> rfl ; done)
    | ((repeat (replace h := h.choose_spec)) ; rw [h.1] ; rfl ; done)
    | exact lenx_need_guess h
theorem len_need_height {ws : List W} {μ : Mu} {R : W → Mu → Prop} {S : Str → W → Mu → Prop} (h : F_need_height ws μ R S) : ws.length = p_need_height.length := by
  unfold F_need_height at h
  first
    | (repeat' (rcases h with ⟨x, h⟩)) ; subst_vars ; rfl ; done
    | (rcases h with h | h <;> (repeat' (rcases h with ⟨x, h⟩)) <;> subst_vars <;> rfl ; done)
    | (rcases h with h | h | h <;> (repeat' (rcases h with ⟨x, h⟩)) <;> subst_vars <;> rfl ; done)
    | ((repeat (replace h := h.choose_spec)) ; rw [h.1] ; rfl ; done)
    | exact lenx_need_height h
theorem len_is_integer {ws : List W} {μ : Mu} {R : W → Mu → Prop} (h : F_is_integer ws μ R) : ws.length = p_is_integer.length := by
  unfold F_is_integer at h
  first
    | (repeat' (rcases h with ⟨x, h⟩)) ; subst_vars ; rfl ; done
    | (rcases h with h | h <;> (repeat' (rcases h with ⟨x, h⟩)) <;> subst_vars <;> rfl ; done)
    | (rcases h with h | h | h <;> (repeat' (rcases h with ⟨x, h⟩)) <;> subst_vars <;> rfl ; done)
    | ((repeat (replace h := h.choose_spec)) ; rw [h.1] ; rfl ; done)
    | exact lenx_is_integer h
theorem len_measured {n : Nat} {ws : List W} {μ : Mu} {R : W → Mu → Prop} (h : F_measured n ws μ R) : ws.length = p_measured.length := by
  unfold F_measured at h
  first
    | (repeat' (rcases h with ⟨x, h⟩)) ; subst_vars ; rfl ; done
    | (rcases h with h | h <;> (repeat' (rcases h with ⟨x, h⟩)) <;> subst_vars <;> rfl ; done)
    | (rcases h with h | h | h <;> (repeat' (rcases h with ⟨x, h⟩)) <;> subst_vars <;> rfl ; done)
    | ((repeat (replace h := h.choose_spec)) ; rw [h.1] ; rfl ; done)
    | exact lenx_measured h
theorem len_tree_right {ws : List W} {μ : Mu} {R : W → Mu → Prop} (h : F_tree_right ws μ R) : ws.length = p_tree_right.length := by
  unfold F_tree_right at h
  first
    | (repeat' (rcases h with ⟨x, h⟩)) ; subst_vars ; rfl ; done
    | (rcases h with h | h <;> (repeat' (rcases h with ⟨x, h⟩)) <;> subst_vars <;> rfl ; done)
    | (rcases h with h | h | h <;> (repeat' (rcases h with ⟨x, h⟩)) <;> subst_vars <;> rfl ; done)
    | ((repeat (replace h := h.choose_spec)) ; rw [h.1] ; rfl ; done)
    | exact lenx_tree_right h
theorem len_heights_in {ws : List W} {μ : Mu} {R : W → Mu → Prop} (h : F_heights_in ws μ R) : ws.length = p_heights_in.length := by
  unfold F_heights_in at h
  first
    | (repeat' (rcases h with ⟨x, h⟩)) ; subst_vars ; rfl ; done
    | (rcases h with h | h <;> (repeat' (rcases h with ⟨x, h⟩)) <;> subst_vars <;> rfl ; done)
    | (rcases h with h | h | h <;> (repeat' (rcases h with ⟨x, h⟩)) <;> subst_vars <;> rfl ; done)
    | ((repeat (replace h := h.choose_spec)) ; rw [h.1] ; rfl ; done)
    | exact lenx_heights_in h
theorem len__law_deck {ws : List W} {μ : Mu} {R : W → Mu → Prop} (h : F__law_deck ws μ R) : ws.length = p__law_deck.length := by
  unfold F__law_deck at h
  first
    | (repeat' (rcases h with ⟨x, h⟩)) ; subst_vars ; rfl ; done
    | (rcases h with h | h <;> (repeat' (rcases h with ⟨x, h⟩)) <;> subst_vars <;> rfl ; done)
    | (rcases h with h | h | h <;> (repeat' (rcases h with ⟨x, h⟩)) <;> subst_vars <;> rfl ; done)
    | ((repeat (replace h := h.choose_spec)) ; rw [h.1] ; rfl ; done)
    | exact lenx__law_deck h
theorem len__law_draw {ws : List W} {μ : Mu} {R : W → Mu → Prop} (h : F__law_draw ws μ R) : ws.length = p__law_draw.length := by
  unfold F__law_draw at h
  first
    | (repeat' (rcases h with ⟨x, h⟩)) ; subst_vars ; rfl ; done
    | (rcases h with h | h <;> (repeat' (rcases h with ⟨x, h⟩)) <;> subst_vars <;> rfl ; done)
    | (rcases h with h | h | h <;> (repeat' (rcases h with ⟨x, h⟩)) <;> subst_vars <;> rfl ; done)
    | ((repeat (replace h := h.choose_spec)) ; rw [h.1] ; rfl ; done)
    | exact lenx__law_draw h
theorem len__law_same {n : Nat} {ws : List W} {μ : Mu} {R : W → Mu → Prop} (h : F__law_same n ws μ R) : ws.length = p__law_same.length := by
  unfold F__law_same at h
  first
    | (repeat' (rcases h with ⟨x, h⟩)) ; subst_vars ; rfl ; done
    | (rcases h with h | h <;> (repeat' (rcases h with ⟨x, h⟩)) <;> subst_vars <;> rfl ; done)
    | (rcases h with h | h | h <;> (repeat' (rcases h with ⟨x, h⟩)) <;> subst_vars <;> rfl ; done)
    | ((repeat (replace h := h.choose_spec)) ; rw [h.1] ; rfl ; done)
    | exact lenx__law_same h
theorem len__law_integer {ws : List W} {μ : Mu} {R : W → Mu → Prop} (h : F__law_integer ws μ R) : ws.length = p__law_integer.length := by
  unfold F__law_integer at h
  first
    | (repeat' (rcases h with ⟨x, h⟩)) ; subst_vars ; rfl ; done
    | (rcases h with h | h <;> (repeat' (rcases h with ⟨x, h⟩)) <;> subst_vars <;> rfl ; done)
    | (rcases h with h | h | h <;> (repeat' (rcases h with ⟨x, h⟩)) <;> subst_vars <;> rfl ; done)
    | ((repeat (replace h := h.choose_spec)) ; rw [h.1] ; rfl ; done)
    | exact lenx__law_integer h
theorem len__law_height {ws : List W} {μ : Mu} {R : W → Mu → Prop} (h : F__law_height ws μ R) : ws.length = p__law_height.length := by
  unfold F__law_height at h
  first
    | (repeat' (rcases h with ⟨x, h⟩)) ; subst_vars ; rfl ; done
    | (rcases h with h | h <;> (repeat' (rcases h with ⟨x, h⟩)) <;> subst_vars <;> rfl ; done)
    | (rcases h with h | h | h <;> (repeat' (rcases h with ⟨x, h⟩)) <;> subst_vars <;> rfl ; done)
    | ((repeat (replace h := h.choose_spec)) ; rw [h.1] ; rfl ; done)
    | exact lenx__law_height h
theorem len__law_counted {ws : List W} {μ : Mu} {R : W → Mu → Prop} (h : F__law_counted ws μ R) : ws.length = p__law_counted.length := by
  unfold F__law_counted at h
  first
    | (repeat' (rcases h with ⟨x, h⟩)) ; subst_vars ; rfl ; done
    | (rcases h with h | h <;> (repeat' (rcases h with ⟨x, h⟩)) <;> subst_vars <;> rfl ; done)
    | (rcases h with h | h | h <;> (repeat' (rcases h with ⟨x, h⟩)) <;> subst_vars <;> rfl ; done)
    | ((repeat (replace h := h.choose_spec)) ; rw [h.1] ; rfl ; done)
    | exact lenx__law_counted h
theorem len__law_before {ws : List W} {μ : Mu} {R : W → Mu → Prop} (h : F__law_before ws μ R) : ws.length = p__law_before.length := by
  unfold F__law_before at h
  first
    | (repeat' (rcases h with ⟨x, h⟩)) ; subst_vars ; rfl ; done
    | (rcases h with h | h <;> (repeat' (rcases h with ⟨x, h⟩)) <;> subst_vars <;> rfl ; done)
    | (rcases h with h | h | h <;> (repeat' (rcases h with ⟨x, h⟩)) <;> subst_vars <;> rfl ; done)
    | ((repeat (replace h := h.choose_spec)) ; rw [h.1] ; rfl ; done)
    | exact lenx__law_before h
theorem len__law_covering {ws : List W} {μ : Mu} {R : W → Mu → Prop} (h : F__law_covering ws μ R) : ws.length = p__law_covering.length := by
  unfold F__law_covering at h
  first
    | (repeat' (rcases h with ⟨x, h⟩)) ; subst_vars ; rfl ; done
    | (rcases h with h | h <;> (repeat' (rcases h with ⟨x, h⟩)) <;> subst_vars <;> rfl ; done)
    | (rcases h with h | h | h <;> (repeat' (rcases h with ⟨x, h⟩)) <;> subst_vars <;> rfl ; done)
    | ((repeat (replace h := h.choose_spec)) ; rw [h.1] ; rfl ; done)
    | exact lenx__law_covering h
theorem len__law_tree_told {n : Nat} {ws : List W} {μ : Mu} {R : W → Mu → Prop} (h : F__law_tree_told n ws μ R) : ws.length = p__law_tree_told.length := by
  unfold F__law_tree_told at h
  first
    | (repeat' (rcases h with ⟨x, h⟩)) ; subst_vars ; rfl ; done
    | (rcases h with h | h <;> (repeat' (rcases h with ⟨x, h⟩)) <;> subst_vars <;> rfl ; done)
    | (rcases h with h | h | h <;> (repeat' (rcases h with ⟨x, h⟩)) <;> subst_vars <;> rfl ; done)
    | ((repeat (replace h := h.choose_spec)) ; rw [h.1] ; rfl ; done)
    | exact lenx__law_tree_told h
theorem len__law_tree_rows {n : Nat} {ws : List W} {μ : Mu} {R : W → Mu → Prop} (h : F__law_tree_rows n ws μ R) : ws.length = p__law_tree_rows.length := by
  unfold F__law_tree_rows at h
  first
    | (repeat' (rcases h with ⟨x, h⟩)) ; subst_vars ; rfl ; done
    | (rcases h with h | h <;> (repeat' (rcases h with ⟨x, h⟩)) <;> subst_vars <;> rfl ; done)
    | (rcases h with h | h | h <;> (repeat' (rcases h with ⟨x, h⟩)) <;> subst_vars <;> rfl ; done)
    | ((repeat (replace h := h.choose_spec)) ; rw [h.1] ; rfl ; done)
    | exact lenx__law_tree_rows h
theorem len_Heights_total {ws : List W} {μ : Mu} {R : W → Mu → Prop} (h : F_Heights_total ws μ R) : ws.length = p_Heights_total.length := by
  unfold F_Heights_total at h
  first
    | (repeat' (rcases h with ⟨x, h⟩)) ; subst_vars ; rfl ; done
    | (rcases h with h | h <;> (repeat' (rcases h with ⟨x, h⟩)) <;> subst_vars <;> rfl ; done)
    | (rcases h with h | h | h <;> (repeat' (rcases h with ⟨x, h⟩)) <;> subst_vars <;> rfl ; done)
    | ((repeat (replace h := h.choose_spec)) ; rw [h.1] ; rfl ; done)
    | exact lenx_Heights_total h
theorem len_Heights_row_at {ws : List W} {μ : Mu} {R : W → Mu → Prop} (h : F_Heights_row_at ws μ R) : ws.length = p_Heights_row_at.length := by
  unfold F_Heights_row_at at h
  first
    | (repeat' (rcases h with ⟨x, h⟩)) ; subst_vars ; rfl ; done
    | (rcases h with h | h <;> (repeat' (rcases h with ⟨x, h⟩)) <;> subst_vars <;> rfl ; done)
    | (rcases h with h | h | h <;> (repeat' (rcases h with ⟨x, h⟩)) <;> subst_vars <;> rfl ; done)
    | ((repeat (replace h := h.choose_spec)) ; rw [h.1] ; rfl ; done)
    | exact lenx_Heights_row_at h
theorem len_Heights_need_index {ws : List W} {μ : Mu} {R : W → Mu → Prop} {S : Str → W → Mu → Prop} (h : F_Heights_need_index ws μ R S) : ws.length = p_Heights_need_index.length := by
  unfold F_Heights_need_index at h
  first
    | (repeat' (rcases h with ⟨x, h⟩)) ; subst_vars ; rfl ; done
    | (rcases h with h | h <;> (repeat' (rcases h with ⟨x, h⟩)) <;> subst_vars <;> rfl ; done)
    | (rcases h with h | h | h <;> (repeat' (rcases h with ⟨x, h⟩)) <;> subst_vars <;> rfl ; done)
    | ((repeat (replace h := h.choose_spec)) ; rw [h.1] ; rfl ; done)
    | exact lenx_Heights_need_index h
theorem len_Heights_height {ws : List W} {μ : Mu} {R : W → Mu → Prop} {S : Str → W → Mu → Prop} (h : F_Heights_height ws μ R S) : ws.length = p_Heights_height.length := by
  unfold F_Heights_height at h
  first
    | (repeat' (rcases h with ⟨x, h⟩)) ; subst_vars ; rfl ; done
    | (rcases h with h | h <;> (repeat' (rcases h with ⟨x, h⟩)) <;> subst_vars <;> rfl ; done)
    | (rcases h with h | h | h <;> (repeat' (rcases h with ⟨x, h⟩)) <;> subst_vars <;> rfl ; done)
    | ((repeat (replace h := h.choose_spec)) ; rw [h.1] ; rfl ; done)
    | exact lenx_Heights_height h
theorem len_Heights_offset {ws : List W} {μ : Mu} {R : W → Mu → Prop} {S : Str → W → Mu → Prop} (h : F_Heights_offset ws μ R S) : ws.length = p_Heights_offset.length := by
  unfold F_Heights_offset at h
  first
    | (repeat' (rcases h with ⟨x, h⟩)) ; subst_vars ; rfl ; done
    | (rcases h with h | h <;> (repeat' (rcases h with ⟨x, h⟩)) <;> subst_vars <;> rfl ; done)
    | (rcases h with h | h | h <;> (repeat' (rcases h with ⟨x, h⟩)) <;> subst_vars <;> rfl ; done)
    | ((repeat (replace h := h.choose_spec)) ; rw [h.1] ; rfl ; done)
    | exact lenx_Heights_offset h
theorem len_Heights_known {ws : List W} {μ : Mu} {R : W → Mu → Prop} (h : F_Heights_known ws μ R) : ws.length = p_Heights_known.length := by
  unfold F_Heights_known at h
  first
    | (repeat' (rcases h with ⟨x, h⟩)) ; subst_vars ; rfl ; done
    | (rcases h with h | h <;> (repeat' (rcases h with ⟨x, h⟩)) <;> subst_vars <;> rfl ; done)
    | (rcases h with h | h | h <;> (repeat' (rcases h with ⟨x, h⟩)) <;> subst_vars <;> rfl ; done)
    | ((repeat (replace h := h.choose_spec)) ; rw [h.1] ; rfl ; done)
    | exact lenx_Heights_known h
theorem len_Heights_all_heights {ws : List W} {μ : Mu} {R : W → Mu → Prop} (h : F_Heights_all_heights ws μ R) : ws.length = p_Heights_all_heights.length := by
  unfold F_Heights_all_heights at h
  first
    | (repeat' (rcases h with ⟨x, h⟩)) ; subst_vars ; rfl ; done
    | (rcases h with h | h <;> (repeat' (rcases h with ⟨x, h⟩)) <;> subst_vars <;> rfl ; done)
    | (rcases h with h | h | h <;> (repeat' (rcases h with ⟨x, h⟩)) <;> subst_vars <;> rfl ; done)
    | ((repeat (replace h := h.choose_spec)) ; rw [h.1] ; rfl ; done)
    | exact lenx_Heights_all_heights h
theorem len_Heights___len__ {ws : List W} {μ : Mu} {R : W → Mu → Prop} (h : F_Heights___len__ ws μ R) : ws.length = p_Heights___len__.length := by
  unfold F_Heights___len__ at h
  first
    | (repeat' (rcases h with ⟨x, h⟩)) ; subst_vars ; rfl ; done
    | (rcases h with h | h <;> (repeat' (rcases h with ⟨x, h⟩)) <;> subst_vars <;> rfl ; done)
    | (rcases h with h | h | h <;> (repeat' (rcases h with ⟨x, h⟩)) <;> subst_vars <;> rfl ; done)
    | ((repeat (replace h := h.choose_spec)) ; rw [h.1] ; rfl ; done)
    | exact lenx_Heights___len__ h
theorem len__law_looks_right {ws : List W} {μ : Mu} {R : W → Mu → Prop} (h : F__law_looks_right ws μ R) : ws.length = p__law_looks_right.length := by
  unfold F__law_looks_right at h
  first
    | (repeat' (rcases h with ⟨x, h⟩)) ; subst_vars ; rfl ; done
    | (rcases h with h | h <;> (repeat' (rcases h with ⟨x, h⟩)) <;> subst_vars <;> rfl ; done)
    | (rcases h with h | h | h <;> (repeat' (rcases h with ⟨x, h⟩)) <;> subst_vars <;> rfl ; done)
    | ((repeat (replace h := h.choose_spec)) ; rw [h.1] ; rfl ; done)
    | exact lenx__law_looks_right h
theorem len_Heights_tree {ws : List W} {μ : Mu} {R : W → Mu → Prop} (h : F_Heights_tree ws μ R) : ws.length = p_Heights_tree.length := by
  unfold F_Heights_tree at h
  first
    | (repeat' (rcases h with ⟨x, h⟩)) ; subst_vars ; rfl ; done
    | (rcases h with h | h <;> (repeat' (rcases h with ⟨x, h⟩)) <;> subst_vars <;> rfl ; done)
    | (rcases h with h | h | h <;> (repeat' (rcases h with ⟨x, h⟩)) <;> subst_vars <;> rfl ; done)
    | ((repeat (replace h := h.choose_spec)) ; rw [h.1] ; rfl ; done)
    | exact lenx_Heights_tree h
theorem len_Heights_insert {ws : List W} {μ : Mu} {R : W → Mu → Prop} {S : Str → W → Mu → Prop} (h : F_Heights_insert ws μ R S) : ws.length = p_Heights_insert.length := by
  unfold F_Heights_insert at h
  first
    | (repeat' (rcases h with ⟨x, h⟩)) ; subst_vars ; rfl ; done
    | (rcases h with h | h <;> (repeat' (rcases h with ⟨x, h⟩)) <;> subst_vars <;> rfl ; done)
    | (rcases h with h | h | h <;> (repeat' (rcases h with ⟨x, h⟩)) <;> subst_vars <;> rfl ; done)
    | ((repeat (replace h := h.choose_spec)) ; rw [h.1] ; rfl ; done)
    | exact lenx_Heights_insert h
theorem len_Heights_learn {ws : List W} {μ : Mu} {R : W → Mu → Prop} {S : Str → W → Mu → Prop} (h : F_Heights_learn ws μ R S) : ws.length = p_Heights_learn.length := by
  unfold F_Heights_learn at h
  first
    | (repeat' (rcases h with ⟨x, h⟩)) ; subst_vars ; rfl ; done
    | (rcases h with h | h <;> (repeat' (rcases h with ⟨x, h⟩)) <;> subst_vars <;> rfl ; done)
    | (rcases h with h | h | h <;> (repeat' (rcases h with ⟨x, h⟩)) <;> subst_vars <;> rfl ; done)
    | ((repeat (replace h := h.choose_spec)) ; rw [h.1] ; rfl ; done)
    | exact lenx_Heights_learn h
theorem len_Heights_remove {ws : List W} {μ : Mu} {R : W → Mu → Prop} {S : Str → W → Mu → Prop} (h : F_Heights_remove ws μ R S) : ws.length = p_Heights_remove.length := by
  unfold F_Heights_remove at h
  first
    | (repeat' (rcases h with ⟨x, h⟩)) ; subst_vars ; rfl ; done
    | (rcases h with h | h <;> (repeat' (rcases h with ⟨x, h⟩)) <;> subst_vars <;> rfl ; done)
    | (rcases h with h | h | h <;> (repeat' (rcases h with ⟨x, h⟩)) <;> subst_vars <;> rfl ; done)
    | ((repeat (replace h := h.choose_spec)) ; rw [h.1] ; rfl ; done)
    | exact lenx_Heights_remove h
theorem len_Heights___init__ {ws : List W} {μ : Mu} {R : W → Mu → Prop} {S : Str → W → Mu → Prop} (h : F_Heights___init__ ws μ R S) : ws.length = p_Heights___init__.length := by
  unfold F_Heights___init__ at h
  first
    | (repeat' (rcases h with ⟨x, h⟩)) ; subst_vars ; rfl ; done
    | (rcases h with h | h <;> (repeat' (rcases h with ⟨x, h⟩)) <;> subst_vars <;> rfl ; done)
    | (rcases h with h | h | h <;> (repeat' (rcases h with ⟨x, h⟩)) <;> subst_vars <;> rfl ; done)
    | ((repeat (replace h := h.choose_spec)) ; rw [h.1] ; rfl ; done)
    | exact lenx_Heights___init__ h
theorem len__law_right {ws : List W} {μ : Mu} {R : W → Mu → Prop} (h : F__law_right ws μ R) : ws.length = p__law_right.length := by
  unfold F__law_right at h
  first
    | (repeat' (rcases h with ⟨x, h⟩)) ; subst_vars ; rfl ; done
    | (rcases h with h | h <;> (repeat' (rcases h with ⟨x, h⟩)) <;> subst_vars <;> rfl ; done)
    | (rcases h with h | h | h <;> (repeat' (rcases h with ⟨x, h⟩)) <;> subst_vars <;> rfl ; done)
    | ((repeat (replace h := h.choose_spec)) ; rw [h.1] ; rfl ; done)
    | exact lenx__law_right h
theorem len_law {ws : List W} {μ : Mu} {R : W → Mu → Prop} (h : F_law ws μ R) : ws.length = p_law.length := by
  unfold F_law at h
  first
    | (repeat' (rcases h with ⟨x, h⟩)) ; subst_vars ; rfl ; done
    | (rcases h with h | h <;> (repeat' (rcases h with ⟨x, h⟩)) <;> subst_vars <;> rfl ; done)
    | (rcases h with h | h | h <;> (repeat' (rcases h with ⟨x, h⟩)) <;> subst_vars <;> rfl ; done)
    | ((repeat (replace h := h.choose_spec)) ; rw [h.1] ; rfl ; done)
    | exact lenx_law h
structure Txt (P : Program) (K : PySem.W.Frag) (mg : Str → Option Value) (base : Heap) where
  C_Heights : Addr
  kc_Heights : clA K "Heights" C_Heights
  gc_Heights : mg "Heights" = some (.ref C_Heights)
  lc_Heights : L2.Cls K C_Heights
  a_counted : Addr
  d_counted : FuncData
  u_counted : Fun K "counted" "counted" s_counted a_counted d_counted
  m_counted : mg "counted" = some (.ref a_counted)
  a_rows_of : Addr
  d_rows_of : FuncData
  u_rows_of : Fun K "rows_of" "rows_of" s_rows_of a_rows_of d_rows_of
  m_rows_of : mg "rows_of" = some (.ref a_rows_of)
  a_total_of : Addr
  d_total_of : FuncData
  u_total_of : Fun K "total_of" "total_of" s_total_of a_total_of d_total_of
  m_total_of : mg "total_of" = some (.ref a_total_of)
  a_depth_of : Addr
  d_depth_of : FuncData
  u_depth_of : Fun K "depth_of" "depth_of" s_depth_of a_depth_of d_depth_of
  m_depth_of : mg "depth_of" = some (.ref a_depth_of)
  a_joined : Addr
  d_joined : FuncData
  u_joined : Fun K "joined" "joined" s_joined a_joined d_joined
  m_joined : mg "joined" = some (.ref a_joined)
  a_balanced : Addr
  d_balanced : FuncData
  u_balanced : Fun K "balanced" "balanced" s_balanced a_balanced d_balanced
  m_balanced : mg "balanced" = some (.ref a_balanced)
  a_with_row : Addr
  d_with_row : FuncData
  u_with_row : Fun K "with_row" "with_row" s_with_row a_with_row d_with_row
  m_with_row : mg "with_row" = some (.ref a_with_row)
  a_with_height : Addr
  d_with_height : FuncData
  u_with_height : Fun K "with_height" "with_height" s_with_height a_with_height d_with_height
  m_with_height : mg "with_height" = some (.ref a_with_height)
  a_height_at : Addr
  d_height_at : FuncData
  u_height_at : Fun K "height_at" "height_at" s_height_at a_height_at d_height_at
  m_height_at : mg "height_at" = some (.ref a_height_at)
  a_without_row : Addr
  d_without_row : FuncData
  u_without_row : Fun K "without_row" "without_row" s_without_row a_without_row d_without_row
  m_without_row : mg "without_row" = some (.ref a_without_row)
  a_offset_of : Addr
  d_offset_of : FuncData
  u_offset_of : Fun K "offset_of" "offset_of" s_offset_of a_offset_of d_offset_of
  m_offset_of : mg "offset_of" = some (.ref a_offset_of)
  a_covering : Addr
  d_covering : FuncData
  u_covering : Fun K "covering" "covering" s_covering a_covering d_covering
  m_covering : mg "covering" = some (.ref a_covering)
  a_plain_tree : Addr
  d_plain_tree : FuncData
  u_plain_tree : Fun K "plain_tree" "plain_tree" s_plain_tree a_plain_tree d_plain_tree
  m_plain_tree : mg "plain_tree" = some (.ref a_plain_tree)
  a_heights_of : Addr
  d_heights_of : FuncData
  u_heights_of : Fun K "heights_of" "heights_of" s_heights_of a_heights_of d_heights_of
  m_heights_of : mg "heights_of" = some (.ref a_heights_of)
  a_need_guess : Addr
  d_need_guess : FuncData
  u_need_guess : Fun K "need_guess" "need_guess" s_need_guess a_need_guess d_need_guess
  m_need_guess : mg "need_guess" = some (.ref a_need_guess)
  a_need_height : Addr
  d_need_height : FuncData
  u_need_height : Fun K "need_height" "need_height" s_need_height a_need_height d_need_height
  m_need_height : mg "need_height" = some (.ref a_need_height)
  a_is_integer : Addr
  d_is_integer : FuncData
  u_is_integer : Fun K "is_integer" "is_integer" s_is_integer a_is_integer d_is_integer
  m_is_integer : mg "is_integer" = some (.ref a_is_integer)
  a_measured : Addr
  d_measured : FuncData
  u_measured : Fun K "measured" "measured" s_measured a_measured d_measured
  m_measured : mg "measured" = some (.ref a_measured)
  a_tree_right : Addr
  d_tree_right : FuncData
  u_tree_right : Fun K "tree_right" "tree_right" s_tree_right a_tree_right d_tree_right
  m_tree_right : mg "tree_right" = some (.ref a_tree_right)
  a_heights_in : Addr
  d_heights_in : FuncData
  u_heights_in : Fun K "heights_in" "heights_in" s_heights_in a_heights_in d_heights_in
  m_heights_in : mg "heights_in" = some (.ref a_heights_in)
  a__law_deck : Addr
  d__law_deck : FuncData
  u__law_deck : Fun K "_law_deck" "_law_deck" s__law_deck a__law_deck d__law_deck
  m__law_deck : mg "_law_deck" = some (.ref a__law_deck)
  a__law_draw : Addr
  d__law_draw : FuncData
  u__law_draw : Fun K "_law_draw" "_law_draw" s__law_draw a__law_draw d__law_draw
  m__law_draw : mg "_law_draw" = some (.ref a__law_draw)
  a__law_same : Addr
  d__law_same : FuncData
  u__law_same : Fun K "_law_same" "_law_same" s__law_same a__law_same d__law_same
  m__law_same : mg "_law_same" = some (.ref a__law_same)
  a__law_integer : Addr
  d__law_integer : FuncData
  u__law_integer : Fun K "_law_integer" "_law_integer" s__law_integer a__law_integer d__law_integer
  m__law_integer : mg "_law_integer" = some (.ref a__law_integer)
  a__law_height : Addr
  d__law_height : FuncData
  u__law_height : Fun K "_law_height" "_law_height" s__law_height a__law_height d__law_height
  m__law_height : mg "_law_height" = some (.ref a__law_height)
  a__law_counted : Addr
  d__law_counted : FuncData
  u__law_counted : Fun K "_law_counted" "_law_counted" s__law_counted a__law_counted d__law_counted
  m__law_counted : mg "_law_counted" = some (.ref a__law_counted)
  a__law_before : Addr
  d__law_before : FuncData
  u__law_before : Fun K "_law_before" "_law_before" s__law_before a__law_before d__law_before
  m__law_before : mg "_law_before" = some (.ref a__law_before)
  a__law_covering : Addr
  d__law_covering : FuncData
  u__law_covering : Fun K "_law_covering" "_law_covering" s__law_covering a__law_covering d__law_covering
  m__law_covering : mg "_law_covering" = some (.ref a__law_covering)
  a__law_tree_told : Addr
  d__law_tree_told : FuncData
  u__law_tree_told : Fun K "_law_tree_told" "_law_tree_told" s__law_tree_told a__law_tree_told d__law_tree_told
  m__law_tree_told : mg "_law_tree_told" = some (.ref a__law_tree_told)
  a__law_tree_rows : Addr
  d__law_tree_rows : FuncData
  u__law_tree_rows : Fun K "_law_tree_rows" "_law_tree_rows" s__law_tree_rows a__law_tree_rows d__law_tree_rows
  m__law_tree_rows : mg "_law_tree_rows" = some (.ref a__law_tree_rows)
  a_Heights_total : Addr
  d_Heights_total : FuncData
  u_Heights_total : Fun K "total" "Heights.total" s_Heights_total a_Heights_total d_Heights_total
  i_Heights_total : L2.Meth K C_Heights "total" a_Heights_total
  a_Heights_row_at : Addr
  d_Heights_row_at : FuncData
  u_Heights_row_at : Fun K "row_at" "Heights.row_at" s_Heights_row_at a_Heights_row_at d_Heights_row_at
  i_Heights_row_at : L2.Meth K C_Heights "row_at" a_Heights_row_at
  a_Heights_need_index : Addr
  d_Heights_need_index : FuncData
  u_Heights_need_index : Fun K "need_index" "Heights.need_index" s_Heights_need_index a_Heights_need_index d_Heights_need_index
  i_Heights_need_index : L2.Meth K C_Heights "need_index" a_Heights_need_index
  a_Heights_height : Addr
  d_Heights_height : FuncData
  u_Heights_height : Fun K "height" "Heights.height" s_Heights_height a_Heights_height d_Heights_height
  i_Heights_height : L2.Meth K C_Heights "height" a_Heights_height
  a_Heights_offset : Addr
  d_Heights_offset : FuncData
  u_Heights_offset : Fun K "offset" "Heights.offset" s_Heights_offset a_Heights_offset d_Heights_offset
  i_Heights_offset : L2.Meth K C_Heights "offset" a_Heights_offset
  a_Heights_known : Addr
  d_Heights_known : FuncData
  u_Heights_known : Fun K "known" "Heights.known" s_Heights_known a_Heights_known d_Heights_known
  i_Heights_known : L2.Meth K C_Heights "known" a_Heights_known
  a_Heights_all_heights : Addr
  d_Heights_all_heights : FuncData
  u_Heights_all_heights : Fun K "all_heights" "Heights.all_heights" s_Heights_all_heights a_Heights_all_heights d_Heights_all_heights
  i_Heights_all_heights : L2.Meth K C_Heights "all_heights" a_Heights_all_heights
  a_Heights___len__ : Addr
  d_Heights___len__ : FuncData
  u_Heights___len__ : Fun K "__len__" "Heights.__len__" s_Heights___len__ a_Heights___len__ d_Heights___len__
  i_Heights___len__ : L2.Meth K C_Heights "__len__" a_Heights___len__
  a__law_looks_right : Addr
  d__law_looks_right : FuncData
  u__law_looks_right : Fun K "_law_looks_right" "_law_looks_right" s__law_looks_right a__law_looks_right d__law_looks_right
  m__law_looks_right : mg "_law_looks_right" = some (.ref a__law_looks_right)
  a_Heights_tree : Addr
  d_Heights_tree : FuncData
  u_Heights_tree : Fun K "tree" "Heights.tree" s_Heights_tree a_Heights_tree d_Heights_tree
  i_Heights_tree : L2.Meth K C_Heights "tree" a_Heights_tree
  a_Heights_insert : Addr
  d_Heights_insert : FuncData
  u_Heights_insert : Fun K "insert" "Heights.insert" s_Heights_insert a_Heights_insert d_Heights_insert
  i_Heights_insert : L2.Meth K C_Heights "insert" a_Heights_insert
  a_Heights_learn : Addr
  d_Heights_learn : FuncData
  u_Heights_learn : Fun K "learn" "Heights.learn" s_Heights_learn a_Heights_learn d_Heights_learn
  i_Heights_learn : L2.Meth K C_Heights "learn" a_Heights_learn
  a_Heights_remove : Addr
  d_Heights_remove : FuncData
  u_Heights_remove : Fun K "remove" "Heights.remove" s_Heights_remove a_Heights_remove d_Heights_remove
  i_Heights_remove : L2.Meth K C_Heights "remove" a_Heights_remove
  a_Heights___init__ : Addr
  d_Heights___init__ : FuncData
  u_Heights___init__ : Fun K "__init__" "Heights.__init__" s_Heights___init__ a_Heights___init__ d_Heights___init__
  i_Heights___init__ : L2.Mk K C_Heights a_Heights___init__
  a__law_right : Addr
  d__law_right : FuncData
  u__law_right : Fun K "_law_right" "_law_right" s__law_right a__law_right d__law_right
  m__law_right : mg "_law_right" = some (.ref a__law_right)
  a_law : Addr
  d_law : FuncData
  u_law : Fun K "law" "law" s_law a_law d_law
  m_law : mg "law" = some (.ref a_law)
  n_abs : mg "abs" = none
  n_all : mg "all" = none
  n_bool : mg "bool" = none
  n_int : mg "int" = none
  n_isinstance : mg "isinstance" = none
  n_len : mg "len" = none
  n_list : mg "list" = none
  n_max : mg "max" = none
  n_min : mg "min" = none
  n_range : mg "range" = none
  n_str : mg "str" = none
  n_sum : mg "sum" = none
  n_tuple : mg "tuple" = none
  e_InvalidIndex : IsErr P K mg "InvalidIndex"
  e_InvalidNumber : IsErr P K mg "InvalidNumber"
  CF : ClsF K
  EF : ErrF K
section
variable {P : Program} {w : World} {K : PySem.W.Frag} {mg : Str → Option Value} {base : Heap}
theorem g_counted (T : Txt P K mg base) : FnG P w K mg base CX0 1 T.a_counted T.d_counted p_counted (spD K F_counted) :=
  fnG_ok T.u_counted sc_counted (fun ws μ R h => len_counted h) (fun cdv A outer s H E hr hgd => ⟨t_counted K, dv_counted (hr := hr) (hgd := hgd), rd_counted⟩)
theorem h_counted (T : Txt P K mg base) : HasG P w K mg base CX0 "counted" p_counted 1 (spD K F_counted) := hasg_of T.u_counted T.m_counted (g_counted T) fun _ _ _ _ _ _ us hl => match us, hl with | [_, _], _ => rfl
theorem g_rows_of (T : Txt P K mg base) : FnG P w K mg base CX0 1 T.a_rows_of T.d_rows_of p_rows_of (spD K F_rows_of) :=
  fnG_ok T.u_rows_of sc_rows_of (fun ws μ R h => len_rows_of h) (fun cdv A outer s H E hr hgd => ⟨t_rows_of K, dv_rows_of (hr := hr) (hgd := hgd), rd_rows_of⟩)
theorem h_rows_of (T : Txt P K mg base) : HasG P w K mg base CX0 "rows_of" p_rows_of 1 (spD K F_rows_of) := hasg_of T.u_rows_of T.m_rows_of (g_rows_of T) fun _ _ _ _ _ _ us hl => match us, hl with | [_], _ => rfl
theorem g_total_of (T : Txt P K mg base) : FnG P w K mg base CX0 1 T.a_total_of T.d_total_of p_total_of (spD K F_total_of) :=
  fnG_ok T.u_total_of sc_total_of (fun ws μ R h => len_total_of h) (fun cdv A outer s H E hr hgd => ⟨t_total_of K, dv_total_of (hr := hr) (hgd := hgd), rd_total_of⟩)
theorem h_total_of (T : Txt P K mg base) : HasG P w K mg base CX0 "total_of" p_total_of 1 (spD K F_total_of) := hasg_of T.u_total_of T.m_total_of (g_total_of T) fun _ _ _ _ _ _ us hl => match us, hl with | [_], _ => rfl
theorem g_depth_of (T : Txt P K mg base) : FnG P w K mg base CX0 1 T.a_depth_of T.d_depth_of p_depth_of (spD K F_depth_of) :=
  fnG_ok T.u_depth_of sc_depth_of (fun ws μ R h => len_depth_of h) (fun cdv A outer s H E hr hgd => ⟨t_depth_of K, dv_depth_of (hr := hr) (hgd := hgd), rd_depth_of⟩)
theorem h_depth_of (T : Txt P K mg base) : HasG P w K mg base CX0 "depth_of" p_depth_of 1 (spD K F_depth_of) := hasg_of T.u_depth_of T.m_depth_of (g_depth_of T) fun _ _ _ _ _ _ us hl => match us, hl with | [_], _ => rfl
theorem g_joined (T : Txt P K mg base) : FnG P w K mg base CX0 2 T.a_joined T.d_joined p_joined (spD K F_joined) :=
  fnG_ok T.u_joined sc_joined (fun ws μ R h => len_joined h) (fun cdv A outer s H E hr hgd => ⟨t_joined K, dv_joined (hr := hr) (hgd := hgd) (h_counted := h_counted T) (h_depth_of := h_depth_of T) (h_rows_of := h_rows_of T) (h_total_of := h_total_of T) (n_max := T.n_max), rd_joined⟩)
theorem h_joined (T : Txt P K mg base) : HasG P w K mg base CX0 "joined" p_joined 2 (spD K F_joined) := hasg_of T.u_joined T.m_joined (g_joined T) fun _ _ _ _ _ _ us hl => match us, hl with | [_, _, _, _], _ => rfl
theorem g_balanced (T : Txt P K mg base) : FnG P w K mg base CX0 3 T.a_balanced T.d_balanced p_balanced (spD K F_balanced) :=
  fnG_ok T.u_balanced sc_balanced (fun ws μ R h => len_balanced h) (fun cdv A outer s H E hr hgd => ⟨t_balanced K, dv_balanced (hr := hr) (hgd := hgd) (h_depth_of := h_depth_of T) (h_joined := h_joined T), rd_balanced⟩)
theorem h_balanced (T : Txt P K mg base) : HasG P w K mg base CX0 "balanced" p_balanced 3 (spD K F_balanced) := hasg_of T.u_balanced T.m_balanced (g_balanced T) fun _ _ _ _ _ _ us hl => match us, hl with | [_, _, _, _], _ => rfl
theorem g_with_row (T : Txt P K mg base) : ∀ n : Nat, FnG P w K mg base CX0 (n + 3) T.a_with_row T.d_with_row p_with_row (spD K (F_with_row n))
  | 0 => fnG_none fun ws μ R => no_with_row
  | n + 1 =>
    (fnG_ok T.u_with_row sc_with_row (fun ws μ R h => len_with_row h) (fun cdv A outer s H E hr hgd => ⟨t_with_row K n, dv_with_row (n := n) (hr := hr) (hgd := hgd) (h_balanced := h_balanced T) (h_joined := h_joined T) (h_rows_of := h_rows_of T) (h_with_row := hasg_of T.u_with_row T.m_with_row (g_with_row T n) fun _ _ _ _ _ _ us hl => match us, hl with | [_, _, _, _], _ => rfl), rd_with_row n⟩) : FnG P w K mg base CX0 (n + 3 + 1) T.a_with_row T.d_with_row p_with_row (spD K (F_with_row (n + 1)))).lv (by omega)
theorem h_with_row (T : Txt P K mg base) (n : Nat) : HasG P w K mg base CX0 "with_row" p_with_row (n + 3) (spD K (F_with_row n)) := hasg_of T.u_with_row T.m_with_row (g_with_row T n) fun _ _ _ _ _ _ us hl => match us, hl with | [_, _, _, _], _ => rfl
theorem g_with_height (T : Txt P K mg base) : ∀ n : Nat, FnG P w K mg base CX0 (n + 2) T.a_with_height T.d_with_height p_with_height (spD K (F_with_height n))
  | 0 => fnG_none fun ws μ R => no_with_height
  | n + 1 =>
    (fnG_ok T.u_with_height sc_with_height (fun ws μ R h => len_with_height h) (fun cdv A outer s H E hr hgd => ⟨t_with_height K n, dv_with_height (n := n) (hr := hr) (hgd := hgd) (h_joined := h_joined T) (h_rows_of := h_rows_of T) (h_with_height := hasg_of T.u_with_height T.m_with_height (g_with_height T n) fun _ _ _ _ _ _ us hl => match us, hl with | [_, _, _, _], _ => rfl), rd_with_height n⟩) : FnG P w K mg base CX0 (n + 2 + 1) T.a_with_height T.d_with_height p_with_height (spD K (F_with_height (n + 1)))).lv (by omega)
theorem h_with_height (T : Txt P K mg base) (n : Nat) : HasG P w K mg base CX0 "with_height" p_with_height (n + 2) (spD K (F_with_height n)) := hasg_of T.u_with_height T.m_with_height (g_with_height T n) fun _ _ _ _ _ _ us hl => match us, hl with | [_, _, _, _], _ => rfl
theorem g_height_at (T : Txt P K mg base) : ∀ n : Nat, FnG P w K mg base CX0 (n + 1) T.a_height_at T.d_height_at p_height_at (spD K (F_height_at n))
  | 0 => fnG_none fun ws μ R => no_height_at
  | n + 1 =>
    (fnG_ok T.u_height_at sc_height_at (fun ws μ R h => len_height_at h) (fun cdv A outer s H E hr hgd => ⟨t_height_at K n, dv_height_at (n := n) (hr := hr) (hgd := hgd) (h_height_at := hasg_of T.u_height_at T.m_height_at (g_height_at T n) fun _ _ _ _ _ _ us hl => match us, hl with | [_, _], _ => rfl) (h_rows_of := h_rows_of T), rd_height_at n⟩) : FnG P w K mg base CX0 (n + 1 + 1) T.a_height_at T.d_height_at p_height_at (spD K (F_height_at (n + 1)))).lv (by omega)
theorem h_height_at (T : Txt P K mg base) (n : Nat) : HasG P w K mg base CX0 "height_at" p_height_at (n + 1) (spD K (F_height_at n)) := hasg_of T.u_height_at T.m_height_at (g_height_at T n) fun _ _ _ _ _ _ us hl => match us, hl with | [_, _], _ => rfl
theorem g_without_row (T : Txt P K mg base) : ∀ n : Nat, FnG P w K mg base CX0 (n + 61) T.a_without_row T.d_without_row p_without_row (spD K (F_without_row n))
  | 0 => fnG_none fun ws μ R => no_without_row
  | n + 1 =>
    (fnG_ok T.u_without_row sc_without_row (fun ws μ R h => len_without_row h) (fun cdv A outer s H E hr hgd => ⟨t_without_row K n, dv_without_row (n := n) (hr := hr) (hgd := hgd) (h_balanced := h_balanced T) (h_height_at := h_height_at T 60) (h_rows_of := h_rows_of T) (h_without_row := hasg_of T.u_without_row T.m_without_row (g_without_row T n) fun _ _ _ _ _ _ us hl => match us, hl with | [_, _, _], _ => rfl), rd_without_row n⟩) : FnG P w K mg base CX0 (n + 61 + 1) T.a_without_row T.d_without_row p_without_row (spD K (F_without_row (n + 1)))).lv (by omega)
theorem h_without_row (T : Txt P K mg base) (n : Nat) : HasG P w K mg base CX0 "without_row" p_without_row (n + 61) (spD K (F_without_row n)) := hasg_of T.u_without_row T.m_without_row (g_without_row T n) fun _ _ _ _ _ _ us hl => match us, hl with | [_, _, _], _ => rfl
theorem g_offset_of (T : Txt P K mg base) : ∀ n : Nat, FnG P w K mg base CX0 (n + 1) T.a_offset_of T.d_offset_of p_offset_of (spD K (F_offset_of n))
  | 0 => fnG_none fun ws μ R => no_offset_of
  | n + 1 =>
    (fnG_ok T.u_offset_of sc_offset_of (fun ws μ R h => len_offset_of h) (fun cdv A outer s H E hr hgd => ⟨t_offset_of K n, dv_offset_of (n := n) (hr := hr) (hgd := hgd) (h_counted := h_counted T) (h_offset_of := hasg_of T.u_offset_of T.m_offset_of (g_offset_of T n) fun _ _ _ _ _ _ us hl => match us, hl with | [_, _, _], _ => rfl) (h_rows_of := h_rows_of T) (h_total_of := h_total_of T), rd_offset_of n⟩) : FnG P w K mg base CX0 (n + 1 + 1) T.a_offset_of T.d_offset_of p_offset_of (spD K (F_offset_of (n + 1)))).lv (by omega)
theorem h_offset_of (T : Txt P K mg base) (n : Nat) : HasG P w K mg base CX0 "offset_of" p_offset_of (n + 1) (spD K (F_offset_of n)) := hasg_of T.u_offset_of T.m_offset_of (g_offset_of T n) fun _ _ _ _ _ _ us hl => match us, hl with | [_, _, _], _ => rfl
theorem g_covering (T : Txt P K mg base) : ∀ n : Nat, FnG P w K mg base CX0 (n + 1) T.a_covering T.d_covering p_covering (spD K (F_covering n))
  | 0 => fnG_none fun ws μ R => no_covering
  | n + 1 =>
    (fnG_ok T.u_covering sc_covering (fun ws μ R h => len_covering h) (fun cdv A outer s H E hr hgd => ⟨t_covering K n, dv_covering (n := n) (hr := hr) (hgd := hgd) (h_counted := h_counted T) (h_covering := hasg_of T.u_covering T.m_covering (g_covering T n) fun _ _ _ _ _ _ us hl => match us, hl with | [_, _, _], _ => rfl) (h_rows_of := h_rows_of T) (h_total_of := h_total_of T), rd_covering n⟩) : FnG P w K mg base CX0 (n + 1 + 1) T.a_covering T.d_covering p_covering (spD K (F_covering (n + 1)))).lv (by omega)
theorem h_covering (T : Txt P K mg base) (n : Nat) : HasG P w K mg base CX0 "covering" p_covering (n + 1) (spD K (F_covering n)) := hasg_of T.u_covering T.m_covering (g_covering T n) fun _ _ _ _ _ _ us hl => match us, hl with | [_, _, _], _ => rfl
theorem g_plain_tree (T : Txt P K mg base) : ∀ n : Nat, FnG P w K mg base CX0 (n + 0) T.a_plain_tree T.d_plain_tree p_plain_tree (spD K (F_plain_tree n))
  | 0 => fnG_none fun ws μ R => no_plain_tree
  | n + 1 =>
    (fnG_ok T.u_plain_tree sc_plain_tree (fun ws μ R h => len_plain_tree h) (fun cdv A outer s H E hr hgd => ⟨t_plain_tree K n, dv_plain_tree (n := n) (hr := hr) (hgd := hgd) (h_plain_tree := hasg_of T.u_plain_tree T.m_plain_tree (g_plain_tree T n) fun _ _ _ _ _ _ us hl => match us, hl with | [_], _ => rfl), rd_plain_tree n⟩) : FnG P w K mg base CX0 (n + 0 + 1) T.a_plain_tree T.d_plain_tree p_plain_tree (spD K (F_plain_tree (n + 1)))).lv (by omega)
theorem h_plain_tree (T : Txt P K mg base) (n : Nat) : HasG P w K mg base CX0 "plain_tree" p_plain_tree (n + 0) (spD K (F_plain_tree n)) := hasg_of T.u_plain_tree T.m_plain_tree (g_plain_tree T n) fun _ _ _ _ _ _ us hl => match us, hl with | [_], _ => rfl
theorem g_heights_of (T : Txt P K mg base) : ∀ n : Nat, FnG P w K mg base CX0 (n + 0) T.a_heights_of T.d_heights_of p_heights_of (spD K (F_heights_of n))
  | 0 => fnG_none fun ws μ R => no_heights_of
  | n + 1 =>
    (fnG_ok T.u_heights_of sc_heights_of (fun ws μ R h => len_heights_of h) (fun cdv A outer s H E hr hgd => ⟨t_heights_of K n, dv_heights_of (n := n) (hr := hr) (hgd := hgd) (h_heights_of := hasg_of T.u_heights_of T.m_heights_of (g_heights_of T n) fun _ _ _ _ _ _ us hl => match us, hl with | [_], _ => rfl), rd_heights_of n⟩) : FnG P w K mg base CX0 (n + 0 + 1) T.a_heights_of T.d_heights_of p_heights_of (spD K (F_heights_of (n + 1)))).lv (by omega)
theorem h_heights_of (T : Txt P K mg base) (n : Nat) : HasG P w K mg base CX0 "heights_of" p_heights_of (n + 0) (spD K (F_heights_of n)) := hasg_of T.u_heights_of T.m_heights_of (g_heights_of T n) fun _ _ _ _ _ _ us hl => match us, hl with | [_], _ => rfl
theorem g_need_guess (T : Txt P K mg base) : FnG P w K mg base (L2.CX P w) 1 T.a_need_guess T.d_need_guess p_need_guess (spX K F_need_guess) :=
  fnG_okX T.u_need_guess sc_need_guess (fun ws μ R S h => len_need_guess h) (fun cdv A outer s H E hr hgd => ⟨t_need_guess K fun c d _ H => E c d H, dv_need_guess (hr := hr) (hgd := hgd) (e_InvalidNumber := T.e_InvalidNumber), (rd_need_guess E)⟩)
theorem h_need_guess (T : Txt P K mg base) : HasG P w K mg base (L2.CX P w) "need_guess" p_need_guess 1 (spX K F_need_guess) := hasg_of T.u_need_guess T.m_need_guess (g_need_guess T) fun _ _ _ _ _ _ us hl => match us, hl with | [_], _ => rfl
theorem g_need_height (T : Txt P K mg base) : FnG P w K mg base (L2.CX P w) 1 T.a_need_height T.d_need_height p_need_height (spX K F_need_height) :=
  fnG_okX T.u_need_height sc_need_height (fun ws μ R S h => len_need_height h) (fun cdv A outer s H E hr hgd => ⟨t_need_height K fun c d _ H => E c d H, dv_need_height (hr := hr) (hgd := hgd) (e_InvalidNumber := T.e_InvalidNumber), (rd_need_height E)⟩)
theorem h_need_height (T : Txt P K mg base) : HasG P w K mg base (L2.CX P w) "need_height" p_need_height 1 (spX K F_need_height) := hasg_of T.u_need_height T.m_need_height (g_need_height T) fun _ _ _ _ _ _ us hl => match us, hl with | [_], _ => rfl
theorem g_is_integer (T : Txt P K mg base) : FnG P w K mg base CX0 1 T.a_is_integer T.d_is_integer p_is_integer (spD K F_is_integer) :=
  fnG_ok T.u_is_integer sc_is_integer (fun ws μ R h => len_is_integer h) (fun cdv A outer s H E hr hgd => ⟨t_is_integer K, dv_is_integer (hr := hr) (hgd := hgd) (n_bool := T.n_bool) (n_int := T.n_int) (n_isinstance := T.n_isinstance), rd_is_integer⟩)
theorem h_is_integer (T : Txt P K mg base) : HasG P w K mg base CX0 "is_integer" p_is_integer 1 (spD K F_is_integer) := hasg_of T.u_is_integer T.m_is_integer (g_is_integer T) fun _ _ _ _ _ _ us hl => match us, hl with | [_], _ => rfl
theorem g_measured (T : Txt P K mg base) : ∀ n : Nat, FnG P w K mg base CX0 (n + 1) T.a_measured T.d_measured p_measured (spD K (F_measured n))
  | 0 => fnG_none fun ws μ R => no_measured
  | n + 1 =>
    (fnG_ok T.u_measured sc_measured (fun ws μ R h => len_measured h) (fun cdv A outer s H E hr hgd => ⟨t_measured K n, dv_measured (n := n) (hr := hr) (hgd := hgd) (h_counted := h_counted T) (h_is_integer := h_is_integer T) (h_measured := hasg_of T.u_measured T.m_measured (g_measured T n) fun _ _ _ _ _ _ us hl => match us, hl with | [_, _], _ => rfl) (n_abs := T.n_abs) (n_isinstance := T.n_isinstance) (n_len := T.n_len) (n_max := T.n_max) (n_tuple := T.n_tuple), rd_measured n⟩) : FnG P w K mg base CX0 (n + 1 + 1) T.a_measured T.d_measured p_measured (spD K (F_measured (n + 1)))).lv (by omega)
theorem h_measured (T : Txt P K mg base) (n : Nat) : HasG P w K mg base CX0 "measured" p_measured (n + 1) (spD K (F_measured n)) := hasg_of T.u_measured T.m_measured (g_measured T n) fun _ _ _ _ _ _ us hl => match us, hl with | [_, _], _ => rfl
theorem g_tree_right (T : Txt P K mg base) : FnG P w K mg base CX0 62 T.a_tree_right T.d_tree_right p_tree_right (spD K F_tree_right) :=
  fnG_ok T.u_tree_right sc_tree_right (fun ws μ R h => len_tree_right h) (fun cdv A outer s H E hr hgd => ⟨t_tree_right K, dv_tree_right (hr := hr) (hgd := hgd) (h_measured := h_measured T 60), rd_tree_right⟩)
theorem h_tree_right (T : Txt P K mg base) : HasG P w K mg base CX0 "tree_right" p_tree_right 62 (spD K F_tree_right) := hasg_of T.u_tree_right T.m_tree_right (g_tree_right T) fun _ _ _ _ _ _ us hl => match us, hl with | [_, _], _ => rfl
theorem g_heights_in (T : Txt P K mg base) : FnG P w K mg base CX0 61 T.a_heights_in T.d_heights_in p_heights_in (spD K F_heights_in) :=
  fnG_ok T.u_heights_in sc_heights_in (fun ws μ R h => len_heights_in h) (fun cdv A outer s H E hr hgd => ⟨t_heights_in K, dv_heights_in (hr := hr) (hgd := hgd) (h_heights_of := h_heights_of T 60), rd_heights_in⟩)
theorem h_heights_in (T : Txt P K mg base) : HasG P w K mg base CX0 "heights_in" p_heights_in 61 (spD K F_heights_in) := hasg_of T.u_heights_in T.m_heights_in (g_heights_in T) fun _ _ _ _ _ _ us hl => match us, hl with | [_], _ => rfl
theorem g__law_deck (T : Txt P K mg base) : FnG P w K mg base CX0 1 T.a__law_deck T.d__law_deck p__law_deck (spD K F__law_deck) :=
  fnG_ok T.u__law_deck sc__law_deck (fun ws μ R h => len__law_deck h) (fun cdv A outer s H E hr hgd => ⟨t__law_deck K, dv__law_deck (hr := hr) (hgd := hgd) (n_abs := T.n_abs) (n_int := T.n_int) (n_len := T.n_len) (n_max := T.n_max) (n_range := T.n_range), rd__law_deck⟩)
theorem h__law_deck (T : Txt P K mg base) : HasG P w K mg base CX0 "_law_deck" p__law_deck 1 (spD K F__law_deck) := hasg_of T.u__law_deck T.m__law_deck (g__law_deck T) fun _ _ _ _ _ _ us hl => match us, hl with | [_, _], _ => rfl
theorem g__law_draw (T : Txt P K mg base) : FnG P w K mg base CX0 1 T.a__law_draw T.d__law_draw p__law_draw (spD K F__law_draw) :=
  fnG_ok T.u__law_draw sc__law_draw (fun ws μ R h => len__law_draw h) (fun cdv A outer s H E hr hgd => ⟨t__law_draw K, dv__law_draw (hr := hr) (hgd := hgd) (n_int := T.n_int), rd__law_draw⟩)
theorem h__law_draw (T : Txt P K mg base) : HasG P w K mg base CX0 "_law_draw" p__law_draw 1 (spD K F__law_draw) := hasg_of T.u__law_draw T.m__law_draw (g__law_draw T) fun _ _ _ _ _ _ us hl => match us, hl with | [_, _], _ => rfl
theorem g__law_same (T : Txt P K mg base) : ∀ n : Nat, FnG P w K mg base CX0 (n + 0) T.a__law_same T.d__law_same p__law_same (spD K (F__law_same n))
  | 0 => fnG_none fun ws μ R => no__law_same
  | n + 1 =>
    (fnG_ok T.u__law_same sc__law_same (fun ws μ R h => len__law_same h) (fun cdv A outer s H E hr hgd => ⟨t__law_same K n, dv__law_same (n := n) (hr := hr) (hgd := hgd) (h__law_same := hasg_of T.u__law_same T.m__law_same (g__law_same T n) fun _ _ _ _ _ _ us hl => match us, hl with | [_, _], _ => rfl) (n_all := T.n_all) (n_bool := T.n_bool) (n_int := T.n_int) (n_isinstance := T.n_isinstance) (n_len := T.n_len) (n_list := T.n_list) (n_range := T.n_range) (n_str := T.n_str) (n_tuple := T.n_tuple), rd__law_same n⟩) : FnG P w K mg base CX0 (n + 0 + 1) T.a__law_same T.d__law_same p__law_same (spD K (F__law_same (n + 1)))).lv (by omega)
theorem h__law_same (T : Txt P K mg base) (n : Nat) : HasG P w K mg base CX0 "_law_same" p__law_same (n + 0) (spD K (F__law_same n)) := hasg_of T.u__law_same T.m__law_same (g__law_same T n) fun _ _ _ _ _ _ us hl => match us, hl with | [_, _], _ => rfl
theorem g__law_integer (T : Txt P K mg base) : FnG P w K mg base CX0 1 T.a__law_integer T.d__law_integer p__law_integer (spD K F__law_integer) :=
  fnG_ok T.u__law_integer sc__law_integer (fun ws μ R h => len__law_integer h) (fun cdv A outer s H E hr hgd => ⟨t__law_integer K, dv__law_integer (hr := hr) (hgd := hgd) (n_bool := T.n_bool) (n_int := T.n_int) (n_isinstance := T.n_isinstance), rd__law_integer⟩)
theorem h__law_integer (T : Txt P K mg base) : HasG P w K mg base CX0 "_law_integer" p__law_integer 1 (spD K F__law_integer) := hasg_of T.u__law_integer T.m__law_integer (g__law_integer T) fun _ _ _ _ _ _ us hl => match us, hl with | [_], _ => rfl
theorem g__law_height (T : Txt P K mg base) : FnG P w K mg base CX0 2 T.a__law_height T.d__law_height p__law_height (spD K F__law_height) :=
  fnG_ok T.u__law_height sc__law_height (fun ws μ R h => len__law_height h) (fun cdv A outer s H E hr hgd => ⟨t__law_height K, dv__law_height (hr := hr) (hgd := hgd) (h__law_draw := h__law_draw T), rd__law_height⟩)
theorem h__law_height (T : Txt P K mg base) : HasG P w K mg base CX0 "_law_height" p__law_height 2 (spD K F__law_height) := hasg_of T.u__law_height T.m__law_height (g__law_height T) fun _ _ _ _ _ _ us hl => match us, hl with | [_], _ => rfl
theorem g__law_counted (T : Txt P K mg base) : FnG P w K mg base CX0 1 T.a__law_counted T.d__law_counted p__law_counted (spD K F__law_counted) :=
  fnG_ok T.u__law_counted sc__law_counted (fun ws μ R h => len__law_counted h) (fun cdv A outer s H E hr hgd => ⟨t__law_counted K, dv__law_counted (hr := hr) (hgd := hgd), rd__law_counted⟩)
theorem h__law_counted (T : Txt P K mg base) : HasG P w K mg base CX0 "_law_counted" p__law_counted 1 (spD K F__law_counted) := hasg_of T.u__law_counted T.m__law_counted (g__law_counted T) fun _ _ _ _ _ _ us hl => match us, hl with | [_, _], _ => rfl
theorem g__law_before (T : Txt P K mg base) : FnG P w K mg base CX0 2 T.a__law_before T.d__law_before p__law_before (spD K F__law_before) :=
  fnG_ok T.u__law_before sc__law_before (fun ws μ R h => len__law_before h) (fun cdv A outer s H E hr hgd => ⟨t__law_before K, dv__law_before (hr := hr) (hgd := hgd) (h__law_counted := h__law_counted T) (n_sum := T.n_sum), rd__law_before⟩)
theorem h__law_before (T : Txt P K mg base) : HasG P w K mg base CX0 "_law_before" p__law_before 2 (spD K F__law_before) := hasg_of T.u__law_before T.m__law_before (g__law_before T) fun _ _ _ _ _ _ us hl => match us, hl with | [_, _, _], _ => rfl
theorem g__law_covering (T : Txt P K mg base) : FnG P w K mg base CX0 3 T.a__law_covering T.d__law_covering p__law_covering (spD K F__law_covering) :=
  fnG_ok T.u__law_covering sc__law_covering (fun ws μ R h => len__law_covering h) (fun cdv A outer s H E hr hgd => ⟨t__law_covering K, dv__law_covering (hr := hr) (hgd := hgd) (h__law_before := h__law_before T) (h__law_counted := h__law_counted T) (n_len := T.n_len) (n_range := T.n_range), rd__law_covering⟩)
theorem h__law_covering (T : Txt P K mg base) : HasG P w K mg base CX0 "_law_covering" p__law_covering 3 (spD K F__law_covering) := hasg_of T.u__law_covering T.m__law_covering (g__law_covering T) fun _ _ _ _ _ _ us hl => match us, hl with | [_, _, _], _ => rfl
theorem g__law_tree_told (T : Txt P K mg base) : ∀ n : Nat, FnG P w K mg base CX0 (n + 1) T.a__law_tree_told T.d__law_tree_told p__law_tree_told (spD K (F__law_tree_told n))
  | 0 => fnG_none fun ws μ R => no__law_tree_told
  | n + 1 =>
    (fnG_ok T.u__law_tree_told sc__law_tree_told (fun ws μ R h => len__law_tree_told h) (fun cdv A outer s H E hr hgd => ⟨t__law_tree_told K n, dv__law_tree_told (n := n) (hr := hr) (hgd := hgd) (h__law_counted := h__law_counted T) (h__law_integer := h__law_integer T) (h__law_tree_told := hasg_of T.u__law_tree_told T.m__law_tree_told (g__law_tree_told T n) fun _ _ _ _ _ _ us hl => match us, hl with | [_, _], _ => rfl) (n_abs := T.n_abs) (n_isinstance := T.n_isinstance) (n_len := T.n_len) (n_max := T.n_max) (n_tuple := T.n_tuple), rd__law_tree_told n⟩) : FnG P w K mg base CX0 (n + 1 + 1) T.a__law_tree_told T.d__law_tree_told p__law_tree_told (spD K (F__law_tree_told (n + 1)))).lv (by omega)
theorem h__law_tree_told (T : Txt P K mg base) (n : Nat) : HasG P w K mg base CX0 "_law_tree_told" p__law_tree_told (n + 1) (spD K (F__law_tree_told n)) := hasg_of T.u__law_tree_told T.m__law_tree_told (g__law_tree_told T n) fun _ _ _ _ _ _ us hl => match us, hl with | [_, _], _ => rfl
theorem g__law_tree_rows (T : Txt P K mg base) : ∀ n : Nat, FnG P w K mg base CX0 (n + 0) T.a__law_tree_rows T.d__law_tree_rows p__law_tree_rows (spD K (F__law_tree_rows n))
  | 0 => fnG_none fun ws μ R => no__law_tree_rows
  | n + 1 =>
    (fnG_ok T.u__law_tree_rows sc__law_tree_rows (fun ws μ R h => len__law_tree_rows h) (fun cdv A outer s H E hr hgd => ⟨t__law_tree_rows K n, dv__law_tree_rows (n := n) (hr := hr) (hgd := hgd) (h__law_tree_rows := hasg_of T.u__law_tree_rows T.m__law_tree_rows (g__law_tree_rows T n) fun _ _ _ _ _ _ us hl => match us, hl with | [_], _ => rfl), rd__law_tree_rows n⟩) : FnG P w K mg base CX0 (n + 0 + 1) T.a__law_tree_rows T.d__law_tree_rows p__law_tree_rows (spD K (F__law_tree_rows (n + 1)))).lv (by omega)
theorem h__law_tree_rows (T : Txt P K mg base) (n : Nat) : HasG P w K mg base CX0 "_law_tree_rows" p__law_tree_rows (n + 0) (spD K (F__law_tree_rows n)) := hasg_of T.u__law_tree_rows T.m__law_tree_rows (g__law_tree_rows T n) fun _ _ _ _ _ _ us hl => match us, hl with | [_], _ => rfl
theorem g_Heights_total (T : Txt P K mg base) : FnG P w K mg base CX0 2 T.a_Heights_total T.d_Heights_total p_Heights_total (spD K F_Heights_total) :=
  fnG_ok T.u_Heights_total sc_Heights_total (fun ws μ R h => len_Heights_total h) (fun cdv A outer s H E hr hgd => ⟨t_Heights_total K, dv_Heights_total (hr := hr) (hgd := hgd) (h_total_of := h_total_of T), (rd_Heights_total T.CF)⟩)
theorem h_Heights_total (T : Txt P K mg base) : HasM P w K mg base CX0 "Heights" "total" p_Heights_total 2 (spD K F_Heights_total) := hasm_of T.u_Heights_total T.kc_Heights T.lc_Heights T.i_Heights_total (g_Heights_total T) fun _ _ _ _ _ _ us hl => match us, hl with | [_], _ => rfl
theorem g_Heights_row_at (T : Txt P K mg base) : FnG P w K mg base CX0 62 T.a_Heights_row_at T.d_Heights_row_at p_Heights_row_at (spD K F_Heights_row_at) :=
  fnG_ok T.u_Heights_row_at sc_Heights_row_at (fun ws μ R h => len_Heights_row_at h) (fun cdv A outer s H E hr hgd => ⟨t_Heights_row_at K, dv_Heights_row_at (hr := hr) (hgd := hgd) (h_Heights_total := h_Heights_total T) (h_covering := h_covering T 60), (rd_Heights_row_at T.CF)⟩)
theorem h_Heights_row_at (T : Txt P K mg base) : HasM P w K mg base CX0 "Heights" "row_at" p_Heights_row_at 62 (spD K F_Heights_row_at) := hasm_of T.u_Heights_row_at T.kc_Heights T.lc_Heights T.i_Heights_row_at (g_Heights_row_at T) fun _ _ _ _ _ _ us hl => match us, hl with | [_, _], _ => rfl
theorem g_Heights_need_index (T : Txt P K mg base) : FnG P w K mg base (L2.CX P w) 1 T.a_Heights_need_index T.d_Heights_need_index p_Heights_need_index (spX K F_Heights_need_index) :=
  fnG_okX T.u_Heights_need_index sc_Heights_need_index (fun ws μ R S h => len_Heights_need_index h) (fun cdv A outer s H E hr hgd => ⟨t_Heights_need_index K fun c d _ H => E c d H, dv_Heights_need_index (hr := hr) (hgd := hgd) (e_InvalidIndex := T.e_InvalidIndex), (rd_Heights_need_index E)⟩)
theorem h_Heights_need_index (T : Txt P K mg base) : HasM P w K mg base (L2.CX P w) "Heights" "need_index" p_Heights_need_index 1 (spX K F_Heights_need_index) := hasm_of T.u_Heights_need_index T.kc_Heights T.lc_Heights T.i_Heights_need_index (g_Heights_need_index T) fun _ _ _ _ _ _ us hl => match us, hl with | [_, _, _], _ => rfl
theorem g_Heights_height (T : Txt P K mg base) : FnG P w K mg base (L2.CX P w) 62 T.a_Heights_height T.d_Heights_height p_Heights_height (spX K F_Heights_height) :=
  fnG_okX T.u_Heights_height sc_Heights_height (fun ws μ R S h => len_Heights_height h) (fun cdv A outer s H E hr hgd => ⟨t_Heights_height K fun c d _ H => E c d H, dv_Heights_height (hr := hr) (hgd := hgd) (h_Heights_need_index := h_Heights_need_index T) (h_height_at := h_height_at T 60), ((rd_Heights_height T.CF) E)⟩)
theorem h_Heights_height (T : Txt P K mg base) : HasM P w K mg base (L2.CX P w) "Heights" "height" p_Heights_height 62 (spX K F_Heights_height) := hasm_of T.u_Heights_height T.kc_Heights T.lc_Heights T.i_Heights_height (g_Heights_height T) fun _ _ _ _ _ _ us hl => match us, hl with | [_, _], _ => rfl
theorem g_Heights_offset (T : Txt P K mg base) : FnG P w K mg base (L2.CX P w) 62 T.a_Heights_offset T.d_Heights_offset p_Heights_offset (spX K F_Heights_offset) :=
  fnG_okX T.u_Heights_offset sc_Heights_offset (fun ws μ R S h => len_Heights_offset h) (fun cdv A outer s H E hr hgd => ⟨t_Heights_offset K fun c d _ H => E c d H, dv_Heights_offset (hr := hr) (hgd := hgd) (h_Heights_need_index := h_Heights_need_index T) (h_offset_of := h_offset_of T 60), ((rd_Heights_offset T.CF) E)⟩)
theorem h_Heights_offset (T : Txt P K mg base) : HasM P w K mg base (L2.CX P w) "Heights" "offset" p_Heights_offset 62 (spX K F_Heights_offset) := hasm_of T.u_Heights_offset T.kc_Heights T.lc_Heights T.i_Heights_offset (g_Heights_offset T) fun _ _ _ _ _ _ us hl => match us, hl with | [_, _], _ => rfl
theorem g_Heights_known (T : Txt P K mg base) : FnG P w K mg base CX0 1 T.a_Heights_known T.d_Heights_known p_Heights_known (spD K F_Heights_known) :=
  fnG_ok T.u_Heights_known sc_Heights_known (fun ws μ R h => len_Heights_known h) (fun cdv A outer s H E hr hgd => ⟨t_Heights_known K, dv_Heights_known (hr := hr) (hgd := hgd), (rd_Heights_known T.CF)⟩)
theorem h_Heights_known (T : Txt P K mg base) : HasM P w K mg base CX0 "Heights" "known" p_Heights_known 1 (spD K F_Heights_known) := hasm_of T.u_Heights_known T.kc_Heights T.lc_Heights T.i_Heights_known (g_Heights_known T) fun _ _ _ _ _ _ us hl => match us, hl with | [_], _ => rfl
theorem g_Heights_all_heights (T : Txt P K mg base) : FnG P w K mg base CX0 61 T.a_Heights_all_heights T.d_Heights_all_heights p_Heights_all_heights (spD K F_Heights_all_heights) :=
  fnG_ok T.u_Heights_all_heights sc_Heights_all_heights (fun ws μ R h => len_Heights_all_heights h) (fun cdv A outer s H E hr hgd => ⟨t_Heights_all_heights K, dv_Heights_all_heights (hr := hr) (hgd := hgd) (h_heights_of := h_heights_of T 60), (rd_Heights_all_heights T.CF)⟩)
theorem h_Heights_all_heights (T : Txt P K mg base) : HasM P w K mg base CX0 "Heights" "all_heights" p_Heights_all_heights 61 (spD K F_Heights_all_heights) := hasm_of T.u_Heights_all_heights T.kc_Heights T.lc_Heights T.i_Heights_all_heights (g_Heights_all_heights T) fun _ _ _ _ _ _ us hl => match us, hl with | [_], _ => rfl
theorem g_Heights___len__ (T : Txt P K mg base) : FnG P w K mg base CX0 62 T.a_Heights___len__ T.d_Heights___len__ p_Heights___len__ (spD K F_Heights___len__) :=
  fnG_ok T.u_Heights___len__ sc_Heights___len__ (fun ws μ R h => len_Heights___len__ h) (fun cdv A outer s H E hr hgd => ⟨t_Heights___len__ K, dv_Heights___len__ (hr := hr) (hgd := hgd) (h_Heights_all_heights := h_Heights_all_heights T) (n_len := T.n_len), rd_Heights___len__⟩)
theorem h_Heights___len__ (T : Txt P K mg base) : HasM P w K mg base CX0 "Heights" "__len__" p_Heights___len__ 62 (spD K F_Heights___len__) := hasm_of T.u_Heights___len__ T.kc_Heights T.lc_Heights T.i_Heights___len__ (g_Heights___len__ T) fun _ _ _ _ _ _ us hl => match us, hl with | [_], _ => rfl
theorem g__law_looks_right (T : Txt P K mg base) : FnG P w K mg base CX0 64 T.a__law_looks_right T.d__law_looks_right p__law_looks_right (spD K F__law_looks_right) :=
  fnG_ok T.u__law_looks_right sc__law_looks_right (fun ws μ R h => len__law_looks_right h) (fun cdv A outer s H E hr hgd => ⟨t__law_looks_right K, dv__law_looks_right (hr := hr) (hgd := hgd) (h_Heights___len__ := h_Heights___len__ T) (h_Heights_height := h_Heights_height T) (h_Heights_known := h_Heights_known T) (h_Heights_offset := h_Heights_offset T) (h_Heights_row_at := h_Heights_row_at T) (h_Heights_total := h_Heights_total T) (h__law_before := h__law_before T) (h__law_covering := h__law_covering T) (h__law_draw := h__law_draw T) (h__law_same := h__law_same T 60) (n_len := T.n_len) (n_range := T.n_range), rd__law_looks_right⟩)
theorem h__law_looks_right (T : Txt P K mg base) : HasG P w K mg base CX0 "_law_looks_right" p__law_looks_right 64 (spD K F__law_looks_right) := hasg_of T.u__law_looks_right T.m__law_looks_right (g__law_looks_right T) fun _ _ _ _ _ _ us hl => match us, hl with | [_, _, _, _], _ => rfl
theorem g_Heights_tree (T : Txt P K mg base) : FnG P w K mg base CX0 61 T.a_Heights_tree T.d_Heights_tree p_Heights_tree (spD K F_Heights_tree) :=
  fnG_ok T.u_Heights_tree sc_Heights_tree (fun ws μ R h => len_Heights_tree h) (fun cdv A outer s H E hr hgd => ⟨t_Heights_tree K, dv_Heights_tree (hr := hr) (hgd := hgd) (h_plain_tree := h_plain_tree T 60), (rd_Heights_tree T.CF)⟩)
theorem h_Heights_tree (T : Txt P K mg base) : HasM P w K mg base CX0 "Heights" "tree" p_Heights_tree 61 (spD K F_Heights_tree) := hasm_of T.u_Heights_tree T.kc_Heights T.lc_Heights T.i_Heights_tree (g_Heights_tree T) fun _ _ _ _ _ _ us hl => match us, hl with | [_], _ => rfl
theorem g_Heights_insert (T : Txt P K mg base) : FnG P w K mg base (L2.CX P w) 64 T.a_Heights_insert T.d_Heights_insert p_Heights_insert (spX K F_Heights_insert) :=
  fnG_okX T.u_Heights_insert sc_Heights_insert (fun ws μ R S h => len_Heights_insert h) (fun cdv A outer s H E hr hgd => ⟨t_Heights_insert K fun c d _ H => E c d H, dv_Heights_insert (hr := hr) (hgd := hgd) (h_Heights_need_index := h_Heights_need_index T) (h_need_height := h_need_height T) (h_with_row := h_with_row T 60) (n_int := T.n_int), ((rd_Heights_insert T.CF) E)⟩)
theorem h_Heights_insert (T : Txt P K mg base) : HasM P w K mg base (L2.CX P w) "Heights" "insert" p_Heights_insert 64 (spX K F_Heights_insert) := hasm_of T.u_Heights_insert T.kc_Heights T.lc_Heights T.i_Heights_insert (g_Heights_insert T) fun _ _ _ _ _ _ us hl => match us, hl with | [_, _, _], _ => rfl
theorem g_Heights_learn (T : Txt P K mg base) : FnG P w K mg base (L2.CX P w) 63 T.a_Heights_learn T.d_Heights_learn p_Heights_learn (spX K F_Heights_learn) :=
  fnG_okX T.u_Heights_learn sc_Heights_learn (fun ws μ R S h => len_Heights_learn h) (fun cdv A outer s H E hr hgd => ⟨t_Heights_learn K fun c d _ H => E c d H, dv_Heights_learn (hr := hr) (hgd := hgd) (h_Heights_height := h_Heights_height T) (h_Heights_need_index := h_Heights_need_index T) (h_need_height := h_need_height T) (h_with_height := h_with_height T 60) (n_int := T.n_int), ((rd_Heights_learn T.CF) E)⟩)
theorem h_Heights_learn (T : Txt P K mg base) : HasM P w K mg base (L2.CX P w) "Heights" "learn" p_Heights_learn 63 (spX K F_Heights_learn) := hasm_of T.u_Heights_learn T.kc_Heights T.lc_Heights T.i_Heights_learn (g_Heights_learn T) fun _ _ _ _ _ _ us hl => match us, hl with | [_, _, _], _ => rfl
theorem hk_Heights_learn_0 (T : Txt P K mg base) : HasMK P w K mg base (L2.CX P w) "Heights" "learn" p_Heights_learn 63 (spX K F_Heights_learn) 0 ["height", "index"] [0, 2, 1] := hasmk_of T.u_Heights_learn T.kc_Heights T.lc_Heights T.i_Heights_learn (g_Heights_learn T) 0 ["height", "index"] [0, 2, 1] fun _ _ _ _ _ _ us ws h1 h2 => match us, ws, h1, h2 with | [_], [_, _], _, _ => rfl
theorem g_Heights_remove (T : Txt P K mg base) : FnG P w K mg base (L2.CX P w) 122 T.a_Heights_remove T.d_Heights_remove p_Heights_remove (spX K F_Heights_remove) :=
  fnG_okX T.u_Heights_remove sc_Heights_remove (fun ws μ R S h => len_Heights_remove h) (fun cdv A outer s H E hr hgd => ⟨t_Heights_remove K fun c d _ H => E c d H, dv_Heights_remove (hr := hr) (hgd := hgd) (h_Heights_height := h_Heights_height T) (h_Heights_need_index := h_Heights_need_index T) (h_without_row := h_without_row T 60) (n_int := T.n_int), ((rd_Heights_remove T.CF) E)⟩)
theorem h_Heights_remove (T : Txt P K mg base) : HasM P w K mg base (L2.CX P w) "Heights" "remove" p_Heights_remove 122 (spX K F_Heights_remove) := hasm_of T.u_Heights_remove T.kc_Heights T.lc_Heights T.i_Heights_remove (g_Heights_remove T) fun _ _ _ _ _ _ us hl => match us, hl with | [_, _], _ => rfl
theorem g_Heights___init__ (T : Txt P K mg base) : FnG P w K mg base (L2.CX P w) 2 T.a_Heights___init__ T.d_Heights___init__ p_Heights___init__ (spX K F_Heights___init__) :=
  fnG_okX T.u_Heights___init__ sc_Heights___init__ (fun ws μ R S h => len_Heights___init__ h) (fun cdv A outer s H E hr hgd => ⟨t_Heights___init__ K fun c d _ H => E c d H, dv_Heights___init__ (hr := hr) (hgd := hgd) (h_need_guess := h_need_guess T), ((rd_Heights___init__ T.CF) E)⟩)
theorem h_Heights___init__ (T : Txt P K mg base) : HasI P w K mg base (L2.CX P w) "Heights" p_Heights___init__ 2 (spX K F_Heights___init__) := hasi_of T.u_Heights___init__ T.kc_Heights T.gc_Heights T.i_Heights___init__ (g_Heights___init__ T) fun _ _ _ _ _ _ us hl => match us, hl with | [_, _], _ => rfl
theorem hk_Heights___init___0 (T : Txt P K mg base) : HasIK P w K mg base (L2.CX P w) "Heights" p_Heights___init__ 2 (spX K F_Heights___init__) 0 ["guess"] [0, 1] := hasik_of T.u_Heights___init__ T.kc_Heights T.gc_Heights T.i_Heights___init__ (g_Heights___init__ T) 0 ["guess"] [0, 1] fun _ _ _ _ _ _ us ws h1 h2 => match us, ws, h1, h2 with | [_], [_], _, _ => rfl
theorem g__law_right (T : Txt P K mg base) : FnG P w K mg base CX0 123 T.a__law_right T.d__law_right p__law_right (spD K F__law_right) :=
  fnG_ok T.u__law_right sc__law_right (fun ws μ R h => len__law_right h) (fun cdv A outer s H E hr hgd => ⟨t__law_right K, dv__law_right (hr := hr) (hgd := hgd) (h_Heights___init__ := h_Heights___init__ T) (hk_Heights___init___0 := hk_Heights___init___0 T) (h_Heights_insert := h_Heights_insert T) (h_Heights_learn := h_Heights_learn T) (hk_Heights_learn_0 := hk_Heights_learn_0 T) (h_Heights_remove := h_Heights_remove T) (h_Heights_tree := h_Heights_tree T) (h__law_draw := h__law_draw T) (h__law_height := h__law_height T) (h__law_looks_right := h__law_looks_right T) (h__law_same := h__law_same T 60) (h__law_tree_rows := h__law_tree_rows T 60) (h__law_tree_told := h__law_tree_told T 60) (h_heights_in := h_heights_in T) (h_tree_right := h_tree_right T) (n_len := T.n_len) (n_range := T.n_range), rd__law_right⟩)
theorem h__law_right (T : Txt P K mg base) : HasG P w K mg base CX0 "_law_right" p__law_right 123 (spD K F__law_right) := hasg_of T.u__law_right T.m__law_right (g__law_right T) fun _ _ _ _ _ _ us hl => match us, hl with | [_], _ => rfl
theorem g_law (T : Txt P K mg base) : FnG P w K mg base CX0 124 T.a_law T.d_law p_law (spD K F_law) :=
  fnG_ok T.u_law sc_law (fun ws μ R h => len_law h) (fun cdv A outer s H E hr hgd => ⟨t_law K, dv_law (hr := hr) (hgd := hgd) (h__law_deck := h__law_deck T) (h__law_right := h__law_right T) (n_len := T.n_len) (n_max := T.n_max) (n_min := T.n_min) (n_range := T.n_range), rd_law⟩)
theorem h_law (T : Txt P K mg base) : HasG P w K mg base CX0 "law" p_law 124 (spD K F_law) := hasg_of T.u_law T.m_law (g_law T) fun _ _ _ _ _ _ us hl => match us, hl with | [_], _ => rfl
end
theorem vrs_ints {K : PySem.W.Frag} {H : Hp} {M : List Addr} : ∀ ns : List Int, VRs K H M (ns.map V.int) (wInts ns)
  | [] => .nil
  | n :: ns => .cons (.d (.int n)) (vrs_ints ns)
theorem law_start {K : PySem.W.Frag} {H : Hp} {a : Addr} {ns : List Int} {E : XK} (hl : ns.length ≤ 63) (hT : TabK K H) (hS : SqL K H a (ns.map V.int)) : spD K F_law [.ref a] H (fun v _ => v = .bl true) E := by
  refine ⟨fun _ => False, [], [], [.f (wInts ns)], fun w _ => w = .d (.bool true), ⟨rfl, List.nodup_nil, (fun a m => absurd m (List.not_mem_nil)), (fun a m => absurd m (List.not_mem_nil)), (fun a m => False.elim m), hT, (fun a o m => absurd m (by simp)), (fun k a c h _ => absurd h (by simp))⟩, ?_, ⟨ns, rfl, hl, rfl⟩, fun M' H' v w μ' _ _ r hR => ?_⟩
  · have hS' : SqL K (vw (fun _ => False) [] [] H) a (ns.map V.int) := by
      have v : ∀ o, H a = some o → (∀ ps, o ≠ .tbl ps) → vw (fun _ => False) [] [] H a = some o := fun o h n => vw_of (by rintro (z | ⟨k, c, z, _⟩); exact z; simp at z) h n
      rcases hS with (h | ⟨o, h⟩) | h
      · exact .inl (.inl (v _ h fun _ z => by cases z))
      · exact .inl (.inr ⟨o, v _ h fun _ z => by cases z⟩)
      · exact .inr h
    exact .cons (.f hS' (vrs_ints ns)) .nil
  · subst hR
    exact vr_bool r
def qW (n : Nat) : Pos := match n with
  | 0 => ⟨5, 8, 5, 13⟩
  | 1 => ⟨5, 8, 5, 15⟩
  | 2 => ⟨5, 8, 5, 24⟩
  | 3 => ⟨5, 25, 5, 36⟩
  | 4 => ⟨5, 8, 5, 37⟩
  | 5 => ⟨5, 8, 5, 37⟩
  | 6 => ⟨6, 8, 6, 12⟩
  | 7 => ⟨6, 8, 6, 18⟩
  | 8 => ⟨6, 21, 6, 26⟩
  | _ => ⟨6, 8, 6, 26⟩
theorem hev_W (wd : Str) (i : Nat) (env : Env) : ∃ pl : Sem Bool, eval (.Call (.Attribute (.Call (.Name "super" (qW 0)) [] [] (qW 1)) "__init__" (qW 2)) [.Constant (.str wd) i (qW 3)] [] (qW 4)) env = (do
      let ov ← attributeBase (.Call (.Name "super" (qW 0)) [] [] (qW 1)) "__init__" env (eval (.Call (.Name "super" (qW 0)) [] [] (qW 1)) env)
      standAt (qW 2).atName
      let (f, first) ← holding [ov] (getMethod ov "__init__" pl)
      callWith (qW 4) f first (backTo (qW 4) (starEach [.Constant (.str wd) i (qW 3)] env)) []) := ⟨_, rfl⟩
theorem cla_eq {K : PySem.W.Frag} {x : Str} {C a : Addr} (e : PySem.W.nsIn K mainGlobals x = some (some (.ref C))) (h : clA K x a) : a = C := by
  have z := h.symm.trans e
  simpa using z
theorem clv_eq {K : PySem.W.Frag} {x : Str} {C : Addr} {c : Value} (e : PySem.W.nsIn K mainGlobals x = some (some (.ref C))) (h : ClV K x c) : c = .ref C := by
  rcases h with h | h
  · have z := h.symm.trans e
    simpa using z
  · have z := h.1.symm.trans e
    simp at z
theorem sub_is {K : PySem.W.Frag} {x y : Str} {C D : Addr} {b : Bool} (ex : PySem.W.nsIn K mainGlobals x = some (some (.ref C))) (ey : PySem.W.nsIn K mainGlobals y = some (some (.ref D))) (h1 : PySem.W.subIn K (.ref D) (.type "BaseException") = some true) (h2 : PySem.W.hasDictIn K D = true) (h3 : PySem.W.typeIn K (.ref D) = some (.type "type")) (h4 : PySem.W.subIn K (.ref C) (.ref D) = some b) : SubIs K x y b := fun a c ha hc => by
  rw [cla_eq ex ha, clv_eq ey hc]
  exact PySem.W.exm_ref h1 h2 h3 h4
theorem is_of {K : PySem.W.Frag} {x y : Str} {C D : Addr} {b : Bool} (ex : PySem.W.nsIn K mainGlobals x = some (some (.ref C))) (ey : PySem.W.nsIn K mainGlobals y = some (some (.ref D))) (h2 : PySem.W.hasDictIn K D = true) (h3 : PySem.W.typeIn K (.ref D) = some (.type "type")) (h4 : PySem.W.subIn K (.ref C) (.ref D) = some b) (hb : C = D → b = true) : IsOf K x y b := fun a c ha hc => by
  rw [cla_eq ex ha, cla_eq ey hc]
  exact kit_ref h2 h3 h4 hb
theorem all_mk {P : Program} {w : World} {K : PySem.W.Frag} {h : Heap} {mg : Str → Option Value} {fa : Addr} (X : K.In h) (G : h.Ns mainGlobals mg) (hfa : mg "law" = some (.ref fa))
    {fI Db cda cc : Addr} {ocI kVI dcI pmI ctI cclI clI : Value} {odI anI cddI cldI : Option Addr} {oslI ccsI cslI : Array (Option Value)} {vsI : Array Value} {fileI : Str} {tfI : Tok} {wdI : Str} {ixI : Nat} {cdD : ClassData}
    {C0 : Addr} {nm0 q0 : Str} {N0 : Addr} {bs0 : List Value} {sn0 : List Str} {sb0 : List Value} {ab0 : Bool} {cl0 : Option Bool} {dd0 : Option Addr} {m00 m10 m20 m30 m50 : Option Value}
    {C1 : Addr} {nm1 q1 : Str} {N1 : Addr} {bs1 : List Value} {sn1 : List Str} {sb1 : List Value} {ab1 : Bool} {cl1 : Option Bool} {dd1 : Option Addr} {m01 m11 m21 m31 m51 : Option Value}
    {oC0 : Addr}
    {od0 an0 : Option Addr} {sl0 : Array (Option Value)} {f0 : Addr} {oc0 kV0 dc0 pm0 cd0 ct0 : Value}
    {od1 an1 : Option Addr} {sl1 : Array (Option Value)} {f1 : Addr} {oc1 kV1 dc1 pm1 cd1 ct1 : Value}
    {od2 an2 : Option Addr} {sl2 : Array (Option Value)} {f2 : Addr} {oc2 kV2 dc2 pm2 cd2 ct2 : Value}
    {od3 an3 : Option Addr} {sl3 : Array (Option Value)} {f3 : Addr} {oc3 kV3 dc3 pm3 cd3 ct3 : Value}
    {od4 an4 : Option Addr} {sl4 : Array (Option Value)} {f4 : Addr} {oc4 kV4 dc4 pm4 cd4 ct4 : Value}
    {od5 an5 : Option Addr} {sl5 : Array (Option Value)} {f5 : Addr} {oc5 kV5 dc5 pm5 cd5 ct5 : Value}
    {od6 an6 : Option Addr} {sl6 : Array (Option Value)} {f6 : Addr} {oc6 kV6 dc6 pm6 cd6 ct6 : Value}
    {od7 an7 : Option Addr} {sl7 : Array (Option Value)} {f7 : Addr} {oc7 kV7 dc7 pm7 cd7 ct7 : Value}
    {od8 an8 : Option Addr} {sl8 : Array (Option Value)} {f8 : Addr} {oc8 kV8 dc8 pm8 cd8 ct8 : Value}
    {od9 an9 : Option Addr} {sl9 : Array (Option Value)} {f9 : Addr} {oc9 kV9 dc9 pm9 cd9 ct9 : Value}
    {od10 an10 : Option Addr} {sl10 : Array (Option Value)} {f10 : Addr} {oc10 kV10 dc10 pm10 cd10 ct10 : Value}
    {od11 an11 : Option Addr} {sl11 : Array (Option Value)} {f11 : Addr} {oc11 kV11 dc11 pm11 cd11 ct11 : Value}
    {od12 an12 : Option Addr} {sl12 : Array (Option Value)} {f12 : Addr} {oc12 kV12 dc12 pm12 cd12 ct12 : Value}
    {od13 an13 : Option Addr} {sl13 : Array (Option Value)} {f13 : Addr} {oc13 kV13 dc13 pm13 cd13 ct13 : Value}
    {od14 an14 : Option Addr} {sl14 : Array (Option Value)} {f14 : Addr} {oc14 kV14 dc14 pm14 cd14 ct14 : Value}
    {od15 an15 : Option Addr} {sl15 : Array (Option Value)} {f15 : Addr} {oc15 kV15 dc15 pm15 cd15 ct15 : Value}
    {od16 an16 : Option Addr} {sl16 : Array (Option Value)} {f16 : Addr} {oc16 kV16 dc16 pm16 cd16 ct16 : Value}
    {od17 an17 : Option Addr} {sl17 : Array (Option Value)} {f17 : Addr} {oc17 kV17 dc17 pm17 cd17 ct17 : Value}
    {od18 an18 : Option Addr} {sl18 : Array (Option Value)} {f18 : Addr} {oc18 kV18 dc18 pm18 cd18 ct18 : Value}
    {od19 an19 : Option Addr} {sl19 : Array (Option Value)} {f19 : Addr} {oc19 kV19 dc19 pm19 cd19 ct19 : Value}
    {od20 an20 : Option Addr} {sl20 : Array (Option Value)} {f20 : Addr} {oc20 kV20 dc20 pm20 cd20 ct20 : Value}
    {od21 an21 : Option Addr} {sl21 : Array (Option Value)} {f21 : Addr} {oc21 kV21 dc21 pm21 cd21 ct21 : Value}
    {od22 an22 : Option Addr} {sl22 : Array (Option Value)} {f22 : Addr} {oc22 kV22 dc22 pm22 cd22 ct22 : Value}
    {od23 an23 : Option Addr} {sl23 : Array (Option Value)} {f23 : Addr} {oc23 kV23 dc23 pm23 cd23 ct23 : Value}
    {od24 an24 : Option Addr} {sl24 : Array (Option Value)} {f24 : Addr} {oc24 kV24 dc24 pm24 cd24 ct24 : Value}
    {od25 an25 : Option Addr} {sl25 : Array (Option Value)} {f25 : Addr} {oc25 kV25 dc25 pm25 cd25 ct25 : Value}
    {od26 an26 : Option Addr} {sl26 : Array (Option Value)} {f26 : Addr} {oc26 kV26 dc26 pm26 cd26 ct26 : Value}
    {od27 an27 : Option Addr} {sl27 : Array (Option Value)} {f27 : Addr} {oc27 kV27 dc27 pm27 cd27 ct27 : Value}
    {od28 an28 : Option Addr} {sl28 : Array (Option Value)} {f28 : Addr} {oc28 kV28 dc28 pm28 cd28 ct28 : Value}
    {od29 an29 : Option Addr} {sl29 : Array (Option Value)} {f29 : Addr} {oc29 kV29 dc29 pm29 cd29 ct29 : Value}
    {od30 an30 : Option Addr} {sl30 : Array (Option Value)} {f30 : Addr} {oc30 kV30 dc30 pm30 cd30 ct30 : Value}
    {od31 an31 : Option Addr} {sl31 : Array (Option Value)} {f31 : Addr} {oc31 kV31 dc31 pm31 cd31 ct31 : Value}
    {od32 an32 : Option Addr} {sl32 : Array (Option Value)} {f32 : Addr} {oc32 kV32 dc32 pm32 cd32 ct32 : Value}
    {od33 an33 : Option Addr} {sl33 : Array (Option Value)} {f33 : Addr} {oc33 kV33 dc33 pm33 cd33 ct33 : Value}
    {od34 an34 : Option Addr} {sl34 : Array (Option Value)} {f34 : Addr} {oc34 kV34 dc34 pm34 cd34 ct34 : Value}
    {od35 an35 : Option Addr} {sl35 : Array (Option Value)} {f35 : Addr} {oc35 kV35 dc35 pm35 cd35 ct35 : Value}
    {od36 an36 : Option Addr} {sl36 : Array (Option Value)} {f36 : Addr} {oc36 kV36 dc36 pm36 cd36 ct36 : Value}
    {od37 an37 : Option Addr} {sl37 : Array (Option Value)} {f37 : Addr} {oc37 kV37 dc37 pm37 cd37 ct37 : Value}
    {od38 an38 : Option Addr} {sl38 : Array (Option Value)} {f38 : Addr} {oc38 kV38 dc38 pm38 cd38 ct38 : Value}
    {od39 an39 : Option Addr} {sl39 : Array (Option Value)} {f39 : Addr} {oc39 kV39 dc39 pm39 cd39 ct39 : Value}
    {od40 an40 : Option Addr} {sl40 : Array (Option Value)} {f40 : Addr} {oc40 kV40 dc40 pm40 cd40 ct40 : Value}
    {od41 an41 : Option Addr} {sl41 : Array (Option Value)} {f41 : Addr} {oc41 kV41 dc41 pm41 cd41 ct41 : Value}
    {od42 an42 : Option Addr} {sl42 : Array (Option Value)} {f42 : Addr} {oc42 kV42 dc42 pm42 cd42 ct42 : Value}
    {od43 an43 : Option Addr} {sl43 : Array (Option Value)} {f43 : Addr} {oc43 kV43 dc43 pm43 cd43 ct43 : Value}
    {od44 an44 : Option Addr} {sl44 : Array (Option Value)} {f44 : Addr} {oc44 kV44 dc44 pm44 cd44 ct44 : Value}
    {od45 an45 : Option Addr} {sl45 : Array (Option Value)} {f45 : Addr} {oc45 kV45 dc45 pm45 cd45 ct45 : Value}
    (aB : PySem.W.nsIn K mainGlobals "WindowError" = some (some (.ref Db)))
    (iB : PySem.W.findIn K (.ref Db) "__init__" = some (some (.ref fI)))
    (lB : K.lookup fI = some ⟨ocI, odI, .func (PySem.W.ksFn "__init__" "WindowError.__init__" (PySem.OwnErr.eA ⟨4, 17, 4, 21⟩ ⟨4, 23, 4, 28⟩) (PySem.OwnErr.eB wdI ixI qW) PySem.OwnErr.eS .none kVI dcI pmI anI (.ref cda) ctI cc), oslI⟩)
    (cB : PySem.W.codeIn K (.ref cda) "WindowError.__init__" = true)
    (dB : K.lookup cda = some ⟨cclI, cddI, .fields vsI, ccsI⟩)
    (vB : vsI[2]? = some (.str fileI tfI))
    (fB : ((P.main.file : Str) == fileI) = true)
    (eB : K.lookup cc = some ⟨clI, cldI, .cell (some (.ref Db)), cslI⟩)
    (gB : PySem.W.clsIn K Db = some cdD)
    (tB : (P.main.scope.names.lookup ("super" : Str)).isSome = false)
    (yB : PySem.W.nsIn K cStatics "thirdparty.any" = some none)
    (zB : PySem.W.typeIn K (.ref fI) = some (.type "function"))
    (jB : PySem.W.specialIn K (.builtin "object.__class__") "__get__" = some (some (.builtin "getset_descriptor.__get__")))
    (kB : PySem.W.takesIn K (.builtin "object.__class__") = some true)
    (uB : PySem.W.nsIn K mainGlobals "super" = some none)
    (x0a : PySem.W.nsIn K mainGlobals "InvalidIndex" = some (some (.ref C0)))
    (x0l : K.lookup C0 = some (PySem.excClassObj nm0 q0 C0 N0 bs0 [.ref Db, .type "ValueError", .type "Exception", .type "BaseException", .type "object"] true sn0 sb0 ab0 cl0 dd0 m00 m10 m20 m30 m50 "ValueError.__new__"))
    (x0s : PySem.W.findIn K (.ref C0) "__setattr__" = some (some (.builtin "object.__setattr__")))
    (x0g : PySem.W.findIn K (.ref C0) "__getattribute__" = some (some (.builtin "BaseException.__getattribute__")))
    (x0h : PySem.W.findIn K (.ref C0) "__getattr__" = some none)
    (x0v : PySem.W.findIn K (.ref C0) "value" = some none)
    (x0i : PySem.W.findIn K (.ref C0) "__init__" = some (some (.ref fI)))
    (x0e : PySem.W.subIn K (.ref C0) (.type "BaseException") = some true)
    (x0t : PySem.W.typeIn K (.ref C0) = some (.type "type"))
    (x0k : PySem.W.keepIn K (.ref C0) = true)
    (x0d : PySem.W.hasDictIn K C0 = true)
    (x0b : PySem.W.mroIn K C0 (.ref Db) = some true)
    (x0u : PySem.W.ks_superIn K C0 Db "__init__" = some (some (.builtin "ValueError.__init__")))
    (x0w : PySem.W.subIn K (.ref C0) (.type "ValueError") = some true)
    (x0m : PySem.W.findIn K (.ref C0) "__class__" = some (some (.builtin "object.__class__")))
    (x0o : PySem.W.mroIn K C0 (.type "object") = some true)
    (x1a : PySem.W.nsIn K mainGlobals "InvalidNumber" = some (some (.ref C1)))
    (x1l : K.lookup C1 = some (PySem.excClassObj nm1 q1 C1 N1 bs1 [.ref Db, .type "ValueError", .type "Exception", .type "BaseException", .type "object"] true sn1 sb1 ab1 cl1 dd1 m01 m11 m21 m31 m51 "ValueError.__new__"))
    (x1s : PySem.W.findIn K (.ref C1) "__setattr__" = some (some (.builtin "object.__setattr__")))
    (x1g : PySem.W.findIn K (.ref C1) "__getattribute__" = some (some (.builtin "BaseException.__getattribute__")))
    (x1h : PySem.W.findIn K (.ref C1) "__getattr__" = some none)
    (x1v : PySem.W.findIn K (.ref C1) "value" = some none)
    (x1i : PySem.W.findIn K (.ref C1) "__init__" = some (some (.ref fI)))
    (x1e : PySem.W.subIn K (.ref C1) (.type "BaseException") = some true)
    (x1t : PySem.W.typeIn K (.ref C1) = some (.type "type"))
    (x1k : PySem.W.keepIn K (.ref C1) = true)
    (x1d : PySem.W.hasDictIn K C1 = true)
    (x1b : PySem.W.mroIn K C1 (.ref Db) = some true)
    (x1u : PySem.W.ks_superIn K C1 Db "__init__" = some (some (.builtin "ValueError.__init__")))
    (x1w : PySem.W.subIn K (.ref C1) (.type "ValueError") = some true)
    (x1m : PySem.W.findIn K (.ref C1) "__class__" = some (some (.builtin "object.__class__")))
    (x1o : PySem.W.mroIn K C1 (.type "object") = some true)
    (y0_0 : PySem.W.subIn K (.ref C0) (.ref C0) = some true)
    (y0_1 : PySem.W.subIn K (.ref C0) (.ref C1) = some false)
    (y1_0 : PySem.W.subIn K (.ref C1) (.ref C0) = some false)
    (y1_1 : PySem.W.subIn K (.ref C1) (.ref C1) = some true)
    (oc0a : PySem.W.nsIn K mainGlobals "Heights" = some (some (.ref oC0)))
    (oc0p : PySem.W.plainGet K oC0 Str.empty = true)
    (oc0h : PySem.W.hasDictIn K oC0 = true)
    (oc0o : PySem.W.plainOver K oC0 = true)
    (oc0s : PySem.W.findIn K (.ref oC0) "__setattr__" = some (some (.builtin "object.__setattr__")))
    (oc0t : PySem.W.typeIn K (.ref oC0) = some (.type "type"))
    (oc0u : PySem.W.subIn K (.ref oC0) (.ref oC0) = some true)
    (oc0v : PySem.W.kitOne K (.type "tuple") (.ref oC0) = some false)
    (oc0w : PySem.W.notFirst K oC0 (.type "tuple") = true)
    (oc0x : PySem.W.findIn K (.ref oC0) "__class__" = some (some (.builtin "object.__class__")))
    (oc0y : PySem.W.mroIn K oC0 (.type "object") = some true)
    (oc0m : PySem.W.makesIn K oC0 = true)
    (oc0k : PySem.W.keepIn K (.ref oC0) = true)
    (oc0_guess : PySem.W.findIn K (.ref oC0) "guess" = some none)
    (oc0_known_ones : PySem.W.findIn K (.ref oC0) "known_ones" = some none)
    (oc0_many : PySem.W.findIn K (.ref oC0) "many" = some none)
    (oc0_root : PySem.W.findIn K (.ref oC0) "root" = some none)
    (ojs : PySem.W.specialIn K (.builtin "object.__class__") "__get__" = some (some (.builtin "getset_descriptor.__get__")))
    (ojt : PySem.W.takesIn K (.builtin "object.__class__") = some true)
    (a0 : PySem.W.nsIn K mainGlobals "counted" = some (some (.ref f0))) (l0 : K.lookup f0 = some ⟨oc0, od0, .func (PySem.W.fnOf "counted" "counted" (defArgs s_counted) (defBody s_counted) (defScope s_counted) .none kV0 dc0 pm0 an0 cd0 ct0), sl0⟩) (c0 : PySem.W.codeIn K cd0 "counted" = true) (k0 : PySem.W.keepIn K (.ref f0) = true)
    (a1 : PySem.W.nsIn K mainGlobals "rows_of" = some (some (.ref f1))) (l1 : K.lookup f1 = some ⟨oc1, od1, .func (PySem.W.fnOf "rows_of" "rows_of" (defArgs s_rows_of) (defBody s_rows_of) (defScope s_rows_of) .none kV1 dc1 pm1 an1 cd1 ct1), sl1⟩) (c1 : PySem.W.codeIn K cd1 "rows_of" = true) (k1 : PySem.W.keepIn K (.ref f1) = true)
    (a2 : PySem.W.nsIn K mainGlobals "total_of" = some (some (.ref f2))) (l2 : K.lookup f2 = some ⟨oc2, od2, .func (PySem.W.fnOf "total_of" "total_of" (defArgs s_total_of) (defBody s_total_of) (defScope s_total_of) .none kV2 dc2 pm2 an2 cd2 ct2), sl2⟩) (c2 : PySem.W.codeIn K cd2 "total_of" = true) (k2 : PySem.W.keepIn K (.ref f2) = true)
    (a3 : PySem.W.nsIn K mainGlobals "depth_of" = some (some (.ref f3))) (l3 : K.lookup f3 = some ⟨oc3, od3, .func (PySem.W.fnOf "depth_of" "depth_of" (defArgs s_depth_of) (defBody s_depth_of) (defScope s_depth_of) .none kV3 dc3 pm3 an3 cd3 ct3), sl3⟩) (c3 : PySem.W.codeIn K cd3 "depth_of" = true) (k3 : PySem.W.keepIn K (.ref f3) = true)
    (a4 : PySem.W.nsIn K mainGlobals "joined" = some (some (.ref f4))) (l4 : K.lookup f4 = some ⟨oc4, od4, .func (PySem.W.fnOf "joined" "joined" (defArgs s_joined) (defBody s_joined) (defScope s_joined) .none kV4 dc4 pm4 an4 cd4 ct4), sl4⟩) (c4 : PySem.W.codeIn K cd4 "joined" = true) (k4 : PySem.W.keepIn K (.ref f4) = true)
    (a5 : PySem.W.nsIn K mainGlobals "balanced" = some (some (.ref f5))) (l5 : K.lookup f5 = some ⟨oc5, od5, .func (PySem.W.fnOf "balanced" "balanced" (defArgs s_balanced) (defBody s_balanced) (defScope s_balanced) .none kV5 dc5 pm5 an5 cd5 ct5), sl5⟩) (c5 : PySem.W.codeIn K cd5 "balanced" = true) (k5 : PySem.W.keepIn K (.ref f5) = true)
    (a6 : PySem.W.nsIn K mainGlobals "with_row" = some (some (.ref f6))) (l6 : K.lookup f6 = some ⟨oc6, od6, .func (PySem.W.fnOf "with_row" "with_row" (defArgs s_with_row) (defBody s_with_row) (defScope s_with_row) .none kV6 dc6 pm6 an6 cd6 ct6), sl6⟩) (c6 : PySem.W.codeIn K cd6 "with_row" = true) (k6 : PySem.W.keepIn K (.ref f6) = true)
    (a7 : PySem.W.nsIn K mainGlobals "with_height" = some (some (.ref f7))) (l7 : K.lookup f7 = some ⟨oc7, od7, .func (PySem.W.fnOf "with_height" "with_height" (defArgs s_with_height) (defBody s_with_height) (defScope s_with_height) .none kV7 dc7 pm7 an7 cd7 ct7), sl7⟩) (c7 : PySem.W.codeIn K cd7 "with_height" = true) (k7 : PySem.W.keepIn K (.ref f7) = true)
    (a8 : PySem.W.nsIn K mainGlobals "height_at" = some (some (.ref f8))) (l8 : K.lookup f8 = some ⟨oc8, od8, .func (PySem.W.fnOf "height_at" "height_at" (defArgs s_height_at) (defBody s_height_at) (defScope s_height_at) .none kV8 dc8 pm8 an8 cd8 ct8), sl8⟩) (c8 : PySem.W.codeIn K cd8 "height_at" = true) (k8 : PySem.W.keepIn K (.ref f8) = true)
    (a9 : PySem.W.nsIn K mainGlobals "without_row" = some (some (.ref f9))) (l9 : K.lookup f9 = some ⟨oc9, od9, .func (PySem.W.fnOf "without_row" "without_row" (defArgs s_without_row) (defBody s_without_row) (defScope s_without_row) .none kV9 dc9 pm9 an9 cd9 ct9), sl9⟩) (c9 : PySem.W.codeIn K cd9 "without_row" = true) (k9 : PySem.W.keepIn K (.ref f9) = true)
    (a10 : PySem.W.nsIn K mainGlobals "offset_of" = some (some (.ref f10))) (l10 : K.lookup f10 = some ⟨oc10, od10, .func (PySem.W.fnOf "offset_of" "offset_of" (defArgs s_offset_of) (defBody s_offset_of) (defScope s_offset_of) .none kV10 dc10 pm10 an10 cd10 ct10), sl10⟩) (c10 : PySem.W.codeIn K cd10 "offset_of" = true) (k10 : PySem.W.keepIn K (.ref f10) = true)
    (a11 : PySem.W.nsIn K mainGlobals "covering" = some (some (.ref f11))) (l11 : K.lookup f11 = some ⟨oc11, od11, .func (PySem.W.fnOf "covering" "covering" (defArgs s_covering) (defBody s_covering) (defScope s_covering) .none kV11 dc11 pm11 an11 cd11 ct11), sl11⟩) (c11 : PySem.W.codeIn K cd11 "covering" = true) (k11 : PySem.W.keepIn K (.ref f11) = true)
    (a12 : PySem.W.nsIn K mainGlobals "plain_tree" = some (some (.ref f12))) (l12 : K.lookup f12 = some ⟨oc12, od12, .func (PySem.W.fnOf "plain_tree" "plain_tree" (defArgs s_plain_tree) (defBody s_plain_tree) (defScope s_plain_tree) .none kV12 dc12 pm12 an12 cd12 ct12), sl12⟩) (c12 : PySem.W.codeIn K cd12 "plain_tree" = true) (k12 : PySem.W.keepIn K (.ref f12) = true)
    (a13 : PySem.W.nsIn K mainGlobals "heights_of" = some (some (.ref f13))) (l13 : K.lookup f13 = some ⟨oc13, od13, .func (PySem.W.fnOf "heights_of" "heights_of" (defArgs s_heights_of) (defBody s_heights_of) (defScope s_heights_of) .none kV13 dc13 pm13 an13 cd13 ct13), sl13⟩) (c13 : PySem.W.codeIn K cd13 "heights_of" = true) (k13 : PySem.W.keepIn K (.ref f13) = true)
    (a14 : PySem.W.nsIn K mainGlobals "need_guess" = some (some (.ref f14))) (l14 : K.lookup f14 = some ⟨oc14, od14, .func (PySem.W.fnOf "need_guess" "need_guess" (defArgs s_need_guess) (defBody s_need_guess) (defScope s_need_guess) .none kV14 dc14 pm14 an14 cd14 ct14), sl14⟩) (c14 : PySem.W.codeIn K cd14 "need_guess" = true) (k14 : PySem.W.keepIn K (.ref f14) = true)
    (a15 : PySem.W.nsIn K mainGlobals "need_height" = some (some (.ref f15))) (l15 : K.lookup f15 = some ⟨oc15, od15, .func (PySem.W.fnOf "need_height" "need_height" (defArgs s_need_height) (defBody s_need_height) (defScope s_need_height) .none kV15 dc15 pm15 an15 cd15 ct15), sl15⟩) (c15 : PySem.W.codeIn K cd15 "need_height" = true) (k15 : PySem.W.keepIn K (.ref f15) = true)
    (a16 : PySem.W.nsIn K mainGlobals "is_integer" = some (some (.ref f16))) (l16 : K.lookup f16 = some ⟨oc16, od16, .func (PySem.W.fnOf "is_integer" "is_integer" (defArgs s_is_integer) (defBody s_is_integer) (defScope s_is_integer) .none kV16 dc16 pm16 an16 cd16 ct16), sl16⟩) (c16 : PySem.W.codeIn K cd16 "is_integer" = true) (k16 : PySem.W.keepIn K (.ref f16) = true)
    (a17 : PySem.W.nsIn K mainGlobals "measured" = some (some (.ref f17))) (l17 : K.lookup f17 = some ⟨oc17, od17, .func (PySem.W.fnOf "measured" "measured" (defArgs s_measured) (defBody s_measured) (defScope s_measured) .none kV17 dc17 pm17 an17 cd17 ct17), sl17⟩) (c17 : PySem.W.codeIn K cd17 "measured" = true) (k17 : PySem.W.keepIn K (.ref f17) = true)
    (a18 : PySem.W.nsIn K mainGlobals "tree_right" = some (some (.ref f18))) (l18 : K.lookup f18 = some ⟨oc18, od18, .func (PySem.W.fnOf "tree_right" "tree_right" (defArgs s_tree_right) (defBody s_tree_right) (defScope s_tree_right) .none kV18 dc18 pm18 an18 cd18 ct18), sl18⟩) (c18 : PySem.W.codeIn K cd18 "tree_right" = true) (k18 : PySem.W.keepIn K (.ref f18) = true)
    (a19 : PySem.W.nsIn K mainGlobals "heights_in" = some (some (.ref f19))) (l19 : K.lookup f19 = some ⟨oc19, od19, .func (PySem.W.fnOf "heights_in" "heights_in" (defArgs s_heights_in) (defBody s_heights_in) (defScope s_heights_in) .none kV19 dc19 pm19 an19 cd19 ct19), sl19⟩) (c19 : PySem.W.codeIn K cd19 "heights_in" = true) (k19 : PySem.W.keepIn K (.ref f19) = true)
    (a20 : PySem.W.nsIn K mainGlobals "_law_deck" = some (some (.ref f20))) (l20 : K.lookup f20 = some ⟨oc20, od20, .func (PySem.W.fnOf "_law_deck" "_law_deck" (defArgs s__law_deck) (defBody s__law_deck) (defScope s__law_deck) .none kV20 dc20 pm20 an20 cd20 ct20), sl20⟩) (c20 : PySem.W.codeIn K cd20 "_law_deck" = true) (k20 : PySem.W.keepIn K (.ref f20) = true)
    (a21 : PySem.W.nsIn K mainGlobals "_law_draw" = some (some (.ref f21))) (l21 : K.lookup f21 = some ⟨oc21, od21, .func (PySem.W.fnOf "_law_draw" "_law_draw" (defArgs s__law_draw) (defBody s__law_draw) (defScope s__law_draw) .none kV21 dc21 pm21 an21 cd21 ct21), sl21⟩) (c21 : PySem.W.codeIn K cd21 "_law_draw" = true) (k21 : PySem.W.keepIn K (.ref f21) = true)
    (a22 : PySem.W.nsIn K mainGlobals "_law_same" = some (some (.ref f22))) (l22 : K.lookup f22 = some ⟨oc22, od22, .func (PySem.W.fnOf "_law_same" "_law_same" (defArgs s__law_same) (defBody s__law_same) (defScope s__law_same) .none kV22 dc22 pm22 an22 cd22 ct22), sl22⟩) (c22 : PySem.W.codeIn K cd22 "_law_same" = true) (k22 : PySem.W.keepIn K (.ref f22) = true)
    (a23 : PySem.W.nsIn K mainGlobals "_law_integer" = some (some (.ref f23))) (l23 : K.lookup f23 = some ⟨oc23, od23, .func (PySem.W.fnOf "_law_integer" "_law_integer" (defArgs s__law_integer) (defBody s__law_integer) (defScope s__law_integer) .none kV23 dc23 pm23 an23 cd23 ct23), sl23⟩) (c23 : PySem.W.codeIn K cd23 "_law_integer" = true) (k23 : PySem.W.keepIn K (.ref f23) = true)
    (a24 : PySem.W.nsIn K mainGlobals "_law_height" = some (some (.ref f24))) (l24 : K.lookup f24 = some ⟨oc24, od24, .func (PySem.W.fnOf "_law_height" "_law_height" (defArgs s__law_height) (defBody s__law_height) (defScope s__law_height) .none kV24 dc24 pm24 an24 cd24 ct24), sl24⟩) (c24 : PySem.W.codeIn K cd24 "_law_height" = true) (k24 : PySem.W.keepIn K (.ref f24) = true)
    (a25 : PySem.W.nsIn K mainGlobals "_law_counted" = some (some (.ref f25))) (l25 : K.lookup f25 = some ⟨oc25, od25, .func (PySem.W.fnOf "_law_counted" "_law_counted" (defArgs s__law_counted) (defBody s__law_counted) (defScope s__law_counted) .none kV25 dc25 pm25 an25 cd25 ct25), sl25⟩) (c25 : PySem.W.codeIn K cd25 "_law_counted" = true) (k25 : PySem.W.keepIn K (.ref f25) = true)
    (a26 : PySem.W.nsIn K mainGlobals "_law_before" = some (some (.ref f26))) (l26 : K.lookup f26 = some ⟨oc26, od26, .func (PySem.W.fnOf "_law_before" "_law_before" (defArgs s__law_before) (defBody s__law_before) (defScope s__law_before) .none kV26 dc26 pm26 an26 cd26 ct26), sl26⟩) (c26 : PySem.W.codeIn K cd26 "_law_before" = true) (k26 : PySem.W.keepIn K (.ref f26) = true)
    (a27 : PySem.W.nsIn K mainGlobals "_law_covering" = some (some (.ref f27))) (l27 : K.lookup f27 = some ⟨oc27, od27, .func (PySem.W.fnOf "_law_covering" "_law_covering" (defArgs s__law_covering) (defBody s__law_covering) (defScope s__law_covering) .none kV27 dc27 pm27 an27 cd27 ct27), sl27⟩) (c27 : PySem.W.codeIn K cd27 "_law_covering" = true) (k27 : PySem.W.keepIn K (.ref f27) = true)
    (a28 : PySem.W.nsIn K mainGlobals "_law_tree_told" = some (some (.ref f28))) (l28 : K.lookup f28 = some ⟨oc28, od28, .func (PySem.W.fnOf "_law_tree_told" "_law_tree_told" (defArgs s__law_tree_told) (defBody s__law_tree_told) (defScope s__law_tree_told) .none kV28 dc28 pm28 an28 cd28 ct28), sl28⟩) (c28 : PySem.W.codeIn K cd28 "_law_tree_told" = true) (k28 : PySem.W.keepIn K (.ref f28) = true)
    (a29 : PySem.W.nsIn K mainGlobals "_law_tree_rows" = some (some (.ref f29))) (l29 : K.lookup f29 = some ⟨oc29, od29, .func (PySem.W.fnOf "_law_tree_rows" "_law_tree_rows" (defArgs s__law_tree_rows) (defBody s__law_tree_rows) (defScope s__law_tree_rows) .none kV29 dc29 pm29 an29 cd29 ct29), sl29⟩) (c29 : PySem.W.codeIn K cd29 "_law_tree_rows" = true) (k29 : PySem.W.keepIn K (.ref f29) = true)
    (a30 : PySem.W.findIn K (.ref oC0) "total" = some (some (.ref f30))) (l30 : K.lookup f30 = some ⟨oc30, od30, .func (PySem.W.fnOf "total" "Heights.total" (defArgs s_Heights_total) (defBody s_Heights_total) (defScope s_Heights_total) .none kV30 dc30 pm30 an30 cd30 ct30), sl30⟩) (c30 : PySem.W.codeIn K cd30 "Heights.total" = true) (k30 : PySem.W.keepIn K (.ref f30) = true) (n30 : PySem.W.isFn K (.ref f30) = true)
    (a31 : PySem.W.findIn K (.ref oC0) "row_at" = some (some (.ref f31))) (l31 : K.lookup f31 = some ⟨oc31, od31, .func (PySem.W.fnOf "row_at" "Heights.row_at" (defArgs s_Heights_row_at) (defBody s_Heights_row_at) (defScope s_Heights_row_at) .none kV31 dc31 pm31 an31 cd31 ct31), sl31⟩) (c31 : PySem.W.codeIn K cd31 "Heights.row_at" = true) (k31 : PySem.W.keepIn K (.ref f31) = true) (n31 : PySem.W.isFn K (.ref f31) = true)
    (a32 : PySem.W.findIn K (.ref oC0) "need_index" = some (some (.ref f32))) (l32 : K.lookup f32 = some ⟨oc32, od32, .func (PySem.W.fnOf "need_index" "Heights.need_index" (defArgs s_Heights_need_index) (defBody s_Heights_need_index) (defScope s_Heights_need_index) .none kV32 dc32 pm32 an32 cd32 ct32), sl32⟩) (c32 : PySem.W.codeIn K cd32 "Heights.need_index" = true) (k32 : PySem.W.keepIn K (.ref f32) = true) (n32 : PySem.W.isFn K (.ref f32) = true)
    (a33 : PySem.W.findIn K (.ref oC0) "height" = some (some (.ref f33))) (l33 : K.lookup f33 = some ⟨oc33, od33, .func (PySem.W.fnOf "height" "Heights.height" (defArgs s_Heights_height) (defBody s_Heights_height) (defScope s_Heights_height) .none kV33 dc33 pm33 an33 cd33 ct33), sl33⟩) (c33 : PySem.W.codeIn K cd33 "Heights.height" = true) (k33 : PySem.W.keepIn K (.ref f33) = true) (n33 : PySem.W.isFn K (.ref f33) = true)
    (a34 : PySem.W.findIn K (.ref oC0) "offset" = some (some (.ref f34))) (l34 : K.lookup f34 = some ⟨oc34, od34, .func (PySem.W.fnOf "offset" "Heights.offset" (defArgs s_Heights_offset) (defBody s_Heights_offset) (defScope s_Heights_offset) .none kV34 dc34 pm34 an34 cd34 ct34), sl34⟩) (c34 : PySem.W.codeIn K cd34 "Heights.offset" = true) (k34 : PySem.W.keepIn K (.ref f34) = true) (n34 : PySem.W.isFn K (.ref f34) = true)
    (a35 : PySem.W.findIn K (.ref oC0) "known" = some (some (.ref f35))) (l35 : K.lookup f35 = some ⟨oc35, od35, .func (PySem.W.fnOf "known" "Heights.known" (defArgs s_Heights_known) (defBody s_Heights_known) (defScope s_Heights_known) .none kV35 dc35 pm35 an35 cd35 ct35), sl35⟩) (c35 : PySem.W.codeIn K cd35 "Heights.known" = true) (k35 : PySem.W.keepIn K (.ref f35) = true) (n35 : PySem.W.isFn K (.ref f35) = true)
    (a36 : PySem.W.findIn K (.ref oC0) "all_heights" = some (some (.ref f36))) (l36 : K.lookup f36 = some ⟨oc36, od36, .func (PySem.W.fnOf "all_heights" "Heights.all_heights" (defArgs s_Heights_all_heights) (defBody s_Heights_all_heights) (defScope s_Heights_all_heights) .none kV36 dc36 pm36 an36 cd36 ct36), sl36⟩) (c36 : PySem.W.codeIn K cd36 "Heights.all_heights" = true) (k36 : PySem.W.keepIn K (.ref f36) = true) (n36 : PySem.W.isFn K (.ref f36) = true)
    (a37 : PySem.W.findIn K (.ref oC0) "__len__" = some (some (.ref f37))) (l37 : K.lookup f37 = some ⟨oc37, od37, .func (PySem.W.fnOf "__len__" "Heights.__len__" (defArgs s_Heights___len__) (defBody s_Heights___len__) (defScope s_Heights___len__) .none kV37 dc37 pm37 an37 cd37 ct37), sl37⟩) (c37 : PySem.W.codeIn K cd37 "Heights.__len__" = true) (k37 : PySem.W.keepIn K (.ref f37) = true) (n37 : PySem.W.isFn K (.ref f37) = true)
    (a38 : PySem.W.nsIn K mainGlobals "_law_looks_right" = some (some (.ref f38))) (l38 : K.lookup f38 = some ⟨oc38, od38, .func (PySem.W.fnOf "_law_looks_right" "_law_looks_right" (defArgs s__law_looks_right) (defBody s__law_looks_right) (defScope s__law_looks_right) .none kV38 dc38 pm38 an38 cd38 ct38), sl38⟩) (c38 : PySem.W.codeIn K cd38 "_law_looks_right" = true) (k38 : PySem.W.keepIn K (.ref f38) = true)
    (a39 : PySem.W.findIn K (.ref oC0) "tree" = some (some (.ref f39))) (l39 : K.lookup f39 = some ⟨oc39, od39, .func (PySem.W.fnOf "tree" "Heights.tree" (defArgs s_Heights_tree) (defBody s_Heights_tree) (defScope s_Heights_tree) .none kV39 dc39 pm39 an39 cd39 ct39), sl39⟩) (c39 : PySem.W.codeIn K cd39 "Heights.tree" = true) (k39 : PySem.W.keepIn K (.ref f39) = true) (n39 : PySem.W.isFn K (.ref f39) = true)
    (a40 : PySem.W.findIn K (.ref oC0) "insert" = some (some (.ref f40))) (l40 : K.lookup f40 = some ⟨oc40, od40, .func (PySem.W.fnOf "insert" "Heights.insert" (defArgs s_Heights_insert) (defBody s_Heights_insert) (defScope s_Heights_insert) .none kV40 dc40 pm40 an40 cd40 ct40), sl40⟩) (c40 : PySem.W.codeIn K cd40 "Heights.insert" = true) (k40 : PySem.W.keepIn K (.ref f40) = true) (n40 : PySem.W.isFn K (.ref f40) = true)
    (a41 : PySem.W.findIn K (.ref oC0) "learn" = some (some (.ref f41))) (l41 : K.lookup f41 = some ⟨oc41, od41, .func (PySem.W.fnOf "learn" "Heights.learn" (defArgs s_Heights_learn) (defBody s_Heights_learn) (defScope s_Heights_learn) .none kV41 dc41 pm41 an41 cd41 ct41), sl41⟩) (c41 : PySem.W.codeIn K cd41 "Heights.learn" = true) (k41 : PySem.W.keepIn K (.ref f41) = true) (n41 : PySem.W.isFn K (.ref f41) = true)
    (a42 : PySem.W.findIn K (.ref oC0) "remove" = some (some (.ref f42))) (l42 : K.lookup f42 = some ⟨oc42, od42, .func (PySem.W.fnOf "remove" "Heights.remove" (defArgs s_Heights_remove) (defBody s_Heights_remove) (defScope s_Heights_remove) .none kV42 dc42 pm42 an42 cd42 ct42), sl42⟩) (c42 : PySem.W.codeIn K cd42 "Heights.remove" = true) (k42 : PySem.W.keepIn K (.ref f42) = true) (n42 : PySem.W.isFn K (.ref f42) = true)
    (a43 : PySem.W.findIn K (.ref oC0) "__init__" = some (some (.ref f43))) (l43 : K.lookup f43 = some ⟨oc43, od43, .func (PySem.W.fnOf "__init__" "Heights.__init__" (defArgs s_Heights___init__) (defBody s_Heights___init__) (defScope s_Heights___init__) .none kV43 dc43 pm43 an43 cd43 ct43), sl43⟩) (c43 : PySem.W.codeIn K cd43 "Heights.__init__" = true) (k43 : PySem.W.keepIn K (.ref f43) = true) (n43 : PySem.W.isFn K (.ref f43) = true)
    (a44 : PySem.W.nsIn K mainGlobals "_law_right" = some (some (.ref f44))) (l44 : K.lookup f44 = some ⟨oc44, od44, .func (PySem.W.fnOf "_law_right" "_law_right" (defArgs s__law_right) (defBody s__law_right) (defScope s__law_right) .none kV44 dc44 pm44 an44 cd44 ct44), sl44⟩) (c44 : PySem.W.codeIn K cd44 "_law_right" = true) (k44 : PySem.W.keepIn K (.ref f44) = true)
    (a45 : PySem.W.nsIn K mainGlobals "law" = some (some (.ref f45))) (l45 : K.lookup f45 = some ⟨oc45, od45, .func (PySem.W.fnOf "law" "law" (defArgs s_law) (defBody s_law) (defScope s_law) .none kV45 dc45 pm45 an45 cd45 ct45), sl45⟩) (c45 : PySem.W.codeIn K cd45 "law" = true) (k45 : PySem.W.keepIn K (.ref f45) = true)
    (z0 : PySem.W.nsIn K mainGlobals "abs" = some none)
    (z1 : PySem.W.nsIn K mainGlobals "all" = some none)
    (z2 : PySem.W.nsIn K mainGlobals "bool" = some none)
    (z3 : PySem.W.nsIn K mainGlobals "int" = some none)
    (z4 : PySem.W.nsIn K mainGlobals "isinstance" = some none)
    (z5 : PySem.W.nsIn K mainGlobals "len" = some none)
    (z6 : PySem.W.nsIn K mainGlobals "list" = some none)
    (z7 : PySem.W.nsIn K mainGlobals "max" = some none)
    (z8 : PySem.W.nsIn K mainGlobals "min" = some none)
    (z9 : PySem.W.nsIn K mainGlobals "range" = some none)
    (z10 : PySem.W.nsIn K mainGlobals "str" = some none)
    (z11 : PySem.W.nsIn K mainGlobals "sum" = some none)
    (z12 : PySem.W.nsIn K mainGlobals "tuple" = some none) :
    ∃ (fd : FuncData) (cs : List (Addr × Addr)), (∀ p ∈ cs, h.get? p.2 = some tab0 ∧ K.lookup p.2 = none ∧ PySem.W.codeHdIn K p.1 p.2 = true) ∧ (∀ P q, TbN K P q → P ∈ cs.map (·.2)) ∧ (∀ (s : Shared) (v : Value), BindsTo s fd ⟨[v], []⟩ [("script", v)]) ∧
      ∀ base : Heap, K.In base → base.Ns mainGlobals mg → (∀ p ∈ cs, LamX.TabB base mg p.1 p.2) → FnG P w K mg base CX0 124 fa fd ["script"] (spD K F_law) := by
  have e := hfa.symm.trans (PySem.W.mg_of X G a45)
  cases e
  have bse : PySem.OwnErr.Bse P K Db fI := ⟨⟨_, _, _, _, _, _, _, _, _, _, _, _, _, _, _, _, _, _, _, _, _, _, _, qW, lB, cB, dB, vB, fB, eB, hev_W _ _⟩, ⟨_, gB⟩, tB, yB, zB⟩
  have e0 : Err P K mg "InvalidIndex" C0 := ⟨⟨Db, fI, bse, ⟨⟨⟨_, _, _, _, _, _, _, _, _, _, _, _, _, _, _, x0l, rfl⟩, x0s, x0e, x0t, x0k⟩, ⟨x0g, x0h, x0e, x0d⟩, x0v, x0i, x0b, x0u, x0w⟩⟩, PySem.W.mg_of X G x0a, PySem.W.mg_none_of X G uB⟩
  have e1 : Err P K mg "InvalidNumber" C1 := ⟨⟨Db, fI, bse, ⟨⟨⟨_, _, _, _, _, _, _, _, _, _, _, _, _, _, _, x1l, rfl⟩, x1s, x1e, x1t, x1k⟩, ⟨x1g, x1h, x1e, x1d⟩, x1v, x1i, x1b, x1u, x1w⟩⟩, PySem.W.mg_of X G x1a, PySem.W.mg_none_of X G uB⟩
  have CF : ClsF K := { a_Heights_guess := attr_of_cls oc0a ⟨oc0p, oc0h, oc0o, oc0s⟩ oc0_guess, a_Heights_known_ones := attr_of_cls oc0a ⟨oc0p, oc0h, oc0o, oc0s⟩ oc0_known_ones, a_Heights_many := attr_of_cls oc0a ⟨oc0p, oc0h, oc0o, oc0s⟩ oc0_many, a_Heights_root := attr_of_cls oc0a ⟨oc0p, oc0h, oc0o, oc0s⟩ oc0_root, i_Heights := isi_of_cls oc0a ⟨oc0p, oc0h, oc0o, oc0s⟩ (kit_ref oc0h oc0t oc0u (fun _ => rfl)) oc0v oc0x oc0y ojs ojt, t_Heights := tup_of_cls oc0a oc0w }
  have EF : ErrF K := { i_InvalidIndex_InvalidIndex := is_of x0a x0a x0d x0t y0_0 (fun _ => rfl), s_InvalidIndex_InvalidIndex := sub_is x0a x0a x0e x0d x0t y0_0, i_InvalidIndex_InvalidNumber := is_of x0a x1a x1d x1t y0_1 (fun z => by have q := y0_1; rw [← z, y0_0] at q; cases q), s_InvalidIndex_InvalidNumber := sub_is x0a x1a x1e x1d x1t y0_1, x_InvalidIndex := fun C' hC => by rw [cla_eq x0a hC]; exact ⟨x0g, x0h, x0e, x0d, x0m, jB, kB, x0o⟩, v_InvalidIndex := fun C' hC => by rw [cla_eq x0a hC]; exact ⟨⟨x0g, x0h, x0e, x0d⟩, x0v⟩, i_InvalidNumber_InvalidIndex := is_of x1a x0a x0d x0t y1_0 (fun z => by have q := y1_0; rw [← z, y1_1] at q; cases q), s_InvalidNumber_InvalidIndex := sub_is x1a x0a x0e x0d x0t y1_0, i_InvalidNumber_InvalidNumber := is_of x1a x1a x1d x1t y1_1 (fun _ => rfl), s_InvalidNumber_InvalidNumber := sub_is x1a x1a x1e x1d x1t y1_1, x_InvalidNumber := fun C' hC => by rw [cla_eq x1a hC]; exact ⟨x1g, x1h, x1e, x1d, x1m, jB, kB, x1o⟩, v_InvalidNumber := fun C' hC => by rw [cla_eq x1a hC]; exact ⟨⟨x1g, x1h, x1e, x1d⟩, x1v⟩ }
  have hcs : ∀ P q, TbN K P q → P ∈ ([] : List (Addr × Addr)).map (·.2) := fun P q ⟨x, hx, _⟩ => absurd hx (by simp [lamNames])
  have hct : ∀ p ∈ ([] : List (Addr × Addr)), h.get? p.2 = some tab0 ∧ K.lookup p.2 = none ∧ PySem.W.codeHdIn K p.1 p.2 = true := fun p hp => absurd hp (by simp)
  refine ⟨PySem.W.fnOf "law" "law" (defArgs s_law) (defBody s_law) (defScope s_law) .none kV45 dc45 pm45 an45 cd45 ct45, [], hct, hcs, fun s v => .of_eq rfl, fun base _ _ TB => ?_⟩
  let T : Txt P K mg base := ⟨_, oc0a, PySem.W.mg_of X G oc0a, ⟨oc0p, oc0h, oc0o, oc0s⟩, _, _, fun_mk (st := s_counted) l0 c0 k0, PySem.W.mg_of X G a0, _, _, fun_mk (st := s_rows_of) l1 c1 k1, PySem.W.mg_of X G a1, _, _, fun_mk (st := s_total_of) l2 c2 k2, PySem.W.mg_of X G a2, _, _, fun_mk (st := s_depth_of) l3 c3 k3, PySem.W.mg_of X G a3, _, _, fun_mk (st := s_joined) l4 c4 k4, PySem.W.mg_of X G a4, _, _, fun_mk (st := s_balanced) l5 c5 k5, PySem.W.mg_of X G a5, _, _, fun_mk (st := s_with_row) l6 c6 k6, PySem.W.mg_of X G a6, _, _, fun_mk (st := s_with_height) l7 c7 k7, PySem.W.mg_of X G a7, _, _, fun_mk (st := s_height_at) l8 c8 k8, PySem.W.mg_of X G a8, _, _, fun_mk (st := s_without_row) l9 c9 k9, PySem.W.mg_of X G a9, _, _, fun_mk (st := s_offset_of) l10 c10 k10, PySem.W.mg_of X G a10, _, _, fun_mk (st := s_covering) l11 c11 k11, PySem.W.mg_of X G a11, _, _, fun_mk (st := s_plain_tree) l12 c12 k12, PySem.W.mg_of X G a12, _, _, fun_mk (st := s_heights_of) l13 c13 k13, PySem.W.mg_of X G a13, _, _, fun_mk (st := s_need_guess) l14 c14 k14, PySem.W.mg_of X G a14, _, _, fun_mk (st := s_need_height) l15 c15 k15, PySem.W.mg_of X G a15, _, _, fun_mk (st := s_is_integer) l16 c16 k16, PySem.W.mg_of X G a16, _, _, fun_mk (st := s_measured) l17 c17 k17, PySem.W.mg_of X G a17, _, _, fun_mk (st := s_tree_right) l18 c18 k18, PySem.W.mg_of X G a18, _, _, fun_mk (st := s_heights_in) l19 c19 k19, PySem.W.mg_of X G a19, _, _, fun_mk (st := s__law_deck) l20 c20 k20, PySem.W.mg_of X G a20, _, _, fun_mk (st := s__law_draw) l21 c21 k21, PySem.W.mg_of X G a21, _, _, fun_mk (st := s__law_same) l22 c22 k22, PySem.W.mg_of X G a22, _, _, fun_mk (st := s__law_integer) l23 c23 k23, PySem.W.mg_of X G a23, _, _, fun_mk (st := s__law_height) l24 c24 k24, PySem.W.mg_of X G a24, _, _, fun_mk (st := s__law_counted) l25 c25 k25, PySem.W.mg_of X G a25, _, _, fun_mk (st := s__law_before) l26 c26 k26, PySem.W.mg_of X G a26, _, _, fun_mk (st := s__law_covering) l27 c27 k27, PySem.W.mg_of X G a27, _, _, fun_mk (st := s__law_tree_told) l28 c28 k28, PySem.W.mg_of X G a28, _, _, fun_mk (st := s__law_tree_rows) l29 c29 k29, PySem.W.mg_of X G a29, _, _, fun_mk (st := s_Heights_total) l30 c30 k30, ⟨a30, n30, k30⟩, _, _, fun_mk (st := s_Heights_row_at) l31 c31 k31, ⟨a31, n31, k31⟩, _, _, fun_mk (st := s_Heights_need_index) l32 c32 k32, ⟨a32, n32, k32⟩, _, _, fun_mk (st := s_Heights_height) l33 c33 k33, ⟨a33, n33, k33⟩, _, _, fun_mk (st := s_Heights_offset) l34 c34 k34, ⟨a34, n34, k34⟩, _, _, fun_mk (st := s_Heights_known) l35 c35 k35, ⟨a35, n35, k35⟩, _, _, fun_mk (st := s_Heights_all_heights) l36 c36 k36, ⟨a36, n36, k36⟩, _, _, fun_mk (st := s_Heights___len__) l37 c37 k37, ⟨a37, n37, k37⟩, _, _, fun_mk (st := s__law_looks_right) l38 c38 k38, PySem.W.mg_of X G a38, _, _, fun_mk (st := s_Heights_tree) l39 c39 k39, ⟨a39, n39, k39⟩, _, _, fun_mk (st := s_Heights_insert) l40 c40 k40, ⟨a40, n40, k40⟩, _, _, fun_mk (st := s_Heights_learn) l41 c41 k41, ⟨a41, n41, k41⟩, _, _, fun_mk (st := s_Heights_remove) l42 c42 k42, ⟨a42, n42, k42⟩, _, _, fun_mk (st := s_Heights___init__) l43 c43 k43, ⟨oc0m, a43, n43, oc0k⟩, _, _, fun_mk (st := s__law_right) l44 c44 k44, PySem.W.mg_of X G a44, _, _, fun_mk (st := s_law) l45 c45 k45, PySem.W.mg_of X G a45, PySem.W.mg_none_of X G z0, PySem.W.mg_none_of X G z1, PySem.W.mg_none_of X G z2, PySem.W.mg_none_of X G z3, PySem.W.mg_none_of X G z4, PySem.W.mg_none_of X G z5, PySem.W.mg_none_of X G z6, PySem.W.mg_none_of X G z7, PySem.W.mg_none_of X G z8, PySem.W.mg_none_of X G z9, PySem.W.mg_none_of X G z10, PySem.W.mg_none_of X G z11, PySem.W.mg_none_of X G z12, ⟨_, x0a, e0⟩, ⟨_, x1a, e1⟩, CF, EF⟩
  exact g_law T
end Lw

open PySem PySem.W PyProof.Rows
set_option maxHeartbeats 0 in
set_option maxRecDepth 100000 in
theorem PySem.Challenge.cw_listworks_k45_heights_one_below_the_othe_holds : PySem.Challenge.rw_listworks_k45_heights_one_below_the_othe.Holds := by
  w_on; o_law; k_head; (case hw => w_witness2)
  k_fill
  refine Pd.walk_ofT (l := PySem.Challenge.rw_listworks_k45_heights_one_below_the_othe) (n := 63) (k := 124) (x := "script") (CX := fun _ => L2.CX0) (sp := fun w => Pd.spD _ Lw.F_law) rfl (by decide) rfl ⟨rfl, by decide, by decide⟩ (fun w h Y => PySem.W.kIn_of Y) ?F (fun _ _ a ns hl hT hS => Lw.law_start hl hT hS) (fun _ _ _ _ _ h => h)
  case F =>
    intro w mg fa h Y KX G hmg
    refine' Lw.all_mk KX G hmg ?aB ?iB ?lB ?cB ?dB ?vB ?fB ?eB ?gB ?tB ?yB ?zB ?jB ?kB ?uB ?x0a ?x0l ?x0s ?x0g ?x0h ?x0v ?x0i ?x0e ?x0t ?x0k ?x0d ?x0b ?x0u ?x0w ?x0m ?x0o ?x1a ?x1l ?x1s ?x1g ?x1h ?x1v ?x1i ?x1e ?x1t ?x1k ?x1d ?x1b ?x1u ?x1w ?x1m ?x1o ?y0_0 ?y0_1 ?y1_0 ?y1_1 ?oc0a ?oc0p ?oc0h ?oc0o ?oc0s ?oc0t ?oc0u ?oc0v ?oc0w ?oc0x ?oc0y ?oc0m ?oc0k ?oc0_guess ?oc0_known_ones ?oc0_many ?oc0_root ?ojs ?ojt ?a0 ?l0 ?c0 ?k0 ?a1 ?l1 ?c1 ?k1 ?a2 ?l2 ?c2 ?k2 ?a3 ?l3 ?c3 ?k3 ?a4 ?l4 ?c4 ?k4 ?a5 ?l5 ?c5 ?k5 ?a6 ?l6 ?c6 ?k6 ?a7 ?l7 ?c7 ?k7 ?a8 ?l8 ?c8 ?k8 ?a9 ?l9 ?c9 ?k9 ?a10 ?l10 ?c10 ?k10 ?a11 ?l11 ?c11 ?k11 ?a12 ?l12 ?c12 ?k12 ?a13 ?l13 ?c13 ?k13 ?a14 ?l14 ?c14 ?k14 ?a15 ?l15 ?c15 ?k15 ?a16 ?l16 ?c16 ?k16 ?a17 ?l17 ?c17 ?k17 ?a18 ?l18 ?c18 ?k18 ?a19 ?l19 ?c19 ?k19 ?a20 ?l20 ?c20 ?k20 ?a21 ?l21 ?c21 ?k21 ?a22 ?l22 ?c22 ?k22 ?a23 ?l23 ?c23 ?k23 ?a24 ?l24 ?c24 ?k24 ?a25 ?l25 ?c25 ?k25 ?a26 ?l26 ?c26 ?k26 ?a27 ?l27 ?c27 ?k27 ?a28 ?l28 ?c28 ?k28 ?a29 ?l29 ?c29 ?k29 ?a30 ?l30 ?c30 ?k30 ?n30 ?a31 ?l31 ?c31 ?k31 ?n31 ?a32 ?l32 ?c32 ?k32 ?n32 ?a33 ?l33 ?c33 ?k33 ?n33 ?a34 ?l34 ?c34 ?k34 ?n34 ?a35 ?l35 ?c35 ?k35 ?n35 ?a36 ?l36 ?c36 ?k36 ?n36 ?a37 ?l37 ?c37 ?k37 ?n37 ?a38 ?l38 ?c38 ?k38 ?a39 ?l39 ?c39 ?k39 ?n39 ?a40 ?l40 ?c40 ?k40 ?n40 ?a41 ?l41 ?c41 ?k41 ?n41 ?a42 ?l42 ?c42 ?k42 ?n42 ?a43 ?l43 ?c43 ?k43 ?n43 ?a44 ?l44 ?c44 ?k44 ?a45 ?l45 ?c45 ?k45 ?z0 ?z1 ?z2 ?z3 ?z4 ?z5 ?z6 ?z7 ?z8 ?z9 ?z10 ?z11 ?z12
    (case aB => k_is); (case iB => k_is); (case lB => k_is); (case cB => k_is); (case dB => k_is); (case vB => rfl); (case fB => first | rfl | decide +kernel); (case eB => k_is); (case gB => k_is); (case tB => first | rfl | decide +kernel); (case yB => k_is); (case zB => k_is); (case jB => k_is); (case kB => k_is); (case uB => k_is); (case x0a => k_is); (case x0l => k_is); (case x0s => k_is); (case x0g => k_is); (case x0h => k_is); (case x0v => k_is); (case x0i => k_is); (case x0e => k_is); (case x0t => k_is); (case x0k => k_is); (case x0d => k_is); (case x0b => k_is); (case x0u => ks_is); (case x0w => k_is); (case x0m => k_is); (case x0o => k_is); (case x1a => k_is); (case x1l => k_is); (case x1s => k_is); (case x1g => k_is); (case x1h => k_is); (case x1v => k_is); (case x1i => k_is); (case x1e => k_is); (case x1t => k_is); (case x1k => k_is); (case x1d => k_is); (case x1b => k_is); (case x1u => ks_is); (case x1w => k_is); (case x1m => k_is); (case x1o => k_is); (case y0_0 => k_is); (case y0_1 => k_is); (case y1_0 => k_is); (case y1_1 => k_is); (case oc0a => k_is); (case oc0p => k_is); (case oc0h => k_is); (case oc0o => k_is); (case oc0s => k_is); (case oc0t => k_is); (case oc0u => k_is); (case oc0v => first | k_is | kernel_rfl); (case oc0w => k_is); (case oc0x => k_is); (case oc0y => k_is); (case oc0m => k_is); (case oc0k => k_is); (case oc0_guess => k_is); (case oc0_known_ones => k_is); (case oc0_many => k_is); (case oc0_root => k_is); (case ojs => k_is); (case ojt => k_is); (case a0 => k_is); (case l0 => k_is); (case c0 => k_is); (case k0 => k_is); (case a1 => k_is); (case l1 => k_is); (case c1 => k_is); (case k1 => k_is); (case a2 => k_is); (case l2 => k_is); (case c2 => k_is); (case k2 => k_is); (case a3 => k_is); (case l3 => k_is); (case c3 => k_is); (case k3 => k_is); (case a4 => k_is); (case l4 => k_is); (case c4 => k_is); (case k4 => k_is); (case a5 => k_is); (case l5 => k_is); (case c5 => k_is); (case k5 => k_is); (case a6 => k_is); (case l6 => k_is); (case c6 => k_is); (case k6 => k_is); (case a7 => k_is); (case l7 => k_is); (case c7 => k_is); (case k7 => k_is); (case a8 => k_is); (case l8 => k_is); (case c8 => k_is); (case k8 => k_is); (case a9 => k_is); (case l9 => k_is); (case c9 => k_is); (case k9 => k_is); (case a10 => k_is); (case l10 => k_is); (case c10 => k_is); (case k10 => k_is); (case a11 => k_is); (case l11 => k_is); (case c11 => k_is); (case k11 => k_is); (case a12 => k_is); (case l12 => k_is); (case c12 => k_is); (case k12 => k_is); (case a13 => k_is); (case l13 => k_is); (case c13 => k_is); (case k13 => k_is); (case a14 => k_is); (case l14 => k_is); (case c14 => k_is); (case k14 => k_is); (case a15 => k_is); (case l15 => k_is); (case c15 => k_is); (case k15 => k_is); (case a16 => k_is); (case l16 => k_is); (case c16 => k_is); (case k16 => k_is); (case a17 => k_is); (case l17 => k_is); (case c17 => k_is); (case k17 => k_is); (case a18 => k_is); (case l18 => k_is); (case c18 => k_is); (case k18 => k_is); (case a19 => k_is); (case l19 => k_is); (case c19 => k_is); (case k19 => k_is); (case a20 => k_is); (case l20 => k_is); (case c20 => k_is); (case k20 => k_is); (case a21 => k_is); (case l21 => k_is); (case c21 => k_is); (case k21 => k_is); (case a22 => k_is); (case l22 => k_is); (case c22 => k_is); (case k22 => k_is); (case a23 => k_is); (case l23 => k_is); (case c23 => k_is); (case k23 => k_is); (case a24 => k_is); (case l24 => k_is); (case c24 => k_is); (case k24 => k_is); (case a25 => k_is); (case l25 => k_is); (case c25 => k_is); (case k25 => k_is); (case a26 => k_is); (case l26 => k_is); (case c26 => k_is); (case k26 => k_is); (case a27 => k_is); (case l27 => k_is); (case c27 => k_is); (case k27 => k_is); (case a28 => k_is); (case l28 => k_is); (case c28 => k_is); (case k28 => k_is); (case a29 => k_is); (case l29 => k_is); (case c29 => k_is); (case k29 => k_is); (case a30 => k_is); (case l30 => k_is); (case c30 => k_is); (case k30 => k_is); (case n30 => k_is); (case a31 => k_is); (case l31 => k_is); (case c31 => k_is); (case k31 => k_is); (case n31 => k_is); (case a32 => k_is); (case l32 => k_is); (case c32 => k_is); (case k32 => k_is); (case n32 => k_is); (case a33 => k_is); (case l33 => k_is); (case c33 => k_is); (case k33 => k_is); (case n33 => k_is); (case a34 => k_is); (case l34 => k_is); (case c34 => k_is); (case k34 => k_is); (case n34 => k_is); (case a35 => k_is); (case l35 => k_is); (case c35 => k_is); (case k35 => k_is); (case n35 => k_is); (case a36 => k_is); (case l36 => k_is); (case c36 => k_is); (case k36 => k_is); (case n36 => k_is); (case a37 => k_is); (case l37 => k_is); (case c37 => k_is); (case k37 => k_is); (case n37 => k_is); (case a38 => k_is); (case l38 => k_is); (case c38 => k_is); (case k38 => k_is); (case a39 => k_is); (case l39 => k_is); (case c39 => k_is); (case k39 => k_is); (case n39 => k_is); (case a40 => k_is); (case l40 => k_is); (case c40 => k_is); (case k40 => k_is); (case n40 => k_is); (case a41 => k_is); (case l41 => k_is); (case c41 => k_is); (case k41 => k_is); (case n41 => k_is); (case a42 => k_is); (case l42 => k_is); (case c42 => k_is); (case k42 => k_is); (case n42 => k_is); (case a43 => k_is); (case l43 => k_is); (case c43 => k_is); (case k43 => k_is); (case n43 => k_is); (case a44 => k_is); (case l44 => k_is); (case c44 => k_is); (case k44 => k_is); (case a45 => k_is); (case l45 => k_is); (case c45 => k_is); (case k45 => k_is); (case z0 => k_is); (case z1 => k_is); (case z2 => k_is); (case z3 => k_is); (case z4 => k_is); (case z5 => k_is); (case z6 => k_is); (case z7 => k_is); (case z8 => k_is); (case z9 => k_is); (case z10 => k_is); (case z11 => k_is); (case z12 => k_is)

