import PyProof.Rows.All
import Wide.All
import OpenK.AllK
import Wide.FinOn
import HandS.ForMost
import HandS.Exc
import HandS.Lambda
import HandS.Zip
import HandS.TupAny
import HandS.TupLe
import HandS.Deep
import HandS.Flow
import HandS.Style
import HandS.IsInst
import HandS.SetKeys
import PyProof.DictMoreH
import KE.KDictKeyed
import KE.DataCmp
import KE.DataMinMax
import KE.SortData
import HandS.Text
import KE.KRevSl
import KE.KDictDisplayH
import HandS.Defaults
import HandS.Head0
import HandS.Head1
import HandS.Head2
import HandS.HeadEnd
import HandS.HeadHook1
import HandS.HeadHook2
import HandS.HeadHook3
import HandS.HeadHook4
import KE.KExcInit
import KE.KExcSuper
import KE.KSuper
import KE.KSuperObj
import HandS.DictComp
import KE.GoesMore
import KE.GoesZip
import PyProof.Draws
import PyProof.EnumMake
import PyProof.CollectWalk
import PyProof.ListNew
import HandS.DictTup
import KE.KDictZip
import KE.KExcMake
import HandS.ExcInit
import HandS.ExcField
import HandS.TryOnly
import HandS.Ends
import HandS.EndBits
import HandS.EndTab
import HandS.HeadWalk
import KE.KStateDown
import Lean
import HandS.Base
import HandS.Call
import HandS.More
import HandS.Words
import HandS.WordsExc
import PySem.Challenge.RW_casetape_k93_tables_that_bear_torn_holes
set_option Elab.async false
set_option linter.all false
set_option maxRecDepth 100000
set_option maxHeartbeats 2000000
namespace Qz
open PySem PySem.Spec PyProof.Rows L2

/-- a datum: tuples are values; rol is a list that nobody writes (the script) -/
inductive D where
  | non | bl (b : Bool) | int (i : Int) | str (x : Str) | byt (b : Array UInt8) | ty (n : String) | ref (a : Addr) | tup (xs : List D) | rol (xs : List D)

/-- a mutable thing -/
inductive O where
  | lst (xs : List D) | dK (kvs : List (Key × D)) | dT (kvs : List (List Key × D)) | ins (c : Nat) (fs : List (Str × D))

abbrev Mm := Addr → Option O
def Mm.set (m : Mm) (p : Addr) (o : O) : Mm := fun a => if a = p then some o else m a
/-- p may be new -/
def Fr (m : Mm) (p : Addr) : Prop := m p = none

theorem Mm.set_same {m : Mm} {p : Addr} {o : O} : m.set p o p = some o := by unfold Mm.set; rw [if_pos rfl]
theorem Mm.set_ne {m : Mm} {p a : Addr} {o : O} (h : a ≠ p) : m.set p o a = m a := by unfold Mm.set; rw [if_neg h]
theorem Mm.set_set {m : Mm} {p : Addr} {o u : O} : (m.set p o).set p u = m.set p u := by funext b; unfold Mm.set; split <;> rfl
theorem Fr.ne {m : Mm} {p a : Addr} {o : O} (h : Fr m p) (e : m a = some o) : a ≠ p := by
  rintro rfl
  unfold Fr at h
  rw [e] at h; cases h
theorem Mm.get_old {m : Mm} {p a : Addr} {o u : O} (h : Fr m p) (e : m a = some u) : m.set p o a = some u := by
  rw [Mm.set_ne (h.ne e)]; exact e

/-- the module's part: the classes' addresses by number -/
structure Mo where
  cA : Nat → Addr
  P : Program
  w : World
  tb : List (Addr × Str)
/-- what is true of the object of a dict whose keys are tuples: its entries -/
def dphi (P : Program) (w : World) (a : Addr) (xs : List (List Key × Addr × Value)) : Heap → Prop := fun h =>
  ∃ o es ep, h.get? a = some o ∧ o.ExactDict ∧ o.data = .dict es ep ∧ es.toList = xs.map (entryOfKey (tupleKind (mixKind P w))) ∧ (xs.map (·.1)).Nodup

/-- a list that nobody writes -/
def SqF (K : PySem.W.Frag) (H : Hp) (a : Addr) (xs : List V) : Prop :=
  (∃ o, H a = some (.frz o (.lst xs))) ∨
    ∃ (o : Obj) (its : Array Value) (n : Nat), K.lookup a = some o ∧ o.cls = .type "list" ∧ o.dict = none ∧ o.data = .seq its n ∧ its.size ≤ sizeLine ∧ Vals xs its.toList
theorem SqF.sq {K : PySem.W.Frag} {H : Hp} {a : Addr} {xs : List V} (h : SqF K H a xs) : SqL K H a xs := by
  rcases h with h | h
  · exact .inl (.inr h)
  · exact .inr h
section
variable (K : PySem.W.Frag) (H : Hp)
mutual
def RD : D → V → Prop
  | .non, v => v = .non
  | .bl b, v => v = .bl b
  | .int i, v => v = .int i
  | .str x, v => v = .str x
  | .byt b, v => v = .byt b
  | .ty n, v => v = .ty n
  | .ref a, v => v = .ref a
  | .tup xs, v => ∃ a vs, v = .ref a ∧ SqT K H a vs ∧ RDs xs vs
  | .rol xs, v => ∃ a vs, v = .ref a ∧ SqF K H a vs ∧ RDs xs vs
def RDs : List D → List V → Prop
  | [], vs => vs = []
  | x :: xs, vs => ∃ v r, vs = v :: r ∧ RD x v ∧ RDs xs r
end
def RKV {κ : Type} : List (κ × D) → List (κ × V) → Prop
  | [], vs => vs = []
  | x :: xs, vs => ∃ v r, vs = (x.1, v) :: r ∧ RD K H x.2 v ∧ RKV xs r
def RKT : List (List Key × D) → List (List Key × Addr × Value) → Prop
  | [], xs => xs = []
  | p :: ps, xs => ∃ q qs, xs = q :: qs ∧ p.1 = q.1 ∧ SqT K H q.2.1 (p.1.map kV) ∧ (∃ v, RD K H p.2 v ∧ RelV v q.2.2) ∧ RKT ps qs
def RO (M : Mo) (a : Addr) : O → Prop
  | .lst xs => ∃ vs, H a = some (.lst vs) ∧ RDs K H xs vs
  | .dK kvs => ∃ us, H a = some (.dK us) ∧ RKV K H kvs us
  | .dT kvs => ∃ xs, H a = some (.ext (dphi M.P M.w a xs)) ∧ kvs.length ≤ sizeLine ∧ (a == sysModules) = false ∧ RKT K H kvs xs
  | .ins c fs => ∃ dx us, H a = some (.ins (M.cA c) dx us) ∧ RKV K H fs us
/-- the memory stands over the heap; the tables of code objects hold -/
structure RM (M : Mo) (m : Mm) : Prop where
  all : ∀ a o, m a = some o → RO K H M a o
  tabs : LamX.Tabs M.tb H
/-- the slots -/
def RE (ρ : List (Option D)) (σ : L2.St) : Prop := ρ.length = σ.length ∧ ∀ (i : Nat) d, ρ[i]? = some (some d) → ∃ v, σ[i]? = some (some v) ∧ RD K H d v
end

instance {K : PySem.W.Frag} {H : Hp} {M : Mo} {m : Mm} : CoeFun (RM K H M m) fun _ => ∀ a o, m a = some o → RO K H M a o := ⟨RM.all⟩
/-- what the step leaves of what is not the memory's; tables of code objects may grow -/
def Stp (m : Mm) (H : Hp) (m' : Mm) (H' : Hp) : Prop := ∀ a o, H a = some o → m a = none → (∀ ps, o ≠ .tbl ps) → H' a = some o ∧ m' a = none
theorem Stp.refl (m : Mm) (H : Hp) : Stp m H m H := fun _ _ h k _ => ⟨h, k⟩
theorem Stp.trans {m m1 m2 : Mm} {H H1 H2 : Hp} (a : Stp m H m1 H1) (b : Stp m1 H1 m2 H2) : Stp m H m2 H2 := fun x o h k n =>
  let ⟨h1, k1⟩ := a x o h k n
  b x o h1 k1 n
/-- an object that may be written: no tuple, no frozen thing, no table, no code object -/
structure Wr (u : HO) (a : Addr) : Prop where
  le : (∀ xs, u ≠ .tup xs) ∧ ∀ ob w, u ≠ .frz ob w
  tb : ∀ ps, u ≠ .tbl ps
  cd : ∀ q, u ≠ LamX.CodeO a q
theorem Wr.lst {xs : List V} {a : Addr} : Wr (.lst xs) a := ⟨⟨fun _ z => (by cases z), fun _ _ z => (by cases z)⟩, fun _ z => (by cases z), fun _ z => by unfold LamX.CodeO at z; cases z⟩
theorem Wr.dK {xs : List (Key × V)} {a : Addr} : Wr (.dK xs) a := ⟨⟨fun _ z => (by cases z), fun _ _ z => (by cases z)⟩, fun _ z => (by cases z), fun _ z => by unfold LamX.CodeO at z; cases z⟩
theorem Wr.ins {c d : Addr} {fs : List (Str × V)} {a : Addr} : Wr (.ins c d fs) a := ⟨⟨fun _ z => (by cases z), fun _ _ z => (by cases z)⟩, fun _ z => (by cases z), fun _ z => by unfold LamX.CodeO at z; cases z⟩
theorem code_at (a : Addr) (q : Str) : ∃ (h : Heap) (oc : Obj) (vs : Array Value) (t : Tok), h.get? a = some oc ∧ oc.data = .fields vs ∧ vs[1]? = some (.str q t) := by
  refine ⟨{ objs := Array.replicate (a + 1) { cls := .none, data := .fields #[.none, .str q 0] } }, { cls := .none, data := .fields #[.none, .str q 0] }, #[.none, .str q 0], 0, ?_, rfl, rfl⟩
  unfold Heap.get?
  rw [show (Array.replicate (a + 1) ({ cls := .none, data := .fields #[.none, .str q 0] } : Obj))[a]? = some { cls := .none, data := .fields #[.none, .str q 0] } from by
    rw [Array.getElem?_replicate, if_pos (Nat.lt_succ_self a)]]
theorem Wr.ext {a : Addr} {phi : Heap → Prop} (hp : ∀ h, phi h → ∃ (o : Obj) (es : Array DictEntry) (ep : Nat), h.get? a = some o ∧ o.data = .dict es ep) : Wr (.ext phi) a := ⟨⟨fun _ z => (by cases z), fun _ _ z => (by cases z)⟩, fun _ z => (by cases z), fun q z => by
  unfold LamX.CodeO at z
  obtain ⟨h, oc, vs, t, e1, e2, e3⟩ := code_at a q
  have e : phi = fun h => ∃ (oc : Obj) (vs : Array Value) (t : Tok), h.get? a = some oc ∧ oc.data = .fields vs ∧ vs[1]? = some (.str q t) := HO.ext.inj z
  obtain ⟨o, es, ep, f1, f2⟩ := hp h (by rw [e]; exact ⟨oc, vs, t, e1, e2, e3⟩)
  rw [e1] at f1; cases f1
  rw [e2] at f2; cases f2⟩
theorem Wr.dphi {a : Addr} {P : Program} {w : World} {xs : List (List Key × Addr × Value)} : Wr (.ext (dphi P w a xs)) a := .ext fun h ⟨o, es, ep, e1, _, e2, _⟩ => ⟨o, es, ep, e1, e2⟩
theorem Wr.dict0 {a : Addr} : Wr (.ext fun h => h.get? a = some { cls := .type "dict", data := .dict #[] }) a := .ext fun h e => ⟨_, _, _, e, rfl⟩
theorem tabs_grow {T : List (Addr × Str)} {H : Hp} {p : Addr} {o : HO} (t : LamX.Tabs T H) (hp : H p = none) : LamX.Tabs T (upd H p o) := t.ext fun b u e => by rw [upd_ne (ne_of_none e hp)]; exact e
theorem tabs_upd {T : List (Addr × Str)} {H : Hp} {p : Addr} {u o : HO} (t : LamX.Tabs T H) (h : H p = some u) (k : Wr u p) : LamX.Tabs T (upd H p o) := fun q hq => by
  obtain ⟨ps, e1, e2, e3⟩ := t q hq
  have n1 : q.1 ≠ p := fun z => by rw [z, h] at e1; exact k.tb _ (Option.some.inj e1)
  refine ⟨ps, by rw [upd_ne n1]; exact e1, e2, fun pos cv hc => ?_⟩
  obtain ⟨c, f1, f2⟩ := e3 pos cv hc
  have n2 : c ≠ p := fun z => by subst z; rw [h] at f2; exact k.cd _ (Option.some.inj f2)
  exact ⟨c, f1, by rw [upd_ne n2]; exact f2⟩
/-- tuples stay -/
def TupLe (K : PySem.W.Frag) (H H' : Hp) : Prop := (∀ a xs, SqT K H a xs → SqT K H' a xs) ∧ ∀ a xs, SqF K H a xs → SqF K H' a xs
theorem TupLe.refl {K : PySem.W.Frag} {H : Hp} : TupLe K H H := ⟨fun _ _ h => h, fun _ _ h => h⟩
theorem RM.notTup {K : PySem.W.Frag} {H : Hp} {M : Mo} {m : Mm} (r : RM K H M m) {a : Addr} {xs : List V} (h : H a = some (.tup xs)) : m a = none := by
  cases e : m a with
  | none => rfl
  | some o =>
    have q := r a o e
    cases o with
    | lst _ => obtain ⟨_, z, _⟩ := q; rw [h] at z; cases z
    | dK _ => obtain ⟨_, z, _⟩ := q; rw [h] at z; cases z
    | dT _ => obtain ⟨_, z, _⟩ := q; rw [h] at z; cases z
    | ins _ _ => obtain ⟨_, _, z, _⟩ := q; rw [h] at z; cases z
theorem RM.notFrz {K : PySem.W.Frag} {H : Hp} {M : Mo} {m : Mm} (r : RM K H M m) {a : Addr} {ob : Obj} {u : HO} (h : H a = some (.frz ob u)) : m a = none := by
  cases e : m a with
  | none => rfl
  | some o =>
    have q := r a o e
    cases o with
    | lst _ => obtain ⟨_, z, _⟩ := q; rw [h] at z; cases z
    | dK _ => obtain ⟨_, z, _⟩ := q; rw [h] at z; cases z
    | dT _ => obtain ⟨_, z, _⟩ := q; rw [h] at z; cases z
    | ins _ _ => obtain ⟨_, _, z, _⟩ := q; rw [h] at z; cases z
theorem RM.notXd {K : PySem.W.Frag} {H : Hp} {M : Mo} {m : Mm} (r : RM K H M m) {a : Addr} {u : List (Str × V)} (h : H a = some (.xd u)) : m a = none := by
  cases e : m a with
  | none => rfl
  | some o =>
    have q := r a o e
    cases o with
    | lst _ => obtain ⟨_, z, _⟩ := q; rw [h] at z; cases z
    | dK _ => obtain ⟨_, z, _⟩ := q; rw [h] at z; cases z
    | dT _ => obtain ⟨_, z, _⟩ := q; rw [h] at z; cases z
    | ins _ _ => obtain ⟨_, _, z, _⟩ := q; rw [h] at z; cases z
theorem Stp.tups {K : PySem.W.Frag} {M : Mo} {m m' : Mm} {H H' : Hp} (s : Stp m H m' H') (r : RM K H M m) : TupLe K H H' := ⟨fun a xs h => by
  rcases h with (h | ⟨o, h⟩) | h
  · exact .inl (.inl (s a _ h (r.notTup h) (fun _ z => by cases z)).1)
  · exact .inl (.inr ⟨o, (s a _ h (r.notFrz h) (fun _ z => by cases z)).1⟩)
  · exact .inr h, fun a xs h => by
  rcases h with ⟨o, h⟩ | h
  · exact .inl ⟨o, (s a _ h (r.notFrz h) (fun _ z => by cases z)).1⟩
  · exact .inr h⟩

section
variable {K : PySem.W.Frag} {H H' : Hp}
mutual
theorem RD.mono (t : TupLe K H H') : ∀ {d : D} {v : V}, RD K H d v → RD K H' d v
  | .non, _, h => by simp only [RD] at h ⊢; exact h
  | .bl _, _, h => by simp only [RD] at h ⊢; exact h
  | .int _, _, h => by simp only [RD] at h ⊢; exact h
  | .str _, _, h => by simp only [RD] at h ⊢; exact h
  | .byt _, _, h => by simp only [RD] at h ⊢; exact h
  | .ty _, _, h => by simp only [RD] at h ⊢; exact h
  | .ref _, _, h => by simp only [RD] at h ⊢; exact h
  | .tup xs, _, h => by
    simp only [RD] at h ⊢
    obtain ⟨a, vs, e, q, r⟩ := h
    exact ⟨a, vs, e, t.1 a vs q, RDs.mono t r⟩
  | .rol xs, _, h => by
    simp only [RD] at h ⊢
    obtain ⟨a, vs, e, q, r⟩ := h
    exact ⟨a, vs, e, t.2 a vs q, RDs.mono t r⟩
theorem RDs.mono (t : TupLe K H H') : ∀ {ds : List D} {vs : List V}, RDs K H ds vs → RDs K H' ds vs
  | [], _, h => by simp only [RDs] at h ⊢; exact h
  | x :: xs, _, h => by
    simp only [RDs] at h ⊢
    obtain ⟨v, r, e, a, b⟩ := h
    exact ⟨v, r, e, RD.mono t a, RDs.mono t b⟩
end
theorem RKV.mono {κ : Type} (t : TupLe K H H') : ∀ {ds : List (κ × D)} {vs : List (κ × V)}, RKV K H ds vs → RKV K H' ds vs
  | [], _, h => by simp only [RKV] at h ⊢; exact h
  | x :: xs, _, h => by
    simp only [RKV] at h ⊢
    obtain ⟨v, r, e, a, b⟩ := h
    exact ⟨v, r, e, RD.mono t a, RKV.mono t b⟩
theorem RKT.mono (t : TupLe K H H') : ∀ {ds : List (List Key × D)} {vs : List (List Key × Addr × Value)}, RKT K H ds vs → RKT K H' ds vs
  | [], _, h => by simp only [RKT] at h ⊢; exact h
  | x :: xs, _, h => by
    simp only [RKT] at h ⊢
    obtain ⟨q, qs, e, a, b, ⟨v, c, d⟩, r⟩ := h
    exact ⟨q, qs, e, a, t.1 _ _ b, ⟨v, c.mono t, d⟩, RKT.mono t r⟩
theorem RE.mono {ρ : List (Option D)} {σ : L2.St} (t : TupLe K H H') (h : RE K H ρ σ) : RE K H' ρ σ := ⟨h.1, fun i d e => let ⟨v, a, b⟩ := h.2 i d e; ⟨v, a, b.mono t⟩⟩
theorem RE.set {ρ : List (Option D)} {σ : L2.St} {d : D} {v : V} (h : RE K H ρ σ) (r : RD K H d v) (i : Nat) : RE K H (ρ.set i (some d)) (σ.set i (some v)) := by
  refine ⟨by simp [h.1], fun j d' e => ?_⟩
  by_cases hj : i = j
  · subst hj
    by_cases hl : i < ρ.length
    · rw [List.getElem?_set_self hl] at e
      cases e
      exact ⟨v, List.getElem?_set_self (by rw [← h.1]; exact hl), r⟩
    · rw [List.getElem?_eq_none (by simpa using hl)] at e; cases e
  · rw [List.getElem?_set_ne hj] at e
    obtain ⟨w, a, b⟩ := h.2 j d' e
    exact ⟨w, by rw [List.getElem?_set_ne hj]; exact a, b⟩
theorem RE.unset {ρ : List (Option D)} {σ : L2.St} (h : RE K H ρ σ) (i : Nat) : RE K H (ρ.set i none) (σ.set i none) := by
  refine ⟨by simp [h.1], fun j d' e => ?_⟩
  by_cases hj : i = j
  · subst hj
    by_cases hl : i < ρ.length
    · rw [List.getElem?_set_self hl] at e; cases e
    · rw [List.getElem?_eq_none (by simpa using hl)] at e; cases e
  · rw [List.getElem?_set_ne hj] at e
    obtain ⟨w, a, b⟩ := h.2 j d' e
    exact ⟨w, by rw [List.getElem?_set_ne hj]; exact a, b⟩
theorem RDs.length : ∀ {ds : List D} {vs : List V}, RDs K H ds vs → ds.length = vs.length
  | [], _, h => by simp only [RDs] at h; rw [h]; rfl
  | x :: xs, _, h => by
    simp only [RDs] at h
    obtain ⟨v, r, e, a, b⟩ := h
    rw [e, List.length_cons, List.length_cons, RDs.length b]
theorem RDs.get : ∀ {ds : List D} {vs : List V} {i : Nat} {v : V}, RDs K H ds vs → vs[i]? = some v → ∃ d, ds[i]? = some d ∧ RD K H d v
  | [], _, i, v, h, e => by simp only [RDs] at h; rw [h] at e; simp at e
  | x :: xs, _, 0, v, h, e => by
    simp only [RDs] at h
    obtain ⟨w, r, e1, a, b⟩ := h
    rw [e1] at e
    simp at e
    subst e
    exact ⟨x, rfl, a⟩
  | x :: xs, _, i + 1, v, h, e => by
    simp only [RDs] at h
    obtain ⟨w, r, e1, a, b⟩ := h
    rw [e1] at e
    exact RDs.get (i := i) b (by simpa using e)
theorem RDs.at : ∀ {ds : List D} {vs : List V} {i : Nat} {d : D}, RDs K H ds vs → ds[i]? = some d → ∃ v, vs[i]? = some v ∧ RD K H d v
  | [], _, i, v, h, e => by simp at e
  | x :: xs, _, 0, v, h, e => by
    simp only [RDs] at h
    obtain ⟨w, r, e1, a, b⟩ := h
    simp at e
    subst e
    exact ⟨w, by rw [e1]; rfl, a⟩
  | x :: xs, _, i + 1, v, h, e => by
    simp only [RDs] at h
    obtain ⟨w, r, e1, a, b⟩ := h
    obtain ⟨z, z1, z2⟩ := RDs.at (i := i) b (by simpa using e)
    exact ⟨z, by rw [e1]; simpa using z1, z2⟩
theorem RDs.append : ∀ {ds es : List D} {vs ws : List V}, RDs K H ds vs → RDs K H es ws → RDs K H (ds ++ es) (vs ++ ws)
  | [], _, _, _, h, q => by simp only [RDs] at h; rw [h]; exact q
  | x :: xs, _, _, _, h, q => by
    simp only [RDs] at h
    obtain ⟨w, r, e1, a, b⟩ := h
    rw [e1]
    show RDs K H (x :: (xs ++ _)) (w :: (r ++ _))
    simp only [RDs]
    exact ⟨w, _, rfl, a, RDs.append b q⟩
theorem RDs.nil : RDs K H [] [] := by simp only [RDs]
theorem RDs.cons {d : D} {v : V} {ds : List D} {vs : List V} (a : RD K H d v) (b : RDs K H ds vs) : RDs K H (d :: ds) (v :: vs) := by
  simp only [RDs]
  exact ⟨v, vs, rfl, a, b⟩
theorem RDs.one {d : D} {v : V} (a : RD K H d v) : RDs K H [d] [v] := .cons a .nil
theorem RDs.set {d : D} {v : V} (q : RD K H d v) : ∀ {ds : List D} {vs : List V} (i : Nat), RDs K H ds vs → RDs K H (ds.set i d) (vs.set i v)
  | [], _, _, h => by simp only [RDs] at h; rw [h]; exact .nil
  | x :: xs, _, 0, h => by
    simp only [RDs] at h
    obtain ⟨w, r, e1, a, b⟩ := h
    rw [e1]
    exact .cons q b
  | x :: xs, _, i + 1, h => by
    simp only [RDs] at h
    obtain ⟨w, r, e1, a, b⟩ := h
    rw [e1]
    exact .cons a (RDs.set q i b)
theorem RDs.drop : ∀ {ds : List D} {vs : List V} (i : Nat), RDs K H ds vs → RDs K H (ds.drop i) (vs.drop i)
  | _, _, 0, h => h
  | [], _, _ + 1, h => by simp only [RDs] at h; rw [h]; exact .nil
  | x :: xs, _, i + 1, h => by
    simp only [RDs] at h
    obtain ⟨w, r, e1, a, b⟩ := h
    rw [e1]
    exact RDs.drop i b
theorem RDs.take : ∀ {ds : List D} {vs : List V} (i : Nat), RDs K H ds vs → RDs K H (ds.take i) (vs.take i)
  | _, _, 0, h => by rw [List.take_zero, List.take_zero]; exact .nil
  | [], _, _ + 1, h => by simp only [RDs] at h; rw [h]; exact .nil
  | x :: xs, _, i + 1, h => by
    simp only [RDs] at h
    obtain ⟨w, r, e1, a, b⟩ := h
    rw [e1]
    exact .cons a (RDs.take i b)
theorem RDs.reverse : ∀ {ds : List D} {vs : List V}, RDs K H ds vs → RDs K H ds.reverse vs.reverse
  | [], _, h => by simp only [RDs] at h; rw [h]; exact .nil
  | x :: xs, _, h => by
    simp only [RDs] at h
    obtain ⟨w, r, e1, a, b⟩ := h
    rw [e1, List.reverse_cons, List.reverse_cons]
    exact (RDs.reverse b).append (.one a)
theorem RDs.eraseIdx : ∀ {ds : List D} {vs : List V} (i : Nat), RDs K H ds vs → RDs K H (ds.eraseIdx i) (vs.eraseIdx i)
  | [], _, _, h => by simp only [RDs] at h; rw [h]; simp; exact .nil
  | x :: xs, _, 0, h => by
    simp only [RDs] at h
    obtain ⟨w, r, e1, a, b⟩ := h
    rw [e1]
    exact b
  | x :: xs, _, i + 1, h => by
    simp only [RDs] at h
    obtain ⟨w, r, e1, a, b⟩ := h
    rw [e1]
    exact .cons a (RDs.eraseIdx i b)
theorem RDs.dropLast {ds : List D} {vs : List V} (h : RDs K H ds vs) : RDs K H ds.dropLast vs.dropLast := by
  rw [List.dropLast_eq_take, List.dropLast_eq_take, h.length]
  exact h.take _
end

section
variable {K : PySem.W.Frag} {H : Hp} {M : Mo} {m : Mm}
/-- a tuple is made: the memory stays -/
theorem tup_le {p : Addr} {o : HO} (hp : H p = none) : TupLe K H (upd H p o) := ⟨fun a xs h => by
  rcases h with (h | ⟨ob, h⟩) | h
  · exact .inl (.inl (by rw [upd_ne (ne_of_none h hp)]; exact h))
  · exact .inl (.inr ⟨ob, by rw [upd_ne (ne_of_none h hp)]; exact h⟩)
  · exact .inr h, fun a xs h => by
  rcases h with ⟨ob, h⟩ | h
  · exact .inl ⟨ob, by rw [upd_ne (ne_of_none h hp)]; exact h⟩
  · exact .inr h⟩
theorem SqL.grow {p : Addr} {o : HO} (hp : H p = none) {a : Addr} {xs : List V} (h : SqL K H a xs) : SqL K (upd H p o) a xs := by
  rcases h with (h | ⟨ob, h⟩) | h
  · exact .inl (.inl (by rw [upd_ne (ne_of_none h hp)]; exact h))
  · exact .inl (.inr ⟨ob, by rw [upd_ne (ne_of_none h hp)]; exact h⟩)
  · exact .inr h
theorem RO.grow {p a : Addr} {o : HO} {u : O} (hp : H p = none) (h : RO K H M a u) : RO K (upd H p o) M a u := by
  cases u with
  | lst xs => obtain ⟨vs, e, r⟩ := h; exact ⟨vs, by rw [upd_ne (ne_of_none e hp)]; exact e, r.mono (tup_le hp)⟩
  | dK xs => obtain ⟨vs, e, r⟩ := h; exact ⟨vs, by rw [upd_ne (ne_of_none e hp)]; exact e, r.mono (tup_le hp)⟩
  | dT xs => obtain ⟨vs, e, z1, z2, r⟩ := h; exact ⟨vs, by rw [upd_ne (ne_of_none e hp)]; exact e, z1, z2, r.mono (tup_le hp)⟩
  | ins c fs => obtain ⟨dx, vs, e, r⟩ := h; exact ⟨dx, vs, by rw [upd_ne (ne_of_none e hp)]; exact e, r.mono (tup_le hp)⟩
theorem RM.grow {p : Addr} {o : HO} (r : RM K H M m) (hp : H p = none) : RM K (upd H p o) M m := ⟨fun a u e => (r a u e).grow hp, tabs_grow r.tabs hp⟩
theorem RM.set {p : Addr} {o : O} (r : RM K H M m) (h : RO K H M p o) : RM K H M (m.set p o) := ⟨fun a u e => by
  by_cases ha : a = p
  · subst ha
    rw [Mm.set_same] at e; cases e
    exact h
  · rw [Mm.set_ne ha] at e
    exact r a u e, r.tabs⟩
theorem Stp.grow {p : Addr} {o : HO} (hp : H p = none) : Stp m H m (upd H p o) := fun a u h k _ => ⟨by rw [upd_ne (ne_of_none h hp)]; exact h, k⟩
theorem Stp.new {p : Addr} {o : HO} {u : O} (hp : H p = none) : Stp m H (m.set p u) (upd H p o) := fun a w h k _ => by
  have ne : a ≠ p := ne_of_none h hp
  exact ⟨by rw [upd_ne ne]; exact h, by rw [Mm.set_ne ne]; exact k⟩
theorem RM.fr {p : Addr} (r : RM K H M m) (hp : H p = none) : Fr m p := by
  unfold Fr
  cases e : m p with
  | none => rfl
  | some o =>
    have q := r p o e
    cases o with
    | lst _ => obtain ⟨_, z, _⟩ := q; rw [hp] at z; cases z
    | dK _ => obtain ⟨_, z, _⟩ := q; rw [hp] at z; cases z
    | dT _ => obtain ⟨_, z, _⟩ := q; rw [hp] at z; cases z
    | ins _ _ => obtain ⟨_, _, z, _⟩ := q; rw [hp] at z; cases z
/-- an object of the memory is written -/
theorem upd_le {p : Addr} {o u : HO} (h : H p = some u) (k : (∀ xs, u ≠ .tup xs) ∧ ∀ ob w, u ≠ .frz ob w) : TupLe K H (upd H p o) := ⟨fun a xs q => by
  rcases q with (q | ⟨ob, q⟩) | q
  · refine .inl (.inl ?_)
    rw [upd_ne (fun z => by subst z; rw [h] at q; cases q; exact k.1 _ rfl)]
    exact q
  · refine .inl (.inr ⟨ob, ?_⟩)
    rw [upd_ne (fun z => by subst z; rw [h] at q; cases q; exact k.2 _ _ rfl)]
    exact q
  · exact .inr q, fun a xs q => by
  rcases q with ⟨ob, q⟩ | q
  · refine .inl ⟨ob, ?_⟩
    rw [upd_ne (fun z => by subst z; rw [h] at q; cases q; exact k.2 _ _ rfl)]
    exact q
  · exact .inr q⟩
theorem SqL.upd_ne' {p a : Addr} {o : HO} {xs : List V} (n : a ≠ p) (h : SqL K H a xs) : SqL K (upd H p o) a xs := by
  rcases h with (h | ⟨ob, h⟩) | h
  · exact .inl (.inl (by rw [upd_ne n]; exact h))
  · exact .inl (.inr ⟨ob, by rw [upd_ne n]; exact h⟩)
  · exact .inr h
theorem RM.write {p : Addr} {u o' : HO} {o : O} (r : RM K H M m) (h : H p = some u) (k : Wr u p) (q : RO K (upd H p o') M p o) : RM K (upd H p o') M (m.set p o) := ⟨fun a w e => by
  by_cases ha : a = p
  · subst ha
    rw [Mm.set_same] at e; cases e
    exact q
  · rw [Mm.set_ne ha] at e
    have z := r a w e
    have t : TupLe K H (upd H p o') := upd_le h k.le
    cases w with
    | lst xs => obtain ⟨vs, e, r⟩ := z; exact ⟨vs, by rw [upd_ne ha]; exact e, r.mono t⟩
    | dK xs => obtain ⟨vs, e, r⟩ := z; exact ⟨vs, by rw [upd_ne ha]; exact e, r.mono t⟩
    | dT xs => obtain ⟨vs, e, z1, z2, r⟩ := z; exact ⟨vs, by rw [upd_ne ha]; exact e, z1, z2, r.mono t⟩
    | ins c fs => obtain ⟨dx, vs, e, r⟩ := z; exact ⟨dx, vs, by rw [upd_ne ha]; exact e, r.mono t⟩, tabs_upd r.tabs h k⟩
theorem Stp.write {p : Addr} {o' : HO} {o u : O} (h : m p = some u) : Stp m H (m.set p o) (upd H p o') := fun a w q z _ => by
  have ne : a ≠ p := fun e => by subst e; rw [h] at z; cases z
  exact ⟨by rw [upd_ne ne]; exact q, by rw [Mm.set_ne ne]; exact z⟩
/-- some of the memory is forgotten -/
def Sub (m0 m : Mm) : Prop := ∀ a o, m0 a = some o → m a = some o
theorem Sub.refl (m : Mm) : Sub m m := fun _ _ h => h
theorem Sub.trans {a b c : Mm} (x : Sub a b) (y : Sub b c) : Sub a c := fun p o h => y p o (x p o h)
theorem RM.sub {m0 : Mm} (r : RM K H M m) (s : Sub m0 m) : RM K H M m0 := ⟨fun a o e => r a o (s a o e), r.tabs⟩
theorem Stp.sub {m0 m1 : Mm} {H0 : Hp} (s : Stp m0 H0 m H) (k : Sub m1 m) : Stp m0 H0 m1 H := fun a o h z n => by
  obtain ⟨h1, z1⟩ := s a o h z n
  refine ⟨h1, ?_⟩
  cases e : m1 a with
  | none => rfl
  | some w => rw [k a w e] at z1; exact z1
theorem Sub.set {m0 : Mm} {p : Addr} {o : O} (h : m0 p = none) (s : Sub m0 m) : Sub m0 (m.set p o) := fun a u e => by
  have ne : a ≠ p := fun z => by subst z; rw [h] at e; cases e
  rw [Mm.set_ne ne]
  exact s a u e
theorem Sub.none {m0 m : Mm} {p : Addr} (s : Sub m0 m) (h : m p = none) : m0 p = none := by
  cases e : m0 p with
  | none => rfl
  | some o => rw [s p o e] at h; cases h
end
end Qz
set_option Elab.async false
set_option linter.all false
set_option maxRecDepth 100000
set_option maxHeartbeats 2000000
namespace Qz
open PySem PySem.Spec PyProof.Rows L2

structure Exn where
  c : Nat
  fs : List (Str × D)
abbrev Ev := List (Option D)
abbrev PX := Exn → Mm → Prop
abbrev PQ := D → Mm → Prop
abbrev Gam := Nat → List D → Mm → PX → PQ → Prop
abbrev WE := Gam → Ev → Mm → PX → PQ → Prop
abbrev WT := Gam → Ev → Mm → PX → (Bool → Mm → Prop) → Prop
abbrev WA := Gam → Ev → Mm → PX → (List D → Mm → Prop) → Prop
structure Post where
  nx : Ev → Mm → Prop
  rt : PQ
  bk : Ev → Mm → Prop
  ct : Ev → Mm → Prop
  xx : Exn → Ev → Mm → Prop
abbrev WS := Gam → Post → Ev → Mm → Prop
abbrev WG := Gam → D → Ev → Mm → (Ev → Mm → Prop) → Prop
abbrev WGs := Gam → List D → Ev → Mm → (Ev → Mm → Prop) → Prop
/-- an operator by values -/
abbrev F2 := D → D → Mm → PQ → Prop
abbrev F1 := D → Mm → PQ → Prop
abbrev FA := List D → Mm → PQ → Prop

/-- an exception stands -/
def RX (K : PySem.W.Frag) (H : Hp) (M : Mo) (x : Exn) (cls : Value) (d : Option Addr) : Prop :=
  cls = .ref (M.cA x.c) ∧ ((d = none ∧ x.fs = []) ∨ ∃ dd us, d = some dd ∧ H dd = some (.xd us) ∧ RKV K H x.fs us)

/-- what a code stands in: the written part, the module, the calls, the wish of exceptions -/
structure Cq where
  K : PySem.W.Frag
  M : Mo
  G : Gam
  W : WX
section
variable (c : Cq)
def Aft (m : Mm) (H : Hp) (m' : Mm) (H' : Hp) : Prop := RM c.K H' c.M m' ∧ Stp m H m' H'
def KQ (m : Mm) (H : Hp) (P : PQ) (Q : VK) : Prop := ∀ d m' v H', RD c.K H' d v → RM c.K H' c.M m' → Stp m H m' H' → P d m' → Q v H'
def KX (m : Mm) (H : Hp) (Z : PX) (σ : L2.St) : Prop := ∀ x m' cls dd H', RX c.K H' c.M x cls dd → RM c.K H' c.M m' → Stp m H m' H' → Z x m' → c.W cls dd σ H'
def tE (w : WE) : TE := fun σ H Q => ∃ ρ m Z P, RE c.K H ρ σ ∧ RM c.K H c.M m ∧ w c.G ρ m Z P ∧ KQ c m H P Q ∧ KX c m H Z σ
def Z0 : PX := fun _ _ => False
theorem KX.zero {m : Mm} {H : Hp} {σ : L2.St} : KX c m H Z0 σ := fun _ _ _ _ _ _ _ _ z => z.elim
def tT (w : WT) : TT := fun σ H Q => ∃ ρ m Z P, RE c.K H ρ σ ∧ RM c.K H c.M m ∧ w c.G ρ m Z P ∧ (∀ b m' H', RM c.K H' c.M m' → Stp m H m' H' → P b m' → Q b H') ∧ KX c m H Z σ
def tA (w : WA) : TA := fun σ H Q => ∃ ρ m Z P, RE c.K H ρ σ ∧ RM c.K H c.M m ∧ w c.G ρ m Z P ∧ (∀ ds m' vs H', RDs c.K H' ds vs → RM c.K H' c.M m' → Stp m H m' H' → P ds m' → Q vs H') ∧ KX c m H Z σ
/-- a step's end of slots and memory -/
def KS (m : Mm) (H : Hp) (P : Ev → Mm → Prop) (Q : L2.St → Hp → Prop) : Prop := ∀ ρ' m' σ' H', RE c.K H' ρ' σ' → RM c.K H' c.M m' → Stp m H m' H' → P ρ' m' → Q σ' H'
def KXS (m : Mm) (H : Hp) (Z : Exn → Ev → Mm → Prop) : Prop := ∀ x ρ' m' cls dd σ' H', RX c.K H' c.M x cls dd → RE c.K H' ρ' σ' → RM c.K H' c.M m' → Stp m H m' H' → Z x ρ' m' → c.W cls dd σ' H'
def KP (m : Mm) (H : Hp) (P : Post) (E : Ends) : Prop := KS c m H P.nx E.nx ∧ KQ c m H P.rt E.rt ∧ KS c m H P.bk E.bk ∧ KS c m H P.ct E.ct ∧ KXS c m H P.xx
def tS (w : WS) : TS := fun E σ H => ∃ ρ m P, RE c.K H ρ σ ∧ RM c.K H c.M m ∧ w c.G P ρ m ∧ KP c m H P E
def tG (w : WG) : TG := fun v σ H Q => ∃ d ρ m P, RD c.K H d v ∧ RE c.K H ρ σ ∧ RM c.K H c.M m ∧ w c.G d ρ m P ∧ KS c m H P Q
def tGs (w : WGs) : TGs := fun vs σ H Q => ∃ ds ρ m P, RDs c.K H ds vs ∧ RE c.K H ρ σ ∧ RM c.K H c.M m ∧ w c.G ds ρ m P ∧ KS c m H P Q
def r2 (f : F2) : R2 := fun x y H Q => ∃ d e m P, RD c.K H d x ∧ RD c.K H e y ∧ RM c.K H c.M m ∧ f d e m P ∧ KQ c m H P Q
def r1 (f : F1) : V → Hp → VK → Prop := fun x H Q => ∃ d m P, RD c.K H d x ∧ RM c.K H c.M m ∧ f d m P ∧ KQ c m H P Q
def rA (f : FA) : List V → Hp → VK → Prop := fun xs H Q => ∃ ds m P, RDs c.K H ds xs ∧ RM c.K H c.M m ∧ f ds m P ∧ KQ c m H P Q
def rM (f : D → List D → Mm → PQ → Prop) : V → List V → Hp → VK → Prop := fun x xs H Q => ∃ d ds m P, RD c.K H d x ∧ RDs c.K H ds xs ∧ RM c.K H c.M m ∧ f d ds m P ∧ KQ c m H P Q
end

section
variable {c : Cq} {m m1 m2 : Mm} {H H1 H2 : Hp} {σ : L2.St} {Z : PX}
/-- a wish behind forgetting -/
def fgt (P : PQ) : PQ := fun d m => ∃ m', Sub m' m ∧ P d m'
theorem KQ.fgt {P : PQ} {Q : VK} (h : KQ c m H P Q) : KQ c m H (Qz.fgt P) Q := fun d m' v H' r rm s ⟨m'', k, p⟩ => h d m'' v H' r (rm.sub k) (s.sub k) p
theorem KX.mono (h : KX c m H Z σ) (s : Stp m H m1 H1) : KX c m1 H1 Z σ := fun x m' cls dd H' a b d e => h x m' cls dd H' a b (s.trans d) e
theorem KQ.mono {P : PQ} {Q : VK} (h : KQ c m H P Q) (s : Stp m H m1 H1) : KQ c m1 H1 P Q := fun x m' v H' a b d e => h x m' v H' a b (s.trans d) e
theorem KS.mono {P : Ev → Mm → Prop} {Q : L2.St → Hp → Prop} (h : KS c m H P Q) (s : Stp m H m1 H1) : KS c m1 H1 P Q := fun x m' v H' a b d e => h x m' v H' a b (s.trans d) e
theorem KXS.mono {Z : Exn → Ev → Mm → Prop} (h : KXS c m H Z) (s : Stp m H m1 H1) : KXS c m1 H1 Z := fun x r m' cls dd σ' H' a b d e => h x r m' cls dd σ' H' a b d (s.trans e)
theorem KP.mono {P : Post} {E : Ends} (h : KP c m H P E) (s : Stp m H m1 H1) : KP c m1 H1 P E := ⟨h.1.mono s, h.2.1.mono s, h.2.2.1.mono s, h.2.2.2.1.mono s, h.2.2.2.2.mono s⟩
theorem KXS.at {Z : Exn → Ev → Mm → Prop} {ρ : Ev} (h : KXS c m H Z) (re : RE c.K H ρ σ) (rm : RM c.K H c.M m) : KX c m H (fun x m' => Z x ρ m') σ := fun x m' cls dd H' a b d e =>
  h x ρ m' cls dd σ H' a (re.mono (d.tups rm)) b d e
theorem KQ.now {P : PQ} {Q : VK} (h : KQ c m H P Q) (rm : RM c.K H c.M m) {d : D} {v : V} (r : RD c.K H d v) (p : P d m) : Q v H := h d m v H r rm (.refl _ _) p
/-- a new object of the memory -/
theorem KQ.new {P : PQ} {Q : VK} (h : KQ c m H P Q) (rm : RM c.K H c.M m) {p : Addr} {o : O} {u : HO} (hp : H p = none) (ro : RO c.K (upd H p u) c.M p o) (q : ∀ p, Fr m p → P (.ref p) (m.set p o)) : Q (.ref p) (upd H p u) :=
  h (.ref p) (m.set p o) (.ref p) _ (by simp only [RD]) ((rm.grow hp).set ro) (.new hp) (q p (rm.fr hp))
/-- a new tuple -/
theorem KQ.tup {P : PQ} {Q : VK} (h : KQ c m H P Q) (rm : RM c.K H c.M m) {p : Addr} {ds : List D} {vs : List V} (hp : H p = none) (r : RDs c.K H ds vs) (q : P (.tup ds) m) : Q (.ref p) (upd H p (.tup vs)) :=
  h (.tup ds) m (.ref p) _ (by simp only [RD]; exact ⟨p, vs, rfl, .of upd_same, r.mono (tup_le hp)⟩) (rm.grow hp) (.grow hp) q
theorem PE.imp {X : Cx} {e : Expr} {t t' : TE} (h : PE X e t) (k : ∀ σ H Q, t' σ H Q → t σ H Q) : PE X e t' := ⟨fun pins s σ H Q I q => h.run pins s σ H Q I (k σ H Q q)⟩
theorem PT.imp {X : Cx} {e : Expr} {t t' : TT} (h : PT X e t) (k : ∀ σ H Q, t' σ H Q → t σ H Q) : PT X e t' := ⟨fun pins s σ H Q I q => h.run pins s σ H Q I (k σ H Q q)⟩
theorem PW.imp {X : Cx} {e : Expr} {t t' : TT} (h : PW X e t) (k : ∀ σ H Q, t' σ H Q → t σ H Q) : PW X e t' := ⟨fun wh pins s σ H Q I q => h.run wh pins s σ H Q I (k σ H Q q)⟩
theorem PA.imp {X : Cx} {e : List Expr} {t t' : TA} (h : PA X e t) (k : ∀ σ H Q, t' σ H Q → t σ H Q) : PA X e t' := ⟨fun pos pins s σ H Q I q => h.run pos pins s σ H Q I (k σ H Q q)⟩
theorem PS.imp {X : Cx} {e : Stmt} {t t' : TS} (h : PS X e t) (k : ∀ E σ H, t' E σ H → t E σ H) : PS X e t' := ⟨fun pins s σ H Q I q => h.run pins s σ H Q I (k Q σ H q)⟩
theorem PSs.imp {X : Cx} {e : List Stmt} {t t' : TS} (h : PSs X e t) (k : ∀ E σ H, t' E σ H → t E σ H) : PSs X e t' := ⟨fun pins s σ H Q I q => h.run pins s σ H Q I (k Q σ H q)⟩
theorem PG.imp {X : Cx} {e : Expr} {t t' : TG} (h : PG X e t) (k : ∀ v σ H Q, t' v σ H Q → t v σ H Q) : PG X e t' := ⟨fun pins s σ H v u Q I r q => h.run pins s σ H v u Q I r (k v σ H Q q)⟩
theorem PGs.imp {X : Cx} {e : List Expr} {t t' : TGs} (h : PGs X e t) (k : ∀ v σ H Q, t' v σ H Q → t v σ H Q) : PGs X e t' := ⟨fun pins s σ H v u Q I r q => h.run pins s σ H v u Q I r (k v σ H Q q)⟩
theorem OpR.imp {X : Cx} {f : Value → Value → Sem Value} {r r' : R2} (h : OpR X f r) (k : ∀ x y H Q, r' x y H Q → r x y H Q) : OpR X f r' := fun pins s σ H x y u w Q I a b q => h pins s σ H x y u w Q I a b (k x y H Q q)
theorem CallR.imp {X : Cx} {f : Value} {r r' : List V → Hp → VK → Prop} (h : CallR X f r) (k : ∀ x H Q, r' x H Q → r x H Q) : CallR X f r' := fun pins s σ H xs us Q I a q => h pins s σ H xs us Q I a (k xs H Q q)
theorem MtR.imp {X : Cx} {id : String} {r r' : V → List V → Hp → VK → Prop} (h : MtR X id r) (k : ∀ x xs H Q, r' x xs H Q → r x xs H Q) : MtR X id r' := fun pins s σ H x xs v us Q I a b q => h pins s σ H x xs v us Q I a b (k x xs H Q q)
theorem UnR.imp {X : Cx} {f : Value → Sem Value} {r r' : V → Hp → VK → Prop} (h : UnR X f r) (k : ∀ x H Q, r' x H Q → r x H Q) : UnR X f r' := fun pins s σ H x u Q I a q => h pins s σ H x u Q I a (k x H Q q)
end

def nth : Ev → Nat → Option D
  | [], _ => none
  | d :: _, 0 => d
  | _ :: r, i + 1 => nth r i
def sto : Ev → Nat → Option D → Ev
  | [], _, _ => []
  | _ :: r, 0, v => v :: r
  | d :: r, i + 1, v => d :: sto r i v
theorem nth_eq : ∀ {ρ : Ev} {i : Nat} {d : D}, nth ρ i = some d → ρ[i]? = some (some d)
  | [], _, _, h => by cases h
  | x :: r, 0, d, h => by
    have h1 : x = some d := h
    rw [h1]; rfl
  | x :: r, i + 1, d, h => by
    have h1 : nth r i = some d := h
    simpa using nth_eq h1
theorem sto_eq : ∀ {ρ : Ev} {i : Nat} {v : Option D}, sto ρ i v = ρ.set i v
  | [], _, _ => rfl
  | x :: r, 0, v => rfl
  | x :: r, i + 1, v => by
    show x :: sto r i v = x :: r.set i v
    rw [sto_eq]

def wVar (i : Nat) : WE := fun _ ρ m _ P => match nth ρ i with
  | some d => P d m
  | none => False
def wC (d : D) : WE := fun _ _ m _ P => P d m
def wBin (f : F2) (a b : WE) : WE := fun G ρ m Z P => a G ρ m Z fun x m1 => b G ρ m1 Z fun y m2 => f x y m2 (fgt P)
def wUn (f : F1) (a : WE) : WE := fun G ρ m Z P => a G ρ m Z fun x m1 => f x m1 (fgt P)
def wNil : WA := fun _ _ m _ P => P [] m
def wCons (a : WE) (r : WA) : WA := fun G ρ m Z P => a G ρ m Z fun x m1 => r G ρ m1 Z fun xs m2 => P (x :: xs) m2
def wTup (a : WA) : WE := fun G ρ m Z P => a G ρ m Z fun xs m1 => xs.length ≤ sizeLine ∧ P (.tup xs) m1
def wLst (a : WA) : WE := fun G ρ m Z P => a G ρ m Z fun xs m1 => xs.length ≤ sizeLine ∧ ∀ p, Fr m1 p → P (.ref p) (m1.set p (.lst xs))
def wCB (f : FA) (a : WA) : WE := fun G ρ m Z P => a G ρ m Z fun xs m1 => f xs m1 (fgt P)
/-- of that built-in type -/
def tyM (m : Mm) (T : String) : D → Prop
  | .str _ => T = "str"
  | .int _ => T = "int"
  | .ref a => (T = "list" ∧ ∃ xs, m a = some (.lst xs)) ∨ (T = "dict" ∧ ((∃ kvs, m a = some (.dK kvs)) ∨ ∃ kvs, m a = some (.dT kvs)))
  | _ => False
def wBM (T : String) (f : D → List D → Mm → PQ → Prop) (o : WE) (a : WA) : WE := fun G ρ m Z P => o G ρ m Z fun x m1 => tyM m1 T x ∧ a G ρ m1 Z fun xs m2 => f x xs m2 (fgt P)
def wCall (f : Nat) (a : WA) : WE := fun G ρ m Z P => a G ρ m Z fun xs m1 => G f xs m1 Z P
def wIf (t : WT) (a b : WE) : WE := fun G ρ m Z P => t G ρ m Z fun k m1 => (k = true → a G ρ m1 Z P) ∧ (k = false → b G ρ m1 Z P)
/-- tests -/
def wTst (a : WE) : WT := fun G ρ m Z P => a G ρ m Z fun x m1 => match x with
  | .bl k => P k m1
  | _ => False
def wAnd (a b : WT) : WT := fun G ρ m Z P => a G ρ m Z fun k m1 => (k = true → b G ρ m1 Z P) ∧ (k = false → P false m1)
def wOr (a b : WT) : WT := fun G ρ m Z P => a G ρ m Z fun k m1 => (k = true → P true m1) ∧ (k = false → b G ρ m1 Z P)
def wNot (a : WT) : WT := fun G ρ m Z P => a G ρ m Z fun k m1 => P (!k) m1

section
variable {X : Cx} {c : Cq} {e a b d : Expr} {es : List Expr} {pos : Pos}
theorem qe_var {i : Nat} {x : Str} (hN : X.N[i]? = some x) (hv : Vis X.env.scope x) (hd : (x == ("__debug__" : Str)) = false) (hcd : (x == ("__classdict__" : Str)) = false) : PE X (.Name x pos) (tE c (wVar i)) :=
  PE.imp (pe_var hN hv hd hcd) fun σ H Q ⟨ρ, m, Z, P, re, rm, h, kq, kx⟩ => by
    unfold wVar at h
    split at h
    · rename_i d e
      obtain ⟨v, e1, r⟩ := re.2 i d (nth_eq e)
      exact ⟨v, e1, kq.now rm r h⟩
    · exact h.elim
theorem qe_c {e : Expr} {d : D} {v : V} (h : PE X e (tC v)) (r : ∀ H, RD c.K H d v) : PE X e (tE c (wC d)) :=
  PE.imp h fun σ H Q ⟨ρ, m, Z, P, re, rm, h, kq, kx⟩ => kq.now rm (r H) h
theorem qe_bin {op : Operator} {f : F2} {wa wb : WE} (ho : OpR X (binaryOp op) (r2 c f)) (ha : PE X a (tE c wa)) (hb : PE X b (tE c wb)) : PE X (.BinOp a op b pos) (tE c (wBin f wa wb)) :=
  PE.imp (pe_op ho ha hb) fun σ H Q ⟨ρ, m, Z, P, re, rm, h, kq, kx⟩ => by
    refine ⟨ρ, m, Z, _, re, rm, h, fun x m1 vx H1 rx rm1 s1 h1 => ⟨ρ, m1, Z, _, re.mono (s1.tups rm), rm1, h1, fun y m2 vy H2 ry rm2 s2 h2 => ⟨x, y, m2, _, rx.mono (s2.tups rm1), ry, rm2, h2, (kq.mono (s1.trans s2)).fgt⟩, kx.mono s1⟩, kx⟩
theorem qe_cmp {op : CmpOp} {f : F2} {wa wb : WE} (ho : OpR X (compareOp op) (r2 c f)) (ha : PE X a (tE c wa)) (hb : PE X b (tE c wb)) (hm : behindInMarks op b = false) : PE X (.Compare a [op] [b] pos) (tE c (wBin f wa wb)) :=
  PE.imp (pe_cmpR ho ha hb hm) fun σ H Q ⟨ρ, m, Z, P, re, rm, h, kq, kx⟩ => by
    refine ⟨ρ, m, Z, _, re, rm, h, fun x m1 vx H1 rx rm1 s1 h1 => ⟨ρ, m1, Z, _, re.mono (s1.tups rm), rm1, h1, fun y m2 vy H2 ry rm2 s2 h2 => ⟨x, y, m2, _, rx.mono (s2.tups rm1), ry, rm2, h2, (kq.mono (s1.trans s2)).fgt⟩, kx.mono s1⟩, kx⟩
theorem qe_un {op : UnaryOp} {f : F1} {wa : WE} (ho : UnR X (unaryOp op) (r1 c f)) (ha : PE X a (tE c wa)) : PE X (.UnaryOp op a pos) (tE c (wUn f wa)) :=
  PE.imp (pe_un ho ha) fun σ H Q ⟨ρ, m, Z, P, re, rm, h, kq, kx⟩ => ⟨ρ, m, Z, _, re, rm, h, fun x m1 vx H1 rx rm1 s1 h1 => ⟨x, m1, _, rx, rm1, h1, (kq.mono s1).fgt⟩, kx⟩
theorem qa_nil : PA X [] (tA c wNil) := PA.imp pa_nil fun σ H Q ⟨ρ, m, Z, P, re, rm, h, kq, kx⟩ => kq [] m [] H .nil rm (.refl _ _) h
theorem qa_cons {wa : WE} {wr : WA} (ha : PE X e (tE c wa)) (hr : PA X es (tA c wr)) (hs : starEach (e :: es) X.env = (false, eval e X.env) :: starEach es X.env) : PA X (e :: es) (tA c (wCons wa wr)) :=
  PA.imp (pa_cons ha hr hs) fun σ H Q ⟨ρ, m, Z, P, re, rm, h, kq, kx⟩ => by
    refine ⟨ρ, m, Z, _, re, rm, h, fun x m1 vx H1 rx rm1 s1 h1 => ⟨ρ, m1, Z, _, re.mono (s1.tups rm), rm1, h1, fun ys m2 vy H2 ry rm2 s2 h2 => kq _ m2 _ H2 (.cons (rx.mono (s2.tups rm1)) ry) rm2 (s1.trans s2) h2, kx.mono s1⟩, kx⟩
theorem qe_tup {k : Nat} {wa : WA} (ha : PA X es (tA c wa)) : PE X (.Tuple es k pos) (tE c (wTup wa)) :=
  PE.imp (pe_tup ha) fun σ H Q ⟨ρ, m, Z, P, re, rm, h, kq, kx⟩ => by
    refine ⟨ρ, m, Z, _, re, rm, h, fun xs m1 vs H1 rx rm1 s1 h1 => ?_, kx⟩
    obtain ⟨h0, h1⟩ := h1
    exact ⟨by rw [← rx.length]; exact h0, fun p hp => (kq.mono s1).tup rm1 hp rx h1⟩
theorem qe_lst {wa : WA} (ha : PA X es (tA c wa)) : PE X (.List es pos) (tE c (wLst wa)) :=
  PE.imp (pe_lst ha) fun σ H Q ⟨ρ, m, Z, P, re, rm, h, kq, kx⟩ => by
    refine ⟨ρ, m, Z, _, re, rm, h, fun xs m1 vs H1 rx rm1 s1 h1 => ?_, kx⟩
    obtain ⟨h0, h1⟩ := h1
    exact ⟨by rw [← rx.length]; exact h0, fun p hp => (kq.mono s1).new (o := .lst xs) rm1 hp ⟨vs, upd_same, rx.mono (tup_le hp)⟩ h1⟩
theorem qe_ifx {t : Expr} {wt : WT} {wa wb : WE} (ht : PT X t (tT c wt)) (ha : PE X a (tE c wa)) (hb : PE X b (tE c wb)) : PE X (.IfExp t a b pos) (tE c (wIf wt wa wb)) :=
  PE.imp (pe_ifExp ht ha hb) fun σ H Q ⟨ρ, m, Z, P, re, rm, h, kq, kx⟩ => by
    refine ⟨ρ, m, Z, _, re, rm, h, fun k m1 H1 rm1 s1 h1 => ?_, kx⟩
    cases k with
    | true => exact iteT ⟨ρ, m1, Z, _, re.mono (s1.tups rm), rm1, h1.1 rfl, kq.mono s1, kx.mono s1⟩
    | false => exact iteF ⟨ρ, m1, Z, _, re.mono (s1.tups rm), rm1, h1.2 rfl, kq.mono s1, kx.mono s1⟩
theorem qe_callB {f : FA} {x : Str} {p : Pos} {id : String} {wa : WA} (hc : CallR X (.builtin id) (rA c f)) (hg : Gl X x) (hm : X.mg x = none) (hv : bootBuiltins x = some (.builtin id)) (ha : PA X (e :: es) (tA c wa)) (hn : x ≠ "__name__" := by decide) (hdb : (x == ("__debug__" : Str)) = false := by decide)
    (he : starEach (e :: es) X.env = (false, eval e X.env) :: starEach es X.env := by rfl) (hpl : (backTo pos (starEach es X.env)).any (·.1) = false := by rfl) : PE X (.Call (.Name x p) (e :: es) [] pos) (tE c (wCB f wa)) :=
  PE.imp (pe_callB hc hg hm hv ha hn hdb he hpl) fun σ H Q ⟨ρ, m, Z, P, re, rm, h, kq, kx⟩ =>
    ⟨ρ, m, Z, _, re, rm, h, fun xs m1 vs H1 rx rm1 s1 h1 => ⟨xs, m1, _, rx, rm1, h1, (kq.mono s1).fgt⟩, kx⟩
theorem qe_callTy {f : FA} {x : Str} {p : Pos} {T : String} {wa : WA} (hc : CallR X (.type T) (rA c f)) (hg : Gl X x) (hm : X.mg x = none) (hv : bootBuiltins x = some (.type T)) (ha : PA X (e :: es) (tA c wa)) (hn : x ≠ "__name__" := by decide) (hdb : (x == ("__debug__" : Str)) = false := by decide)
    (he : starEach (e :: es) X.env = (false, eval e X.env) :: starEach es X.env := by rfl) (hpl : (backTo pos (starEach es X.env)).any (·.1) = false := by rfl) : PE X (.Call (.Name x p) (e :: es) [] pos) (tE c (wCB f wa)) :=
  PE.imp (pe_callTy hc hg hm hv ha hn hdb he hpl) fun σ H Q ⟨ρ, m, Z, P, re, rm, h, kq, kx⟩ =>
    ⟨ρ, m, Z, _, re, rm, h, fun xs m1 vs H1 rx rm1 s1 h1 => ⟨xs, m1, _, rx, rm1, h1, (kq.mono s1).fgt⟩, kx⟩
theorem tyM_is {pins : List (Addr × Obj)} {σ : L2.St} {H : Hp} {s : Shared} {T : String} {x : D} {z : V} {v : Value} {m : Mm} (I : Inv X pins σ H s) (rm : RM X.K H c.M m) (rx : RD X.K H x z) (r : RelV z v) (ty : tyM m T x) :
    s.TypeIs v T ∧ ∀ a, v = .ref a → ∃ ob, s.heap.get? a = some ob ∧ ob.dict = none := by
  cases x with
  | str y => simp only [RD] at rx; subst rx; exact tyV_is I r (show tyV X.K T (.str y) H from ty)
  | int y => simp only [RD] at rx; subst rx; exact tyV_is I r (show tyV X.K T (.int y) H from ty)
  | ref p =>
    simp only [RD] at rx
    subst rx
    rcases ty with ⟨rfl, xs, e⟩ | ⟨rfl, ⟨kvs, e⟩ | ⟨kvs, e⟩⟩
    · obtain ⟨vs, q, _⟩ := rm p _ e
      exact tyV_is I r (show tyV X.K "list" (.ref p) H from .inl ⟨rfl, vs, .of q⟩)
    · obtain ⟨vs, q, _⟩ := rm p _ e
      exact tyV_is I r (show tyV X.K "dict" (.ref p) H from .inr (.inr (.inl ⟨rfl, .inl ⟨vs, q⟩⟩)))
    · obtain ⟨vs, q, _⟩ := rm p _ e
      cases (show v = Value.ref p from r)
      obtain ⟨⟨o, es, ep, h1, h2, h3, h4, h5⟩, _⟩ := I.hok p _ q
      refine ⟨⟨o, h1, h2.1⟩, fun a e2 => ?_⟩
      cases e2
      exact ⟨o, h1, h2.2.1⟩
  | _ => exact ty.elim
theorem qe_bm {f : D → List D → Mm → PQ → Prop} {o : Expr} {wo : WE} {wa : WA} {name : Str} {apos cpos : Pos} {T id : String} (hX : X.K = c.K) (pa : PlainAttrs T) (slot : Slot T name id) (hty : typeOf (.builtin id) = pure (.type "method_descriptor")) (hm : MtR X id (rM c f)) (ho : PE X o (tE c wo)) (ha : PA X (e :: es) (tA c wa))
    (hbase : attributeBase o name X.env (eval o X.env) = eval o X.env := by rfl)
    (hfew : ((backTo cpos (starEach (e :: es) X.env)).all (fun x => !x.1) && (backToKw cpos (keywordEach [] X.env)).all (fun x => x.1.isSome)
      && decide ((e :: es).length + ([] : List Keyword).length + (if ([] : List Keyword).isEmpty then 0 else 1) < 30)) = true := by rfl)
    (hline : (apos.endLine == cpos.line) = true := by rfl) (hs : starEach (e :: es) X.env = (false, eval e X.env) :: starEach es X.env := by rfl) (hplain : (backTo cpos (starEach es X.env)).any (·.1) = false := by rfl) :
    PE X (.Call (.Attribute o name apos) (e :: es) [] cpos) (tE c (wBM T f wo wa)) := by
  refine ⟨fun pins s σ H Q I ⟨ρ, m, Z, P, re, rm, h, kq, kx⟩ => ?_⟩
  refine wpAny_Call_method_late hbase hfew hline rfl (thn (ho.run pins s σ H (fun v H1 => ∃ x m1, RD c.K H1 x v ∧ RM c.K H1 c.M m1 ∧ Stp m H m1 H1 ∧ tyM m1 T x ∧ wa c.G ρ m1 Z fun xs m2 => f x xs m2 (fgt P)) I ⟨ρ, m, Z, _, re, rm, h, fun d m1 v H1 r1 rm1 s1 h1 => ⟨d, m1, r1, rm1, s1, h1⟩, kx⟩) fun v s1 ⟨y, H1, I1, r1, x, m1, rx, rm1, st1, ty, q1⟩ => ?_)
  obtain ⟨h1, h2⟩ := tyM_is (c := c) I1 (hX ▸ rm1) (hX ▸ rx) r1 ty
  refine ⟨T, id, pa, slot, hty, h1, h2, ?_⟩
  have hA := ha.run cpos pins s1 σ H1 (fun vs H2 => rM c f y vs H2 Q) I1 ⟨ρ, m1, Z, _, re.mono (st1.tups rm), rm1, q1, fun xs m2 vs H2 rxs rm2 st2 hf => ⟨x, xs, m2, _, rx.mono (st2.tups rm1), rxs, rm2, hf, (kq.mono (st1.trans st2)).fgt⟩, kx.mono st1⟩
  rw [hs] at hA ⊢
  refine Calls.callWith_builtin (by show (false || (backTo cpos (starEach es X.env)).any (·.1)) = false; rw [hplain] <;> rfl) (Calls.evalArgs_plain ?_)
  exact thn hA fun us s2 ⟨vs, H2, I2, r2, q2⟩ => hm pins s2 σ H2 y vs v us Q I2 r1 r2 q2
theorem qe_bm0 {f : D → List D → Mm → PQ → Prop} {o : Expr} {wo : WE} {name : Str} {apos cpos : Pos} {T id : String} (hX : X.K = c.K) (pa : PlainAttrs T) (slot : Slot T name id) (hty : typeOf (.builtin id) = pure (.type "method_descriptor")) (hm : MtR X id (rM c f)) (ho : PE X o (tE c wo))
    (hbase : attributeBase o name X.env (eval o X.env) = eval o X.env := by rfl) (hline : (apos.endLine == cpos.line) = true := by rfl) : PE X (.Call (.Attribute o name apos) [] [] cpos) (tE c (wBM T f wo wNil)) := by
  refine ⟨fun pins s σ H Q I ⟨ρ, m, Z, P, re, rm, h, kq, kx⟩ => ?_⟩
  refine wpAny_Call_method0_late hbase hline (thn (ho.run pins s σ H (fun v H1 => ∃ x m1, RD c.K H1 x v ∧ RM c.K H1 c.M m1 ∧ Stp m H m1 H1 ∧ tyM m1 T x ∧ f x [] m1 (fgt P)) I ⟨ρ, m, Z, _, re, rm, h, fun d m1 v H1 r1 rm1 s1 h1 => ⟨d, m1, r1, rm1, s1, h1⟩, kx⟩) fun v s1 ⟨y, H1, I1, r1, x, m1, rx, rm1, st1, ty, q1⟩ => ?_)
  obtain ⟨h1, h2⟩ := tyM_is (c := c) I1 (hX ▸ rm1) (hX ▸ rx) r1 ty
  exact ⟨T, id, pa, slot, hty, h1, h2, Calls.callWith_builtin rfl (PySem.evalArgs_none (hm pins s1 σ H1 y [] v [] Q I1 r1 .nil ⟨x, [], m1, _, rx, .nil, rm1, q1, (kq.mono st1).fgt⟩))⟩
theorem qt_val {wa : WE} (ha : PE X e (tE c wa)) (he : ∀ whole, isTrue e X.env whole = (do let v ← whole; standAt e.pos; holding [v] (truthy v))) : PT X e (tT c (wTst wa)) :=
  PT.imp (pt_val ha he) fun σ H Q ⟨ρ, m, Z, P, re, rm, h, kq, kx⟩ => by
    refine ⟨ρ, m, Z, _, re, rm, h, fun x m1 vx H1 rx rm1 s1 h1 => ?_, kx⟩
    cases x with
    | bl k => simp only [RD] at rx; exact ⟨k, rx, kq k m1 H1 rm1 s1 h1⟩
    | _ => exact h1.elim
theorem qt_cmp {op : CmpOp} {f : F2} {wa wb : WE} (ho : OpR X (compareOp op) (r2 c f)) (ha : PE X a (tE c wa)) (hb : PE X b (tE c wb)) (hm : behindInMarks op b = false) : PT X (.Compare a [op] [b] pos) (tT c (wTst (wBin f wa wb))) :=
  PT.imp (pt_cmpR ho ha hb hm) fun σ H Q ⟨ρ, m, Z, P, re, rm, h, kq, kx⟩ => by
    refine ⟨ρ, m, Z, _, re, rm, h, fun x m1 vx H1 rx rm1 s1 h1 => ⟨ρ, m1, Z, _, re.mono (s1.tups rm), rm1, h1, fun y m2 vy H2 ry rm2 s2 h2 => ⟨x, y, m2, _, rx.mono (s2.tups rm1), ry, rm2, h2, fun z m3 vz H3 rz rm3 s3 ⟨m4, k4, h3⟩ => ?_⟩, kx.mono s1⟩, kx⟩
    cases z with
    | bl k => simp only [RD] at rz; exact ⟨k, rz, kq k m4 H3 (rm3.sub k4) (((s1.trans s2).trans s3).sub k4) h3⟩
    | _ => exact h3.elim
theorem qw_and1 {wa : WT} (ha : PT X a (tT c wa)) : PW X (.BoolOp .And [a] pos) (tT c wa) := pw_and1 ha
theorem qw_or1 {wa : WT} (ha : PT X a (tT c wa)) : PW X (.BoolOp .Or [a] pos) (tT c wa) := pw_or1 ha
theorem qw_and {wa wb : WT} (ha : PT X a (tT c wa)) (hb : PW X (.BoolOp .And (b :: es) pos) (tT c wb)) : PW X (.BoolOp .And (a :: b :: es) pos) (tT c (wAnd wa wb)) :=
  PW.imp (pw_and ha hb) fun σ H Q ⟨ρ, m, Z, P, re, rm, h, kq, kx⟩ => by
    refine ⟨ρ, m, Z, _, re, rm, h, fun k m1 H1 rm1 s1 h1 => ?_, kx⟩
    cases k with
    | true => exact iteT ⟨ρ, m1, Z, _, re.mono (s1.tups rm), rm1, h1.1 rfl, fun b m2 H2 rm2 s2 h2 => kq b m2 H2 rm2 (s1.trans s2) h2, kx.mono s1⟩
    | false => exact iteF (kq false m1 H1 rm1 s1 (h1.2 rfl))
theorem qw_or {wa wb : WT} (ha : PT X a (tT c wa)) (hb : PW X (.BoolOp .Or (b :: es) pos) (tT c wb)) : PW X (.BoolOp .Or (a :: b :: es) pos) (tT c (wOr wa wb)) :=
  PW.imp (pw_or ha hb) fun σ H Q ⟨ρ, m, Z, P, re, rm, h, kq, kx⟩ => by
    refine ⟨ρ, m, Z, _, re, rm, h, fun k m1 H1 rm1 s1 h1 => ?_, kx⟩
    cases k with
    | true => exact iteT (kq true m1 H1 rm1 s1 (h1.1 rfl))
    | false => exact iteF ⟨ρ, m1, Z, _, re.mono (s1.tups rm), rm1, h1.2 rfl, fun b m2 H2 rm2 s2 h2 => kq b m2 H2 rm2 (s1.trans s2) h2, kx.mono s1⟩
theorem qt_not {wa : WT} (ha : PT X a (tT c wa)) : PT X (.UnaryOp .Not a pos) (tT c (wNot wa)) :=
  PT.imp (pt_not ha) fun σ H Q ⟨ρ, m, Z, P, re, rm, h, kq, kx⟩ => ⟨ρ, m, Z, _, re, rm, h, fun k m1 H1 rm1 s1 h1 => kq (!k) m1 H1 rm1 s1 h1, kx⟩
end
end Qz
set_option Elab.async false
set_option linter.all false
set_option maxRecDepth 100000
set_option maxHeartbeats 2000000
namespace Qz
open PySem PySem.Spec PyProof.Rows L2

abbrev cq (X : Cx) (M : Mo) (G : Gam) (W : WX) : Cq := ⟨X.K, M, G, W⟩

def wSeq (s t : WS) : WS := fun G P ρ m => s G { P with nx := fun ρ m => ∃ m', Sub m' m ∧ t G P ρ m' } ρ m
def wNext : WS := fun _ P ρ m => P.nx ρ m
def wBreak : WS := fun _ P ρ m => P.bk ρ m
def wCont : WS := fun _ P ρ m => P.ct ρ m
def wExpr (e : WE) : WS := fun G P ρ m => e G ρ m (fun x m' => P.xx x ρ m') fun _ m' => P.nx ρ m'
def wRet (e : WE) : WS := fun G P ρ m => e G ρ m (fun x m' => P.xx x ρ m') P.rt
def wRetN : WS := fun _ P _ m => P.rt .non m
def wIfS (t : WT) (a b : WS) : WS := fun G P ρ m => t G ρ m (fun x m' => P.xx x ρ m') fun k m1 => (k = true → a G P ρ m1) ∧ (k = false → b G P ρ m1)
def wAsg (e : WE) (g : WG) : WS := fun G P ρ m => e G ρ m (fun x m' => P.xx x ρ m') fun d m1 => g G d ρ m1 P.nx
def wPar (i j : Nat) (a : WA) : WS := fun G P ρ m => a G ρ m (fun x m' => P.xx x ρ m') fun ds m1 => match ds with
  | [v, w] => P.nx (sto (sto ρ i (some v)) j (some w)) m1
  | _ => False
def wAug (i : Nat) (f : F2) (e : WE) : WS := fun G P ρ m => match nth ρ i with
  | some x => e G ρ m (fun x m' => P.xx x ρ m') fun y m1 => f x y m1 fun z m2 => P.nx (sto ρ i (some z)) m2
  | none => False
def wWhile (t : WT) (b : WS) : WS := fun G P ρ m => ∃ I : Nat → Ev → Mm → Prop, (∃ n, I n ρ m) ∧ ∀ n ρ m, I n ρ m → t G ρ m (fun x m' => P.xx x ρ m') fun k m1 =>
  (k = true → b G { P with nx := fun ρ m => ∃ n', n' < n ∧ I n' ρ m, ct := fun ρ m => ∃ n', n' < n ∧ I n' ρ m, bk := P.nx } ρ m1) ∧ (k = false → P.nx ρ m1)
/-- what is walked: the items, and what the memory must bear at each turn -/
structure Wk where
  its : List D
  ok : Mm → Prop
abbrev WI := Gam → Ev → Mm → PX → (Wk → Mm → Prop) → Prop
def wFor (wi : WI) (g : WG) (b : WS) : WS := fun G P ρ m => wi G ρ m (fun x m' => P.xx x ρ m') fun wk m1 => ∃ I : Nat → Ev → Mm → Prop, I 0 ρ m1 ∧ ∀ i ρ m, I i ρ m → wk.ok m ∧
  ((wk.its.length ≤ i ∧ P.nx ρ m) ∨ ∃ x, wk.its[i]? = some x ∧ g G x ρ m fun ρ' m' => b G { P with nx := I (i + 1), ct := I (i + 1), bk := P.nx } ρ' m')
def gNm (i : Nat) : WG := fun _ d ρ m P => P (sto ρ i (some d)) m
def gNl : WGs := fun _ ds ρ m P => match ds with
  | [] => P ρ m
  | _ => False
def gCns (a : WG) (r : WGs) : WGs := fun G ds ρ m P => match ds with
  | d :: ds => a G d ρ m fun ρ' m' => r G ds ρ' m' P
  | [] => False
def gTp (n : Nat) (r : WGs) : WG := fun G d ρ m P => match d with
  | .tup ds => ds.length = n ∧ r G ds ρ m P
  | _ => False
/-- o[i] = d by values -/
abbrev F3 := D → D → D → Mm → (Mm → Prop) → Prop
def gSb (f : F3) (o i : WE) : WG := fun G d ρ m P => o G ρ m Z0 fun x m1 => i G ρ m1 Z0 fun y m2 => f x y d m2 fun m3 => P ρ m3

section
variable {X : Cx} {M : Mo} {G : Gam} {W : WX}
/-- an iterator of ours -/
def ItOk (c : Cq) (wk : Wk) (J : It) (m0 : Mm) (H0 : Hp) : Prop := ∀ (i : Nat) (m : Mm) (H : Hp), RM c.K H c.M m → Stp m0 H0 m H → wk.ok m →
  (wk.its.length ≤ i → J.stop i H) ∧ ∀ x, wk.its[i]? = some x → J.go i H ∧ ∀ v H', J.yld i H v H' → RD c.K H' x v ∧ RM c.K H' c.M m ∧ Stp m H m H'
def tI (c : Cq) (w : WI) : TI := fun σ H R => ∃ ρ m Z P, RE c.K H ρ σ ∧ RM c.K H c.M m ∧ w c.G ρ m Z P ∧ (∀ wk m' J H', RM c.K H' c.M m' → Stp m H m' H' → P wk m' → ItOk c wk J m' H' → R J H') ∧ KX c m H Z σ
def tSet (c : Cq) (f : F3) : TSet := fun o i v H Q => ∃ x y d m P, RD c.K H x o ∧ RD c.K H y i ∧ RD c.K H d v ∧ RM c.K H c.M m ∧ f x y d m P ∧ ∀ m' H', RM c.K H' c.M m' → Stp m H m' H' → P m' → Q H'
def tIp (c : Cq) (f : F2) : TIp := fun x y H Q => r2 c f x y H Q

theorem qss_nil {c : Cq} : PSs X [] (tS c wNext) := PSs.imp pss_nil fun E σ H ⟨ρ, m, P, re, rm, h, kp⟩ => kp.1 ρ m σ H re rm (.refl _ _) h
theorem qss_cons {c : Cq} {st : Stmt} {rest : List Stmt} {s t : WS} (h1 : PS X st (tS c s)) (h2 : PSs X rest (tS c t)) : PSs X (st :: rest) (tS c (wSeq s t)) :=
  PSs.imp (pss_cons h1 h2) fun E σ H ⟨ρ, m, P, re, rm, h, kp⟩ => ⟨ρ, m, _, re, rm, h, fun ρ' m' σ' H' re' rm' s' ⟨m2, k2, h'⟩ => ⟨ρ', m2, P, re', rm'.sub k2, h', kp.mono (s'.sub k2)⟩, kp.2⟩
theorem qss_one {c : Cq} {st : Stmt} {s : WS} (h1 : PS X st (tS c s)) : PSs X [st] (tS c s) := pss_one h1
theorem qs_pass {c : Cq} {pos : Pos} : PS X (.Pass pos) (tS c wNext) := PS.imp ps_pass fun E σ H ⟨ρ, m, P, re, rm, h, kp⟩ => kp.1 ρ m σ H re rm (.refl _ _) h
theorem qs_break {c : Cq} {pos : Pos} : PS X (.Break pos) (tS c wBreak) := PS.imp ps_break fun E σ H ⟨ρ, m, P, re, rm, h, kp⟩ => kp.2.2.1 ρ m σ H re rm (.refl _ _) h
theorem qs_cont {c : Cq} {pos : Pos} : PS X (.Continue pos) (tS c wCont) := PS.imp ps_continue fun E σ H ⟨ρ, m, P, re, rm, h, kp⟩ => kp.2.2.2.1 ρ m σ H re rm (.refl _ _) h
theorem qs_expr {c : Cq} {e : Expr} {we : WE} {pos : Pos} (he : PE X e (tE c we)) (hs : swapsWith e none pos.line X.env = pure false) : PS X (.Expr e pos) (tS c (wExpr we)) :=
  PS.imp (ps_expr he hs) fun E σ H ⟨ρ, m, P, re, rm, h, kp⟩ => ⟨ρ, m, _, _, re, rm, h, fun d m' v H' rd rm' s' h' => kp.1 ρ m' σ H' (re.mono (s'.tups rm)) rm' s' h', kp.2.2.2.2.at re rm⟩
theorem qs_ret {c : Cq} {e : Expr} {we : WE} {pos : Pos} (he : PE X e (tE c we)) : PS X (.Return (some e) pos) (tS c (wRet we)) :=
  PS.imp (ps_ret he) fun E σ H ⟨ρ, m, P, re, rm, h, kp⟩ => ⟨ρ, m, _, _, re, rm, h, kp.2.1, kp.2.2.2.2.at re rm⟩
theorem qs_retN {c : Cq} {pos : Pos} : PS X (.Return none pos) (tS c wRetN) :=
  PS.imp ps_retN fun E σ H ⟨ρ, m, P, re, rm, h, kp⟩ => kp.2.1.now rm (d := .non) (by simp only [RD]) h
theorem qs_if {c : Cq} {t : Expr} {a b : List Stmt} {wt : WT} {wa wb : WS} {pos : Pos} (ht : PT X t (tT c wt)) (ha : PSs X a (tS c wa)) (hb : PSs X b (tS c wb)) : PS X (.If t a b pos) (tS c (wIfS wt wa wb)) :=
  PS.imp (ps_if ht ha hb) fun E σ H ⟨ρ, m, P, re, rm, h, kp⟩ => by
    refine ⟨ρ, m, _, _, re, rm, h, fun k m1 H1 rm1 s1 h1 => ?_, kp.2.2.2.2.at re rm⟩
    cases k with
    | true => exact iteT ⟨ρ, m1, P, re.mono (s1.tups rm), rm1, h1.1 rfl, kp.mono s1⟩
    | false => exact iteF ⟨ρ, m1, P, re.mono (s1.tups rm), rm1, h1.2 rfl, kp.mono s1⟩
theorem qg_name {c : Cq} {i : Nat} {x : Str} {pos : Pos} (hN : X.N.Nodup) (hi : X.N[i]? = some x) (hx : Loc X.env.scope x) (hf : X.fn x = true ∨ X.env.scope.names.lookup x = some .local) : PG X (.Name x pos) (tG c (gNm i)) :=
  PG.imp (pg_name hN hi hx hf) fun v σ H Q ⟨d, ρ, m, P, rd, re, rm, h, ks⟩ => ks _ m _ H (by rw [sto_eq]; exact re.set rd i) rm (.refl _ _) h
theorem qgs_nil {c : Cq} : PGs X [] (tGs c gNl) := PGs.imp pgs_nil fun vs σ H Q ⟨ds, ρ, m, P, rd, re, rm, h, ks⟩ => by
  cases ds with
  | nil => simp only [RDs] at rd; exact ⟨rd, ks _ m _ H re rm (.refl _ _) h⟩
  | cons _ _ => exact h.elim
theorem qgs_cons {c : Cq} {e : Expr} {es : List Expr} {a : WG} {r : WGs} (h1 : PG X e (tG c a)) (h2 : PGs X es (tGs c r)) (hs : (assignEach (e :: es) X.env).map (·.2) = assign e X.env :: (assignEach es X.env).map (·.2)) : PGs X (e :: es) (tGs c (gCns a r)) :=
  PGs.imp (pgs_cons h1 h2 hs) fun vs σ H Q ⟨ds, ρ, m, P, rd, re, rm, h, ks⟩ => by
    cases ds with
    | nil => exact h.elim
    | cons d ds =>
      simp only [RDs] at rd
      obtain ⟨v, vs', e1, r1, r2⟩ := rd
      exact ⟨v, vs', e1, d, ρ, m, _, r1, re, rm, h, fun ρ1 m1 σ1 H1 re1 rm1 s1 h1 => ⟨ds, ρ1, m1, P, r2.mono (s1.tups rm), re1, rm1, h1, ks.mono s1⟩⟩
theorem qg_tup {es : List Expr} {k : Nat} {r : WGs} {n : Nat} {pos : Pos} (hc : X.calm = true) (h : PGs X es (tGs (cq X M G W) r)) (hn : (assignEach es X.env).length = n) (hst : (assignEach es X.env).findIdx? (·.1) = none) :
    PG X (.Tuple es k pos) (tG (cq X M G W) (gTp n r)) :=
  PG.imp (pg_tup hc h hn hst) fun v σ H Q ⟨d, ρ, m, P, rd, re, rm, h, ks⟩ => by
    cases d with
    | tup ds =>
      simp only [RD] at rd
      obtain ⟨a, vs, e1, q1, r1⟩ := rd
      obtain ⟨hl, h⟩ := h
      exact ⟨a, vs, e1, q1, by rw [← r1.length]; exact hl, ds, ρ, m, P, r1, re, rm, h, ks⟩
    | _ => exact h.elim
theorem qg_sub {c : Cq} {o i : Expr} {wo wi : WE} {f : F3} {pos : Pos} (tk : Takes X c.W) (ho : PE X o (tE c wo)) (hi : PE X i (tE c wi)) (hs : PSet X (tSet c f))
    (ha : ∀ v, assign (.Subscript o i pos) X.env v = (do
      let ov ← holding [v] (eval o X.env)
      let iv ← holding [v, ov] (eval i X.env)
      standAt pos
      holding [v, ov, iv] (setItem ov iv v)
      release [v, ov, iv] [])) : PG X (.Subscript o i pos) (tG c (gSb f wo wi)) :=
  PG.imp (pg_sub ho hi hs ha) fun v σ H Q ⟨d, ρ, m, P, rd, re, rm, h, ks⟩ =>
    ⟨ρ, m, _, _, re, rm, h, fun x m1 vx H1 rx rm1 s1 h1 => ⟨ρ, m1, _, _, re.mono (s1.tups rm), rm1, h1, fun y m2 vy H2 ry rm2 s2 h2 =>
      ⟨x, y, d, m2, _, rx.mono (s2.tups rm1), ry, rd.mono ((s1.trans s2).tups rm), rm2, h2, fun m3 H3 rm3 s3 h3 => ks ρ m3 σ H3 (re.mono (((s1.trans s2).trans s3).tups rm)) rm3 ((s1.trans s2).trans s3) h3⟩, KX.zero c⟩, KX.zero c⟩
theorem qs_asg {c : Cq} {tg e : Expr} {we : WE} {g : WG} {pos : Pos} (he : PE X e (tE c we)) (hg : PG X tg (tG c g)) (hs : swapsWithSole [tg] e pos.line X.env = pure false) (hw : swappedStores [tg] e X.env = pure none)
    (h1 : (assignEach [tg] X.env).map (·.2) = [assign tg X.env]) : PS X (.Assign [tg] e pos) (tS c (wAsg we g)) :=
  PS.imp (ps_asg he hg hs hw h1) fun E σ H ⟨ρ, m, P, re, rm, h, kp⟩ => ⟨ρ, m, _, _, re, rm, h, fun d m1 v H1 rd rm1 s1 h1 => ⟨d, ρ, m1, _, rd, re.mono (s1.tups rm), rm1, h1, kp.1.mono s1⟩, kp.2.2.2.2.at re rm⟩
theorem qs_set {c : Cq} {i : Nat} {x : Str} {e : Expr} {we : WE} {pos pos' : Pos} (hN : X.N.Nodup) (hi : X.N[i]? = some x) (hx : Loc X.env.scope x) (he : PE X e (tE c we)) (hs : swapsWith e (some (.Name x pos')) pos.line X.env = pure false)
    (hf : X.fn x = true ∨ X.env.scope.names.lookup x = some .local) : PS X (.Assign [.Name x pos'] e pos) (tS c (wAsg we (gNm i))) :=
  PS.imp (ps_set hN hi hx he hs hf) fun E σ H ⟨ρ, m, P, re, rm, h, kp⟩ => ⟨ρ, m, _, _, re, rm, h, fun d m1 v H1 rd rm1 s1 h1 => kp.1 _ m1 _ H1 (by rw [sto_eq]; exact (re.mono (s1.tups rm)).set rd i) rm1 s1 h1, kp.2.2.2.2.at re rm⟩
theorem qs_par {c : Cq} {i j : Nat} {x y : Str} {a b : Expr} {wa : WA} {px py pt pos : Pos} {kt k2 : Nat} {pt2 : Pos} (hc : X.calm = true) (hN : X.N.Nodup) (hi : X.N[i]? = some x) (hj : X.N[j]? = some y) (hij : i ≠ j)
    (hx : X.env.scope.names.lookup x = some .local) (hy : X.env.scope.names.lookup y = some .local) (ha : PA X [a, b] (tA c wa))
    (hw : swappedStores [.Tuple [.Name x px, .Name y py] kt pt] (.Tuple [a, b] k2 pt2) X.env = pure (some [x, y]))
    (hs : swapsWithSole [.Tuple [.Name x px, .Name y py] kt pt] (.Tuple [a, b] k2 pt2) pos.line X.env = pure false) :
    PS X (.Assign [.Tuple [.Name x px, .Name y py] kt pt] (.Tuple [a, b] k2 pt2) pos) (tS c (wPar i j wa)) :=
  PS.imp (ps_par hc hN hi hj hij hx hy ha hw hs) fun E σ H ⟨ρ, m, P, re, rm, h, kp⟩ => by
    refine ⟨ρ, m, _, _, re, rm, h, fun ds m1 vs H1 rd rm1 s1 h1 => ?_, kp.2.2.2.2.at re rm⟩
    split at h1
    · rename_i v w
      simp only [RDs] at rd
      obtain ⟨v1, r1, e1, a1, v2, r2, e2, a2, e3⟩ := rd
      subst e1 e2 e3
      refine ⟨v1, v2, rfl, kp.1 _ m1 _ H1 ?_ rm1 s1 h1⟩
      rw [sto_eq, sto_eq]
      exact ((re.mono (s1.tups rm)).set a1 i).set a2 j
    · exact h1.elim
theorem qs_aug {c : Cq} {i : Nat} {x : Str} {e : Expr} {we : WE} {op : Operator} {f : F2} {pos pos' : Pos} (hN : X.N.Nodup) (hi : X.N[i]? = some x) (hx : Loc X.env.scope x) (he : PE X e (tE c we)) (ho : PIp X op (tIp c f))
    (hf : X.fn x = true ∨ X.env.scope.names.lookup x = some .local) : PS X (.AugAssign (.Name x pos') op e pos) (tS c (wAug i f we)) :=
  PS.imp (ps_aug hN hi hx he ho hf) fun E σ H ⟨ρ, m, P, re, rm, h, kp⟩ => by
    unfold wAug at h
    split at h
    · rename_i d e
      obtain ⟨v, e1, r⟩ := re.2 i d (nth_eq e)
      refine ⟨v, e1, ρ, m, _, _, re, rm, h, fun y m1 vy H1 ry rm1 s1 h1 => ⟨d, y, m1, _, r.mono (s1.tups rm), ry, rm1, h1, fun z m2 vz H2 rz rm2 s2 h2 => ?_⟩, kp.2.2.2.2.at re rm⟩
      refine kp.1 _ m2 _ H2 ?_ rm2 (s1.trans s2) h2
      rw [sto_eq]
      exact (re.mono ((s1.trans s2).tups rm)).set rz i
    · exact h.elim
theorem qs_while {c : Cq} {t : Expr} {body : List Stmt} {wt : WT} {wb : WS} {pos : Pos} (hp : PassesOwn (model X.prog X.w) X.A X.env X.xe) (ht : PT X t (tT c wt)) (hb : PSs X body (tS c wb)) : PS X (.While t body [] pos) (tS c (wWhile wt wb)) :=
  PS.imp (ps_while hp ht hb) fun E σ H ⟨ρ, m, P, re, rm, ⟨I, ⟨n0, i0⟩, turn⟩, kp⟩ => by
    refine ⟨fun n σ' H' => ∃ ρ' m', RE c.K H' ρ' σ' ∧ RM c.K H' c.M m' ∧ Stp m H m' H' ∧ I n ρ' m', ⟨n0, ρ, m, re, rm, .refl _ _, i0⟩, ?_⟩
    rintro n σ1 H1 ⟨ρ1, m1, re1, rm1, s1, i1⟩
    refine ⟨ρ1, m1, _, _, re1, rm1, turn n ρ1 m1 i1, fun k m2 H2 rm2 s2 h2 => ?_, (kp.2.2.2.2.mono s1).at re1 rm1⟩
    cases k with
    | true =>
      refine iteT ⟨fun σ' H' => ∃ n', n' < n ∧ ∃ ρ' m', RE c.K H' ρ' σ' ∧ RM c.K H' c.M m' ∧ Stp m H m' H' ∧ I n' ρ' m', fun σ' H' ⟨n', l, ρ', m', a⟩ => ⟨n', l, ρ', m', a⟩, ρ1, m2, _, re1.mono (s2.tups rm1), rm2, h2.1 rfl, ?_⟩
      have kp2 := kp.mono (s1.trans s2)
      exact ⟨fun ρ3 m3 σ3 H3 re3 rm3 s3 ⟨n', l, i3⟩ => ⟨n', l, ρ3, m3, re3, rm3, (s1.trans s2).trans s3, i3⟩, kp2.2.1, kp2.1, fun ρ3 m3 σ3 H3 re3 rm3 s3 ⟨n', l, i3⟩ => ⟨n', l, ρ3, m3, re3, rm3, (s1.trans s2).trans s3, i3⟩, kp2.2.2.2.2⟩
    | false => exact iteF ((kp.mono (s1.trans s2)).1 ρ1 m2 σ1 H2 (re1.mono (s2.tups rm1)) rm2 (.refl _ _) (h2.2 rfl))
theorem qs_for {c : Cq} {tg iter : Expr} {body : List Stmt} {wi : WI} {g : WG} {wb : WS} {pos : Pos} (hp : PassesOwn (model X.prog X.w) X.A X.env X.xe) (hc : X.calm = true) (hi : PI X tg iter (tI c wi)) (hg : PG X tg (tG c g)) (hb : PSs X body (tS c wb))
    (hs : ∀ x, foldedSetIterable iter X.env x = pure x) : PS X (.For tg iter body [] pos) (tS c (wFor wi g wb)) :=
  PS.imp (ps_for hp hc hi hg hb hs) fun E σ H ⟨ρ, m, P, re, rm, h, kp⟩ => by
    refine ⟨ρ, m, _, _, re, rm, h, fun wk m0 J H0 rm0 s0 ⟨I, i0, turn⟩ ok => ?_, kp.2.2.2.2.at re rm⟩
    refine ⟨fun i n σ' H' => n = wk.its.length - i ∧ ∃ ρ' m', RE c.K H' ρ' σ' ∧ RM c.K H' c.M m' ∧ Stp m0 H0 m' H' ∧ I i ρ' m', ⟨_, rfl, ρ, m0, re.mono (s0.tups rm), rm0, .refl _ _, i0⟩, ?_⟩
    rintro i n σ1 H1 ⟨rfl, ρ1, m1, re1, rm1, s1, i1⟩
    obtain ⟨k1, z⟩ := turn i ρ1 m1 i1
    obtain ⟨ok1, ok2⟩ := ok i m1 H1 rm1 s1 k1
    have kp1 := kp.mono (s0.trans s1)
    rcases z with ⟨hl, hn⟩ | ⟨x, hx, hg1⟩
    · exact .inl ⟨ok1 hl, kp1.1 ρ1 m1 σ1 H1 re1 rm1 (.refl _ _) hn⟩
    · obtain ⟨go, yl⟩ := ok2 x hx
      have hlt : i < wk.its.length := (List.getElem?_eq_some_iff.mp hx).1
      refine .inr ⟨go, fun σ' H' => ∃ ρ' m', RE c.K H' ρ' σ' ∧ RM c.K H' c.M m' ∧ Stp m0 H0 m' H' ∧ I (i + 1) ρ' m', fun σ' H' a => ⟨wk.its.length - (i + 1), by omega, rfl, a⟩, fun v H2 hy => ?_⟩
      obtain ⟨rx, rm2, s2⟩ := yl v H2 hy
      refine ⟨x, ρ1, m1, _, rx, re1.mono (s2.tups rm1), rm2, hg1, fun ρ3 m3 σ3 H3 re3 rm3 s3 h3 => ⟨ρ3, m3, _, re3, rm3, h3, ?_⟩⟩
      have kp3 := kp1.mono (s2.trans s3)
      exact ⟨fun ρ4 m4 σ4 H4 re4 rm4 s4 i4 => ⟨ρ4, m4, re4, rm4, ((s1.trans s2).trans s3).trans s4, i4⟩, kp3.2.1, kp3.1, fun ρ4 m4 σ4 H4 re4 rm4 s4 i4 => ⟨ρ4, m4, re4, rm4, ((s1.trans s2).trans s3).trans s4, i4⟩, kp3.2.2.2.2⟩
end
end Qz
set_option Elab.async false
set_option linter.all false
set_option maxRecDepth 100000
set_option maxHeartbeats 2000000
namespace Qz
open PySem PySem.Spec PyProof.Rows L2

inductive Pat where
  | nm (i : Nat) | tp (ps : List Pat)
mutual
def bindP : Pat → D → Ev → Option Ev
  | .nm i, d, ρ => some (sto ρ i (some d))
  | .tp ps, d, ρ => match d with
    | .tup ds => bindPs ps ds ρ
    | _ => none
def bindPs : List Pat → List D → Ev → Option Ev
  | [], ds, ρ => match ds with
    | [] => some ρ
    | _ => none
  | p :: ps, ds, ρ => match ds with
    | d :: ds => match bindP p d ρ with
      | some ρ' => bindPs ps ds ρ'
      | none => none
    | [] => none
end
mutual
def slotsP : Pat → List Nat
  | .nm i => [i]
  | .tp ps => slotsPs ps
def slotsPs : List Pat → List Nat
  | [] => []
  | p :: ps => slotsP p ++ slotsPs ps
end
mutual
def tgP (K : PySem.W.Frag) : Pat → TG
  | .nm i => gName i
  | .tp ps => gTup K ps.length (tgPs K ps)
def tgPs (K : PySem.W.Frag) : List Pat → TGs
  | [] => gNil
  | p :: ps => gCons (tgP K p) (tgPs K ps)
end
theorem wipe_set {σ : L2.St} {i : Nat} {x : Option V} : ∀ {vs : List Nat}, i ∈ vs → wipe (σ.set i x) vs = wipe σ vs
  | [], h => by cases h
  | v :: vs, h => by
    unfold wipe
    by_cases e : i = v
    · subst e
      by_cases hm : i ∈ vs
      · rw [wipe_set hm]
      · have q : ∀ (vs : List Nat), i ∉ vs → (wipe (σ.set i x) vs).set i none = (wipe σ vs).set i none := by
          intro vs
          induction vs with
          | nil => intro _; unfold wipe; rw [List.set_set]
          | cons w ws ih =>
            intro hn
            have hw : i ≠ w := fun z => hn (by simp [z])
            have hws : i ∉ ws := fun z => hn (by simp [z])
            unfold wipe
            rw [List.set_comm _ _ hw.symm, ih hws, List.set_comm _ _ hw]
        exact q vs hm
    · have hm : i ∈ vs := by
        rcases List.mem_cons.mp h with z | z
        · exact absurd z e
        · exact z
      rw [wipe_set hm]
section
variable {K : PySem.W.Frag} {H : Hp}
mutual
theorem pat_run {vs : List Nat} {Q : L2.St → Hp → Prop} : ∀ {p : Pat} {d : D} {v : V} {ρ ρ' : Ev} {σ : L2.St}, RD K H d v → RE K H ρ σ → bindP p d ρ = some ρ' → (∀ i ∈ slotsP p, i ∈ vs) →
    (∀ σ', RE K H ρ' σ' → wipe σ' vs = wipe σ vs → Q σ' H) → tgP K p v σ H Q
  | .nm i, d, v, ρ, ρ', σ, rd, re, h, hv, k => by
    simp only [bindP, Option.some.injEq] at h
    subst h
    rw [sto_eq] at k
    unfold tgP gName
    exact k _ (re.set rd i) (wipe_set (hv i (by simp [slotsP])))
  | .tp ps, d, v, ρ, ρ', σ, rd, re, h, hv, k => by
    cases d with
    | tup ds =>
      simp only [bindP] at h
      simp only [RD] at rd
      obtain ⟨a, us, e1, q1, r1⟩ := rd
      unfold tgP gTup
      refine ⟨a, us, e1, q1, ?_, pats_run r1 re h (fun i hi => hv i (by simpa [slotsP] using hi)) k⟩
      rw [← r1.length]
      exact bindPs_len h
    | _ => simp only [bindP] at h; cases h
theorem pats_run {vs : List Nat} {Q : L2.St → Hp → Prop} : ∀ {ps : List Pat} {ds : List D} {us : List V} {ρ ρ' : Ev} {σ : L2.St}, RDs K H ds us → RE K H ρ σ → bindPs ps ds ρ = some ρ' → (∀ i ∈ slotsPs ps, i ∈ vs) →
    (∀ σ', RE K H ρ' σ' → wipe σ' vs = wipe σ vs → Q σ' H) → tgPs K ps us σ H Q
  | [], ds, us, ρ, ρ', σ, rd, re, h, hv, k => by
    cases ds with
    | nil =>
      simp only [bindPs, Option.some.injEq] at h
      subst h
      simp only [RDs] at rd
      unfold tgPs gNil
      exact ⟨rd, k σ re rfl⟩
    | cons _ _ => simp only [bindPs] at h; cases h
  | p :: ps, ds, us, ρ, ρ', σ, rd, re, h, hv, k => by
    cases ds with
    | nil => simp only [bindPs] at h; cases h
    | cons d ds =>
      simp only [bindPs] at h
      cases e : bindP p d ρ with
      | none => rw [e] at h; cases h
      | some ρ1 =>
        rw [e] at h
        simp only [RDs] at rd
        obtain ⟨u, us', e1, r1, r2⟩ := rd
        unfold tgPs gCons
        refine ⟨u, us', e1, pat_run r1 re e (fun i hi => hv i (by simp only [slotsPs, List.mem_append]; exact .inl hi)) fun σ1 re1 w1 => ?_⟩
        exact pats_run r2 re1 h (fun i hi => hv i (by simp only [slotsPs, List.mem_append]; exact .inr hi)) fun σ2 re2 w2 => k σ2 re2 (w2.trans w1)
theorem bindPs_len : ∀ {ps : List Pat} {ds : List D} {ρ ρ' : Ev}, bindPs ps ds ρ = some ρ' → ds.length = ps.length
  | [], ds, ρ, ρ', h => by
    cases ds with
    | nil => rfl
    | cons _ _ => simp only [bindPs] at h; cases h
  | p :: ps, ds, ρ, ρ', h => by
    cases ds with
    | nil => simp only [bindPs] at h; cases h
    | cons d ds =>
      simp only [bindPs] at h
      cases e : bindP p d ρ with
      | none => rw [e] at h; cases h
      | some ρ1 =>
        rw [e] at h
        rw [List.length_cons, List.length_cons, bindPs_len h]
end
end
def gPt (p : Pat) : WG := fun _ d ρ m P => match bindP p d ρ with
  | some ρ' => P ρ' m
  | none => False
theorem qg_pat {X : Cx} {c : Cq} {e : Expr} {p : Pat} (h : PG X e (tgP c.K p)) : PG X e (tG c (gPt p)) :=
  PG.imp h fun v σ H Q ⟨d, ρ, m, P, rd, re, rm, h, ks⟩ => by
    unfold gPt at h
    split at h
    · rename_i ρ' e
      exact pat_run (vs := slotsP p) rd re e (fun _ z => z) fun σ' re' _ => ks ρ' m σ' H re' rm (.refl _ _) h
    · exact h.elim

def okL (a : Addr) (xs : List D) : Mm → Prop := fun m => m a = some (.lst xs)
/-- a value walked -/
def itv : D → Mm → (Wk → Mm → Prop) → Prop
  | .tup ds, m, P => P ⟨ds, fun _ => True⟩ m
  | .ref a, m, P => ∃ xs, okL a xs m ∧ P ⟨xs, okL a xs⟩ m
  | _, _, _ => False
def wIter (e : WE) : WI := fun G ρ m Z P => e G ρ m Z fun x m1 => itv x m1 P
def wRange1 (a : WA) : WI := fun G ρ m Z P => a G ρ m Z fun ds m1 => match ds with
  | [.int j] => (-(2 ^ 62) ≤ j ∧ j < 2 ^ 62) ∧ P ⟨(List.range j.toNat).map fun i => .int (0 + (i : Nat)), fun _ => True⟩ m1
  | _ => False
def wRange2 (a : WA) : WI := fun G ρ m Z P => a G ρ m Z fun ds m1 => match ds with
  | [.int i, .int j] => (-(2 ^ 62) ≤ i ∧ i < 2 ^ 62 ∧ -(2 ^ 62) ≤ j ∧ j < 2 ^ 62) ∧ P ⟨(List.range (j - i).toNat).map fun k => .int (i + (k : Nat)), fun _ => True⟩ m1
  | _ => False
/-- the pairs of two values walked -/
def wZip (a : WA) : WI := fun G ρ m Z P => a G ρ m Z fun ds m1 => match ds with
  | [.tup xs, .tup ys] => P ⟨(xs.zip ys).map fun p => .tup [p.1, p.2], fun _ => True⟩ m1
  | [.ref a, .ref b] => ∃ xs ys, okL a xs m1 ∧ okL b ys m1 ∧ P ⟨(xs.zip ys).map fun p => .tup [p.1, p.2], fun m => okL a xs m ∧ okL b ys m⟩ m1
  | _ => False
def wEnumL (a : WA) : WI := fun G ρ m Z P => a G ρ m Z fun ds m1 => match ds with
  | [.ref a] => ∃ xs, okL a xs m1 ∧ P ⟨(xs.zipIdx).map fun p => .tup [.int (p.2 : Nat), p.1], okL a xs⟩ m1
  | _ => False

section
variable {X : Cx} {M : Mo} {G : Gam} {W : WX} {tg e : Expr}
theorem okL.sq {K : PySem.W.Frag} {H : Hp} {m : Mm} {a : Addr} {xs : List D} (h : okL a xs m) (r : RM K H M m) : ∃ vs, SqL K H a vs ∧ RDs K H xs vs := by
  obtain ⟨vs, e, q⟩ := r a _ h
  exact ⟨vs, .of e, q⟩
theorem itok_tup {c : Cq} {a : Addr} {ds : List D} {vs : List V} {m0 : Mm} {H0 : Hp} (rm : RM c.K H0 c.M m0) (q : SqT c.K H0 a vs) (r : RDs c.K H0 ds vs) : ItOk c ⟨ds, fun _ => True⟩ (Itt c.K a) m0 H0 := fun i m H rm1 s1 _ => by
  have q1 := (s1.tups rm).1 a vs q
  have r1 := r.mono (s1.tups rm)
  refine ⟨fun hl => ⟨vs, q1, by rw [← r.length]; exact hl⟩, fun x hx => ?_⟩
  obtain ⟨v, hv, rv⟩ := r1.at hx
  refine ⟨⟨vs, v, q1, hv⟩, fun v' H' hy => ?_⟩
  obtain ⟨rfl, hy⟩ := hy
  have e := hy vs q1
  rw [hv] at e; cases e
  exact ⟨rv, rm1, .refl _ _⟩
theorem itok_lst {c : Cq} {a : Addr} {xs : List D} {m0 : Mm} {H0 : Hp} : ItOk c ⟨xs, okL a xs⟩ (Itl c.K a) m0 H0 := fun i m H rm1 s1 k => by
  obtain ⟨vs, q1, r1⟩ := okL.sq k rm1
  refine ⟨fun hl => ⟨vs, q1, by rw [← r1.length]; exact hl⟩, fun x hx => ?_⟩
  obtain ⟨v, hv, rv⟩ := r1.at hx
  refine ⟨⟨vs, v, q1, hv⟩, fun v' H' hy => ?_⟩
  obtain ⟨rfl, hy⟩ := hy
  have e := hy vs q1
  rw [hv] at e; cases e
  exact ⟨rv, rm1, .refl _ _⟩
theorem itok_rng {c : Cq} {lo : Int} {n : Nat} {m0 : Mm} {H0 : Hp} : ItOk c ⟨(List.range n).map fun i => .int (lo + (i : Nat)), fun _ => True⟩ (Itr lo n) m0 H0 := fun i m H rm1 s1 _ => by
  refine ⟨fun hl => by show n ≤ i; simpa using hl, fun x hx => ?_⟩
  have hi : i < n := by
    have := (List.getElem?_eq_some_iff.mp hx).1
    simpa using this
  refine ⟨hi, fun v H' hy => ?_⟩
  obtain ⟨rfl, rfl⟩ := hy
  have ex : x = .int (lo + (i : Nat)) := by
    simp [List.getElem?_map, List.getElem?_range hi] at hx
    exact hx.symm
  subst ex
  exact ⟨by simp only [RD], rm1, .refl _ _⟩
/-- a value walked: the rule -/
theorem iter_any {pins : List (Addr × Obj)} {σ : L2.St} {H : Hp} {s : Shared} {R : It → Hp → Prop} {x : D} {v : V} {u : Value} {m : Mm} {P : Wk → Mm → Prop} {E : Value → Shared → Prop} (I : Inv X pins σ H s) (rx : RD X.K H x v) (ru : RelV v u) (rm : RM X.K H M m)
    (h : itv x m P) (k : ∀ wk m' J H', RM X.K H' M m' → Stp m H m' H' → P wk m' → ItOk (cq X M G W) wk J m' H' → R J H') : wpAny (model X.prog X.w) X.A (pyIter u) (PIE X pins σ tg R) E s := by
  cases x with
  | tup ds =>
    simp only [RD] at rx
    obtain ⟨a, vs, rfl, q, r⟩ := rx
    cases ru
    obtain ⟨its, rv, p, hz⟩ := I.tuple q
    refine wpAny_pyIter_tuple (show s.heap.IsTuple a its.toArray from p) ?_
    refine ⟨s.heap.objs.size, [s.heap.objs.size], _, _, H, rfl, I.kept (t' := s.toks) fun b o e => Heap.get?_push_of_some _ e, turn_tuple a _, ⟨_, Heap.get?_push_size _ rfl, rfl, rfl⟩, fun b hb => ?_, k ⟨ds, fun _ => True⟩ m (Itt X.K a) H rm (.refl _ _) h (itok_tup (c := cq X M G W) rm q r)⟩
    have e : b = s.heap.objs.size := by simpa using hb
    subst e
    exact I.fpOk (Nat.le_refl _) (I.hok.fresh (Nat.le_refl _))
  | ref a =>
    simp only [RD] at rx
    subst rx
    cases ru
    obtain ⟨xs, ok, h⟩ := h
    obtain ⟨vs, q, r⟩ := okL.sq ok rm
    obtain ⟨its, rv, p, hz⟩ := I.list q
    refine wpAny_pyIter_list p.isList ?_
    refine ⟨s.heap.objs.size, [s.heap.objs.size], _, _, H, rfl, I.kept (t' := s.toks) fun b o e => Heap.get?_push_of_some _ e, turn_list a _, ⟨_, Heap.get?_push_size _ rfl, rfl, rfl⟩, fun b hb => ?_, k ⟨xs, okL a xs⟩ m (Itl X.K a) H rm (.refl _ _) h (itok_lst (c := cq X M G W))⟩
    have e : b = s.heap.objs.size := by simpa using hb
    subst e
    exact I.fpOk (Nat.le_refl _) (I.hok.fresh (Nat.le_refl _))
  | _ => exact h.elim
theorem qi_val {we : WE} (he : PE X e (tE (cq X M G W) we)) : PI X tg e (tI (cq X M G W) (wIter we)) := by
  refine ⟨fun pins s σ H R I ⟨ρ, m, Z, P, re, rm, h, k, kx⟩ => ?_⟩
  refine thn (he.run pins s σ H (fun v H1 => ∃ x m1, RD X.K H1 x v ∧ RM X.K H1 M m1 ∧ Stp m H m1 H1 ∧ itv x m1 P) I ⟨ρ, m, Z, _, re, rm, h, fun d m1 v H1 rd rm1 s1 h1 => ⟨d, m1, rd, rm1, s1, h1⟩, kx⟩) fun u s1 ⟨v, H1, I1, ru, x, m1, rx, rm1, st1, h1⟩ => ?_
  exact iter_any (G := G) (W := W) I1 rx ru rm1 h1 fun wk m' J H' a b d e => k wk m' J H' a (st1.trans b) d e
theorem qi_range1 {a : Expr} {wa : WA} {p pos : Pos} (hg : Gl X "range") (hm : X.mg "range" = none) (ha : PA X [a] (tA (cq X M G W) wa)) (hs : starEach [a] X.env = [(false, eval a X.env)]) : PI X tg (.Call (.Name "range" p) [a] [] pos) (tI (cq X M G W) (wRange1 wa)) := by
  have q := pi_range1 (tg := tg) (p := p) (pos := pos) hg hm ha hs
  refine ⟨fun pins s σ H R I ⟨ρ, m, Z, P, re, rm, h, k, kx⟩ => q.run pins s σ H R I ⟨ρ, m, Z, _, re, rm, h, fun ds m1 vs H1 rd rm1 s1 h1 => ?_, kx⟩⟩
  split at h1
  · rename_i j
    simp only [RDs, RD] at rd
    obtain ⟨v1, r1, e1, a1, e2⟩ := rd
    subst e1 e2 a1
    obtain ⟨⟨l1, l2⟩, h1⟩ := h1
    exact ⟨j, rfl, l1, l2, k _ m1 _ H1 rm1 s1 h1 (itok_rng (c := cq X M G W))⟩
  · exact h1.elim
theorem qi_range2 {a b : Expr} {wa : WA} {p pos : Pos} (hg : Gl X "range") (hm : X.mg "range" = none) (ha : PA X [a, b] (tA (cq X M G W) wa)) (hs : starEach [a, b] X.env = [(false, eval a X.env), (false, eval b X.env)]) (hs2 : starEach [b] X.env = [(false, eval b X.env)]) :
    PI X tg (.Call (.Name "range" p) [a, b] [] pos) (tI (cq X M G W) (wRange2 wa)) := by
  have q := pi_range2 (tg := tg) (p := p) (pos := pos) hg hm ha hs hs2
  refine ⟨fun pins s σ H R I ⟨ρ, m, Z, P, re, rm, h, k, kx⟩ => q.run pins s σ H R I ⟨ρ, m, Z, _, re, rm, h, fun ds m1 vs H1 rd rm1 s1 h1 => ?_, kx⟩⟩
  split at h1
  · rename_i i j
    simp only [RDs, RD] at rd
    obtain ⟨v1, r1, e1, a1, v2, r2, e2, a2, e3⟩ := rd
    subst e1 e2 e3 a1 a2
    obtain ⟨l1, h1⟩ := h1
    exact ⟨i, j, rfl, l1, k _ m1 _ H1 rm1 s1 h1 (itok_rng (c := cq X M G W))⟩
  · exact h1.elim
theorem itok_pair {c : Cq} {its : List D} {ok : Mm → Prop} {J : It} {m0 : Mm} {H0 : Hp} (xs ys : Nat → Option D)
    (hi : ∀ i x y, xs i = some x → ys i = some y → its[i]? = some (.tup [x, y])) (hn : ∀ i, its[i]? ≠ none → ∃ x y, xs i = some x ∧ ys i = some y)
    (hgo : ∀ i m H, RM c.K H c.M m → Stp m0 H0 m H → ok m → (its.length ≤ i → J.stop i H) ∧ ∀ x y, xs i = some x → ys i = some y → J.go i H ∧
      ∀ v H', J.yld i H v H' → ∃ T u w, v = .ref T ∧ H T = none ∧ H' = upd H T (.tup [u, w]) ∧ RD c.K H x u ∧ RD c.K H y w) : ItOk c ⟨its, ok⟩ J m0 H0 := fun i m H rm1 s1 k => by
  obtain ⟨h1, h2⟩ := hgo i m H rm1 s1 k
  refine ⟨h1, fun z hz => ?_⟩
  have hz' : its[i]? = some z := hz
  obtain ⟨x, y, hx, hy⟩ := hn i (by rw [hz']; simp)
  have e := hi i x y hx hy
  rw [hz'] at e; cases e
  obtain ⟨g, yl⟩ := h2 x y hx hy
  refine ⟨g, fun v H' hy => ?_⟩
  obtain ⟨T, u, w, rfl, hT, rfl, ru, rw'⟩ := yl v H' hy
  exact ⟨by simp only [RD]; exact ⟨T, _, rfl, .of upd_same, .cons (ru.mono (tup_le hT)) (.one (rw'.mono (tup_le hT)))⟩, rm1.grow hT, .grow hT⟩
theorem zip_at {xs ys : List D} (i : Nat) : (∀ x y, xs[i]? = some x → ys[i]? = some y → ((xs.zip ys).map fun p => D.tup [p.1, p.2])[i]? = some (.tup [x, y])) ∧ (((xs.zip ys).map fun p => D.tup [p.1, p.2])[i]? ≠ none → ∃ x y, xs[i]? = some x ∧ ys[i]? = some y) := by
  constructor
  · intro x y hx hy
    rw [List.getElem?_map]
    have : (xs.zip ys)[i]? = some (x, y) := by rw [List.getElem?_zip_eq_some]; exact ⟨hx, hy⟩
    rw [this]; rfl
  · intro h
    rw [List.getElem?_map] at h
    cases e : (xs.zip ys)[i]? with
    | none => rw [e] at h; exact absurd rfl h
    | some p =>
      obtain ⟨x, y⟩ := p
      exact ⟨x, y, List.getElem?_zip_eq_some.mp e⟩
theorem qi_zip {e e2 : Expr} {wa : WA} {p pos tpos : Pos} {elts : List Expr} {kk : Nat} (hg : Gl X "zip") (hm : X.mg "zip" = none) (ha : PA X [e, e2] (tA (cq X M G W) wa)) (hs : starEach [e, e2] X.env = (false, eval e X.env) :: starEach [e2] X.env)
    (hpl : (backTo pos (starEach [e2] X.env)).any (·.1) = false) : PI X (.Tuple elts kk tpos) (.Call (.Name "zip" p) [e, e2] [] pos) (tI (cq X M G W) (wZip wa)) := by
  have q := RZ.pi_zipA (elts := elts) (kk := kk) (tpos := tpos) (p := p) (pos := pos) hg hm ha hs hpl
  refine ⟨fun pins s σ H R I ⟨ρ, m, Z, P, re, rm, h, k, kx⟩ => q.run pins s σ H R I ⟨ρ, m, Z, _, re, rm, h, fun ds m1 vs H1 rd rm1 s1 h1 => ?_, kx⟩⟩
  split at h1
  · rename_i xs ys
    simp only [RDs, RD] at rd
    obtain ⟨v1, r1, e1, ⟨a, us, ea, qa, ra⟩, v2, r2, e2, ⟨b, ws, eb, qb, rb⟩, e3⟩ := rd
    subst e1 e2 e3 ea eb
    have la := ra.length
    have lb := rb.length
    refine ⟨a, b, us, ws, rfl, .inr ⟨qa, qb, k _ m1 _ H1 rm1 s1 h1 (itok_pair (c := cq X M G W) (fun i => xs[i]?) (fun i => ys[i]?) (fun i => (zip_at i).1) (fun i => (zip_at i).2) fun i m H rm2 s2 _ => ?_)⟩⟩
    have t := s2.tups rm1
    have qa2 := t.1 a us qa
    have qb2 := t.1 b ws qb
    refine ⟨fun hl => ⟨us, ws, qa2, qb2, by simp at hl; omega⟩, fun x y hx hy => ?_⟩
    obtain ⟨u, hu, ru⟩ := (ra.mono t).at hx
    obtain ⟨w, hw, rw'⟩ := (rb.mono t).at hy
    refine ⟨⟨us, ws, u, w, qa2, qb2, hu, hw⟩, fun v H' hyl => ?_⟩
    obtain ⟨T, u', w', rfl, hT, rfl, h1, h2⟩ := hyl
    have z1 := h1 us qa2
    have z2 := h2 ws qb2
    rw [hu] at z1; rw [hw] at z2; cases z1; cases z2
    exact ⟨T, u, w, rfl, hT, rfl, ru, rw'⟩
  · rename_i a b
    obtain ⟨xs, ys, ka, kb, h1⟩ := h1
    simp only [RDs, RD] at rd
    obtain ⟨v1, r1, e1, ea, v2, r2, e2, eb, e3⟩ := rd
    subst e1 e2 e3 ea eb
    obtain ⟨us, qa, ra⟩ := okL.sq ka rm1
    obtain ⟨ws, qb, rb⟩ := okL.sq kb rm1
    refine ⟨a, b, us, ws, rfl, .inl ⟨qa, qb, k _ m1 _ H1 rm1 s1 h1 (itok_pair (c := cq X M G W) (fun i => xs[i]?) (fun i => ys[i]?) (fun i => (zip_at i).1) (fun i => (zip_at i).2) fun i m H rm2 s2 ⟨ka2, kb2⟩ => ?_)⟩⟩
    obtain ⟨us2, qa2, ra2⟩ := okL.sq ka2 rm2
    obtain ⟨ws2, qb2, rb2⟩ := okL.sq kb2 rm2
    have la := ra2.length
    have lb := rb2.length
    refine ⟨fun hl => ⟨us2, ws2, qa2, qb2, by simp at hl; omega⟩, fun x y hx hy => ?_⟩
    obtain ⟨u, hu, ru⟩ := ra2.at hx
    obtain ⟨w, hw, rw'⟩ := rb2.at hy
    refine ⟨⟨us2, ws2, u, w, qa2, qb2, hu, hw⟩, fun v H' hyl => ?_⟩
    obtain ⟨T, u', w', rfl, hT, rfl, h1, h2⟩ := hyl
    have z1 := h1 us2 qa2
    have z2 := h2 ws2 qb2
    rw [hu] at z1; rw [hw] at z2; cases z1; cases z2
    exact ⟨T, u, w, rfl, hT, rfl, ru, rw'⟩
  · exact h1.elim
def wip : Ev → List Nat → Ev
  | ρ, [] => ρ
  | ρ, v :: vs => sto (wip ρ vs) v none
theorem RE.wip {K : PySem.W.Frag} {H : Hp} {ρ : Ev} {σ : L2.St} (h : RE K H ρ σ) : ∀ vs : List Nat, RE K H (wip ρ vs) (wipe σ vs)
  | [] => h
  | v :: vs => by
    unfold Qz.wip wipe
    rw [sto_eq]
    exact (RE.wip h vs).unset v
/-- [elt for p in wi if t]: the list stands alone till it is whole -/
def wComp (wi : WI) (p : Pat) (t : WT) (elt : WE) (own : List Nat) : WE := fun G ρ m Z P => wi G ρ m Z fun wk m1 => ∃ I : Nat → List D → Mm → Prop, I 0 [] m1 ∧ ∀ i acc m, I i acc m → wk.ok m ∧
  ((wk.its.length ≤ i ∧ ∀ a, Fr m a → P (.ref a) (m.set a (.lst acc))) ∨ ∃ x ρ', wk.its[i]? = some x ∧ bindP p x (wip ρ own) = some ρ' ∧ t G ρ' m Z0 fun k m2 =>
    (k = true → elt G ρ' m2 Z0 fun d m3 => acc.length < sizeLine ∧ I (i + 1) (acc ++ [d]) m3) ∧ (k = false → I (i + 1) acc m2))
def wTrue : WT := fun _ _ m _ P => P true m
def tTs (c : Cq) (w : WT) : TT := tT c w
theorem qts_nil {c : Cq} : PTs X [] (tT c wTrue) := ⟨fun pins s σ H Q I ⟨ρ, m, Z, P, re, rm, h, k, kx⟩ => pts_nil.run pins s σ H Q I (k true m H rm (.refl _ _) h)⟩
theorem qts_one {c : Cq} {e : Expr} {w : WT} (h : PT X e (tT c w)) : PTs X [e] (tT c w) := pts_one h
theorem wipe_wipe (σ : L2.St) : ∀ (vs ws : List Nat), (∀ i ∈ vs, i ∈ ws) → wipe (wipe σ ws) vs = wipe σ ws
  | [], _, _ => rfl
  | v :: vs, ws, h => by
    show (wipe (wipe σ ws) vs).set v none = _
    rw [wipe_wipe σ vs ws fun i hi => h i (by simp [hi])]
    have q : ∀ (ws : List Nat), v ∈ ws → (wipe σ ws).set v none = wipe σ ws := by
      intro ws
      induction ws with
      | nil => intro z; cases z
      | cons w ws ih =>
        intro hm
        show ((wipe σ ws).set w none).set v none = (wipe σ ws).set w none
        by_cases e : v = w
        · subst e; rw [List.set_set]
        · rw [List.set_comm _ _ (Ne.symm e), ih (by rcases List.mem_cons.mp hm with z | z; exact absurd z e; exact z)]
    exact q ws (h v (by simp))
/-- what the reading of a comprehension is -/
theorem comp_rd {wi : WI} {p : Pat} {t : WT} {elt : WE} {own : List Nat} (hp : ∀ i ∈ slotsP p, i ∈ own) {σ : L2.St} {H : Hp} {Q : VK} (h : tE (cq X M G W) (wComp wi p t elt own) σ H Q) :
    tLc (tI (cq X M G W) wi) (tgP X.K p) (tT (cq X M G (fun _ _ _ _ => False)) t) (tE (cq X M G (fun _ _ _ _ => False)) elt) own σ H Q := by
  obtain ⟨ρ, m, Z, P, re, rm, h, kq, kx⟩ := h
  refine ⟨ρ, m, Z, _, re, rm, h, fun wk m1 J H1 rm1 s1 ⟨I, i0, turn⟩ ok => ?_, kx⟩
  intro D hD
  -- D is not the memory's
  have hD1 : m1 D = none := rm1.fr hD
  refine ⟨fun i n H' => n = wk.its.length - i ∧ ∃ acc m' vs, RM X.K H' M m' ∧ Stp m1 H1 m' H' ∧ m' D = none ∧ H' D = some (.lst vs) ∧ RDs X.K H' acc vs ∧ I i acc m', ⟨_, rfl, [], m1, [], rm1.grow hD, .grow hD, hD1, upd_same, .nil, i0⟩, ?_⟩
  rintro i n H2 ⟨rfl, acc, m2, vs, rm2, s2, nD2, eD2, ra, i2⟩
  obtain ⟨k1, z⟩ := turn i acc m2 i2
  obtain ⟨ok1, ok2⟩ := ok i m2 H2 rm2 s2 k1
  rcases z with ⟨hl, hQ⟩ | ⟨x, ρ', hx, hb, ht⟩
  · refine .inl ⟨ok1 hl, kq (.ref D) (m2.set D (.lst acc)) (.ref D) H2 (by simp only [RD]) (rm2.set ⟨vs, eD2, ra⟩) (fun a o e k n => ?_) (hQ D nD2)⟩
    obtain ⟨e2, k2⟩ := (s1.trans s2) a o e k n
    refine ⟨e2, ?_⟩
    by_cases ha : a = D
    · subst ha
      have := (s1 a o e k n).1
      rw [hD] at this; cases this
    · rw [Mm.set_ne ha]; exact k2
  · obtain ⟨go, yl⟩ := ok2 x hx
    have hlt : i < wk.its.length := (List.getElem?_eq_some_iff.mp hx).1
    refine .inr ⟨go, fun H' => ∃ acc m' vs, RM X.K H' M m' ∧ Stp m1 H1 m' H' ∧ m' D = none ∧ H' D = some (.lst vs) ∧ RDs X.K H' acc vs ∧ I (i + 1) acc m', fun H' a => ⟨wk.its.length - (i + 1), by omega, rfl, a⟩, fun v H3 hy => ?_⟩
    obtain ⟨rx, rm3, s3⟩ := yl v H3 hy
    have re3 : RE X.K H3 (wip ρ own) (wipe σ own) := ((re.mono (s1.tups rm)).mono ((s2.trans s3).tups rm1)).wip own
    refine pat_run (vs := own) rx re3 hb hp fun σ' re' hw => ⟨by rw [hw]; exact wipe_wipe σ own own (fun _ z => z), ρ', m2, _, _, re', rm3, ht, fun k m4 H4 rm4 s4 h4 => ?_, KX.zero _⟩
    have s34 := s3.trans s4
    obtain ⟨eD4, nD4⟩ := s34 D _ eD2 nD2 (fun _ z => by cases z)
    have ra4 := ra.mono (s34.tups rm2)
    cases k with
    | false => exact iteF ⟨acc, m4, vs, rm4, s2.trans s34, nD4, eD4, ra4, h4.2 rfl⟩
    | true =>
      refine iteT ⟨ρ', m4, _, _, re'.mono (s4.tups rm3), rm4, h4.1 rfl, fun d m5 v5 H5 rd5 rm5 s5 ⟨hz, h5⟩ => ?_, KX.zero _⟩
      obtain ⟨eD5, nD5⟩ := s5 D _ eD4 nD4 (fun _ z => by cases z)
      have ra5 := ra4.mono (s5.tups rm4)
      have t5 : TupLe X.K H5 (upd H5 D (.lst (vs ++ [v5]))) := upd_le eD5 ⟨fun _ z => (by cases z), fun _ _ z => (by cases z)⟩
      have s15 := s2.trans (s34.trans s5)
      refine ⟨vs, eD5, by rw [← ra5.length]; exact hz, acc ++ [d], m5, vs ++ [v5], ⟨fun a w e => ?_, tabs_upd rm5.tabs eD5 .lst⟩, fun a o e k n => ?_, nD5, upd_same, (ra5.mono t5).append (.one (rd5.mono t5)), h5⟩
      · have ha : a ≠ D := fun z => by subst z; rw [nD5] at e; cases e
        have q := rm5 a w e
        cases w with
        | lst xs => obtain ⟨us, z, r⟩ := q; exact ⟨us, by rw [upd_ne ha]; exact z, r.mono t5⟩
        | dK xs => obtain ⟨us, z, r⟩ := q; exact ⟨us, by rw [upd_ne ha]; exact z, r.mono t5⟩
        | dT xs => obtain ⟨us, z, z1, z2, r⟩ := q; exact ⟨us, by rw [upd_ne ha]; exact z, z1, z2, r.mono t5⟩
        | ins c fs => obtain ⟨dx, us, z, r⟩ := q; exact ⟨dx, us, by rw [upd_ne ha]; exact z, r.mono t5⟩
      · have ha : a ≠ D := ne_of_none e hD
        obtain ⟨q1, q2⟩ := s15 a o e k n
        exact ⟨by rw [upd_ne ha]; exact q1, q2⟩
end
end Qz
set_option Elab.async false
set_option linter.all false
set_option maxRecDepth 100000
set_option maxHeartbeats 2000000
namespace Qz
open PySem PySem.Spec PyProof.Rows L2

mutual
/-- what a datum is, deep -/
inductive Dpy (m : Mm) : D → PyData → Prop
  | non : Dpy m .non .none
  | bl (b : Bool) : Dpy m (.bl b) (.bool b)
  | int (i : Int) : Dpy m (.int i) (.int i)
  | str (x : Str) : Dpy m (.str x) (.str x)
  | tup {xs : List D} {ps : List PyData} : Dpys m xs ps → Dpy m (.tup xs) (.tuple ps)
  | lst {a : Addr} {xs : List D} {ps : List PyData} : m a = some (.lst xs) → Dpys m xs ps → Dpy m (.ref a) (.list ps)
inductive Dpys (m : Mm) : List D → List PyData → Prop
  | nil : Dpys m [] []
  | cons {x : D} {xs : List D} {p : PyData} {ps : List PyData} : Dpy m x p → Dpys m xs ps → Dpys m (x :: xs) (p :: ps)
end
section
variable {K : PySem.W.Frag} {H : Hp} {M : Mo} {m : Mm}
mutual
theorem Dpy.dp (r : RM K H M m) : ∀ {p : PyData} {d : D} {v : V}, Dpy m d p → RD K H d v → Dp K H v p
  | .none, _, _, h, q => by cases h; simp only [RD] at q; subst q; exact .non
  | .bool b, _, _, h, q => by cases h; simp only [RD] at q; subst q; exact .bl b
  | .int i, _, _, h, q => by cases h; simp only [RD] at q; subst q; exact .int i
  | .str x, _, _, h, q => by cases h; simp only [RD] at q; subst q; exact .str x
  | .tuple ps, _, _, h, q => by
    cases h with
    | tup hs =>
      simp only [RD] at q
      obtain ⟨a, vs, rfl, s, rs⟩ := q
      exact .tup s (Dpys.dp r hs rs)
  | .list ps, _, _, h, q => by
    cases h with
    | @lst a xs _ e hs =>
      simp only [RD] at q
      subst q
      obtain ⟨vs, e2, rs⟩ := r a _ e
      exact .lst (.of e2) (Dpys.dp r hs rs)
  | .dict _, _, _, h, q => nomatch h
theorem Dpys.dp (r : RM K H M m) : ∀ {ps : List PyData} {ds : List D} {vs : List V}, Dpys m ds ps → RDs K H ds vs → DpAll K H vs ps
  | [], _, _, h, q => by cases h; simp only [RDs] at q; subst q; exact .nil
  | p :: ps, _, _, h, q => by
    cases h with
    | cons h1 h2 =>
      simp only [RDs] at q
      obtain ⟨v, r', rfl, q1, q2⟩ := q
      exact .cons (Dpy.dp r h1 q1) (Dpys.dp r h2 q2)
end
end

def fAdd : F2 := fun x y m P => match x, y with
  | .int i, .int j => P (.int (i + j)) m
  | .str x, .str y => x.length + y.length ≤ sizeLine ∧ P (.str (x ++ y)) m
  | .tup xs, .tup ys => xs.length + ys.length ≤ sizeLine ∧ P (.tup (xs ++ ys)) m
  | .ref a, .ref b => ∃ xs ys, m a = some (.lst xs) ∧ m b = some (.lst ys) ∧ xs.length + ys.length ≤ sizeLine ∧ ∀ p, Fr m p → P (.ref p) (m.set p (.lst (xs ++ ys)))
  | _, _ => False
def fI2 (C : Int → Int → Prop) (g : Int → Int → Int) : F2 := fun x y m P => match x, y with
  | .int i, .int j => C i j ∧ P (.int (g i j)) m
  | _, _ => False
def fSub : F2 := fI2 (fun _ _ => True) fun i j => i - j
def fMul : F2 := fI2 CMul fun i j => i * j
def fDiv : F2 := fI2 CDiv fun i j => i / j
def fMod : F2 := fI2 (fun _ j => 0 < j) fun i j => i % j
def fPow : F2 := fI2 CPow fun i j => i ^ j.toNat
def fNeg : F1 := fun x m P => match x with
  | .int i => P (.int (-i)) m
  | _ => False
def fEq : F2 := fun x y m P => match x, y with
  | .int i, .int j => P (.bl (decide (i = j))) m
  | .str i, .str j => P (.bl (decide (i = j))) m
  | .bl i, .bl j => P (.bl (decide (i = j))) m
  | .non, .non => P (.bl true) m
  | x, y => ∃ p q, Dpy m x p ∧ Dpy m y q ∧ SeqAt.shaped p = true ∧ SeqAt.shaped q = true ∧ P (.bl (PyData.eqv p q)) m
def fNe : F2 := fun x y m P => fEq x y m fun d m1 => match d with
  | .bl b => P (.bl (!b)) m1
  | _ => False
def isNon : D → Bool
  | .non => true
  | _ => false
def fIs : F2 := fun x y m P => match y with
  | .non => P (.bl (isNon x)) m
  | .bl b => ∃ a, x = .bl a ∧ P (.bl (decide (a = b))) m
  | _ => False
def fIsNot : F2 := fun x y m P => match y with
  | .non => P (.bl (!isNon x)) m
  | .bl b => ∃ a, x = .bl a ∧ P (.bl (!decide (a = b))) m
  | _ => False
/-- the order of tuples of ints -/
def lexLt : List Int → List Int → Bool
  | [], [] => false
  | [], _ :: _ => true
  | _ :: _, [] => false
  | x :: xs, y :: ys => if x = y then lexLt xs ys else decide (x < y)
def lexLe : List Int → List Int → Bool
  | [], _ => true
  | _ :: _, [] => false
  | x :: xs, y :: ys => if x = y then lexLe xs ys else decide (x ≤ y)
def fLt : F2 := fun x y m P => match x, y with
  | .int i, .int j => P (.bl (decide (i < j))) m
  | .tup xs, .tup ys => ∃ ns ms, xs = ns.map .int ∧ ys = ms.map .int ∧ P (.bl (HT.lexLt ns ms)) m
  | _, _ => False
def fLe : F2 := fun x y m P => match x, y with
  | .int i, .int j => P (.bl (decide (i ≤ j))) m
  | .tup xs, .tup ys => ∃ ns ms, xs = ns.map .int ∧ ys = ms.map .int ∧ P (.bl (lexLe ns ms)) m
  | _, _ => False
def fGt : F2 := fun x y m P => match x, y with
  | .int i, .int j => P (.bl (decide (j < i))) m
  | _, _ => False
def fGe : F2 := fun x y m P => match x, y with
  | .int i, .int j => P (.bl (decide (j ≤ i))) m
  | _, _ => False

section
variable {X : Cx} {M : Mo} {G : Gam} {W : WX}
theorem RDs.ints {K : PySem.W.Frag} {H : Hp} : ∀ {ns : List Int} {vs : List V}, RDs K H (ns.map .int) vs → vs = ns.map V.int
  | [], _, h => by simp only [List.map_nil, RDs] at h; exact h
  | n :: ns, _, h => by
    simp only [List.map_cons, RDs, RD] at h
    obtain ⟨v, r, rfl, rfl, h2⟩ := h
    rw [RDs.ints h2]; rfl
theorem RDs.ints_of {K : PySem.W.Frag} {H : Hp} : ∀ (ns : List Int), RDs K H (ns.map .int) (ns.map V.int)
  | [] => .nil
  | n :: ns => .cons (by simp only [RD]) (RDs.ints_of ns)
theorem RDs.bls {K : PySem.W.Frag} {H : Hp} : ∀ {ns : List Bool} {vs : List V}, RDs K H (ns.map .bl) vs → vs = ns.map V.bl
  | [], _, h => by simp only [List.map_nil, RDs] at h; exact h
  | n :: ns, _, h => by
    simp only [List.map_cons, RDs, RD] at h
    obtain ⟨v, r, rfl, rfl, h2⟩ := h
    rw [RDs.bls h2]; rfl
theorem RDs.strs {K : PySem.W.Frag} {H : Hp} : ∀ {ns : List Str} {vs : List V}, RDs K H (ns.map .str) vs → vs = ns.map V.str
  | [], _, h => by simp only [List.map_nil, RDs] at h; exact h
  | n :: ns, _, h => by
    simp only [List.map_cons, RDs, RD] at h
    obtain ⟨v, r, rfl, rfl, h2⟩ := h
    rw [RDs.strs h2]; rfl
theorem qo_add : OpR X (binaryOp .Add) (r2 (cq X M G W) fAdd) := by
  intro pins s σ H x y v u Q I rx ry ⟨d, e, m, P, rd, re, rm, h, kq⟩
  unfold fAdd at h
  split at h
  · simp only [RD] at rd re; subst rd re
    exact op_add pins s σ H _ _ v u Q I rx ry ⟨_, _, rfl, rfl, kq.now rm (by simp only [RD]) h⟩
  · simp only [RD] at rd re; subst rd re
    exact op_add_str pins s σ H _ _ v u Q I rx ry ⟨_, _, rfl, rfl, h.1, kq.now rm (by simp only [RD]) h.2⟩
  · rename_i xs ys
    simp only [RD] at rd re
    obtain ⟨a, vs, rfl, qa, ra⟩ := rd
    obtain ⟨b, ws, rfl, qb, rb⟩ := re
    refine op_catA pins s σ H _ _ v u Q I rx ry ⟨a, b, vs, ws, rfl, rfl, qa, qb, by rw [← ra.length, ← rb.length]; exact h.1, fun z => ?_, fun z1 z => ?_, fun z1 z p hp => kq.tup rm hp (ra.append rb) h.2⟩
    · have e : xs = [] := List.eq_nil_of_length_eq_zero (by rw [ra.length, z]; rfl)
      subst e
      exact kq.now rm (d := .tup ([] ++ ys)) (by simp only [RD]; exact ⟨b, ws, rfl, qb, rb⟩) h.2
    · have e : ys = [] := List.eq_nil_of_length_eq_zero (by rw [rb.length, z]; rfl)
      subst e
      refine kq.now rm (d := .tup (xs ++ [])) (by rw [List.append_nil]; simp only [RD]; exact ⟨a, vs, rfl, qa, ra⟩) h.2
  · rename_i a b
    simp only [RD] at rd re; subst rd re
    obtain ⟨xs, ys, e1, e2, hz, h⟩ := h
    obtain ⟨vs, f1, r1⟩ := rm a _ e1
    obtain ⟨ws, f2, r2⟩ := rm b _ e2
    exact op_cat pins s σ H _ _ v u Q I rx ry ⟨a, b, vs, ws, rfl, rfl, f1, f2, by rw [← r1.length, ← r2.length]; exact hz, fun p hp => kq.new (o := .lst (xs ++ ys)) rm hp ⟨vs ++ ws, upd_same, (r1.append r2).mono (tup_le hp)⟩ h⟩
  · exact h.elim
theorem qo_i2 {f : Value → Value → Sem Value} {C : Int → Int → Prop} {g : Int → Int → Int} (ho : OpR X f (rI C fun i j => .int (g i j))) : OpR X f (r2 (cq X M G W) (fI2 C g)) := by
  refine OpR.imp ho fun x y H Q ⟨d, e, m, P, rd, re, rm, h, kq⟩ => ?_
  unfold fI2 at h
  split at h
  · simp only [RD] at rd re
    exact ⟨_, _, rd, re, h.1, kq.now rm (by simp only [RD]) h.2⟩
  · exact h.elim
theorem qo_sub : OpR X (binaryOp .Sub) (r2 (cq X M G W) fSub) := qo_i2 (OpR.imp op_sub fun x y H Q ⟨i, j, a, b, _, q⟩ => ⟨i, j, a, b, q⟩)
theorem qo_mul : OpR X (binaryOp .Mult) (r2 (cq X M G W) fMul) := qo_i2 op_mul
theorem qo_div : OpR X (binaryOp .FloorDiv) (r2 (cq X M G W) fDiv) := qo_i2 op_fdiv
theorem qo_mod : OpR X (binaryOp .Mod) (r2 (cq X M G W) fMod) := qo_i2 op_mod
theorem qo_pow : OpR X (binaryOp .Pow) (r2 (cq X M G W) fPow) := qo_i2 op_pow
theorem qo_neg : UnR X (unaryOp .USub) (r1 (cq X M G W) fNeg) := by
  refine UnR.imp un_neg fun x H Q ⟨d, m, P, rd, rm, h, kq⟩ => ?_
  unfold fNeg at h
  split at h
  · simp only [RD] at rd; exact ⟨_, rd, kq.now rm (by simp only [RD]) h⟩
  · exact h.elim
theorem qo_eq (hu : X.A.units + 64 < cLine) : OpR X (compareOp .Eq) (r2 (cq X M G W) fEq) := by
  intro pins s σ H x y v u Q I rx ry ⟨d, e, m, P, rd, re, rm, h, kq⟩
  unfold fEq at h
  split at h
  · simp only [RD] at rd re; subst rd re
    exact op_eq pins s σ H _ _ v u Q I rx ry ⟨rfl, by rw [dec_int, Bool.beq_eq_decide_eq]; exact kq.now rm (by simp only [RD]) h⟩
  · simp only [RD] at rd re; subst rd re
    exact op_eq pins s σ H _ _ v u Q I rx ry ⟨rfl, by rw [dec_str, Bool.beq_eq_decide_eq]; exact kq.now rm (by simp only [RD]) h⟩
  · simp only [RD] at rd re; subst rd re
    exact op_eq pins s σ H _ _ v u Q I rx ry ⟨rfl, by rw [dec_bl, Bool.beq_eq_decide_eq]; exact kq.now rm (by simp only [RD]) h⟩
  · simp only [RD] at rd re; subst rd re
    exact op_eq pins s σ H _ _ v u Q I rx ry ⟨rfl, kq.now rm (d := .bl true) (by simp only [RD]; rfl) h⟩
  · obtain ⟨p, q, hp, hq, sp, sq, h⟩ := h
    exact op_eqD hu pins s σ H _ _ v u Q I rx ry ⟨p, q, hp.dp rm rd, hq.dp rm re, sp, sq, kq.now rm (by simp only [RD]) h⟩
theorem qo_ne (hu : X.A.units + 64 < cLine) : OpR X (compareOp .NotEq) (r2 (cq X M G W) fNe) := by
  intro pins s σ H x y v u Q I rx ry ⟨d, e, m, P, rd, re, rm, h, kq⟩
  unfold fNe fEq at h
  split at h
  · simp only [RD] at rd re; subst rd re
    exact op_ne pins s σ H _ _ v u Q I rx ry ⟨rfl, by rw [dec_int, Bool.beq_eq_decide_eq]; exact kq.now rm (by simp only [RD]) h⟩
  · simp only [RD] at rd re; subst rd re
    exact op_ne pins s σ H _ _ v u Q I rx ry ⟨rfl, by rw [dec_str, Bool.beq_eq_decide_eq]; exact kq.now rm (by simp only [RD]) h⟩
  · simp only [RD] at rd re; subst rd re
    exact op_ne pins s σ H _ _ v u Q I rx ry ⟨rfl, by rw [dec_bl, Bool.beq_eq_decide_eq]; exact kq.now rm (by simp only [RD]) h⟩
  · simp only [RD] at rd re; subst rd re
    exact op_ne pins s σ H _ _ v u Q I rx ry ⟨rfl, kq.now rm (d := .bl false) (by simp only [RD]; rfl) h⟩
  · obtain ⟨p, q, hp, hq, sp, sq, h⟩ := h
    exact op_neD hu pins s σ H _ _ v u Q I rx ry ⟨p, q, hp.dp rm rd, hq.dp rm re, sp, sq, kq.now rm (by simp only [RD]) h⟩
theorem non_iff {K : PySem.W.Frag} {H : Hp} {d : D} {v : V} (r : RD K H d v) : decide (v = V.non) = isNon d := by
  cases d with
  | non => simp only [RD] at r; subst r; rfl
  | bl _ => simp only [RD] at r; subst r; rfl
  | int _ => simp only [RD] at r; subst r; rfl
  | str _ => simp only [RD] at r; subst r; rfl
  | byt _ => simp only [RD] at r; subst r; rfl
  | ty _ => simp only [RD] at r; subst r; rfl
  | ref _ => simp only [RD] at r; subst r; rfl
  | tup _ => simp only [RD] at r; obtain ⟨a, vs, rfl, _⟩ := r; rfl
  | rol _ => simp only [RD] at r; obtain ⟨a, vs, rfl, _⟩ := r; rfl
theorem qo_is : OpR X (compareOp .Is) (r2 (cq X M G W) fIs) := by
  intro pins s σ H x y v u Q I rx ry ⟨d, e, m, P, rd, re, rm, h, kq⟩
  unfold fIs at h
  split at h
  · simp only [RD] at re
    refine op_isN pins s σ H x y v u Q I rx ry ⟨re, ?_⟩
    rw [non_iff rd]
    exact kq.now rm (by simp only [RD]) h
  · obtain ⟨a, rfl, h⟩ := h
    simp only [RD] at rd re
    exact op_is_bl pins s σ H x y v u Q I rx ry ⟨_, _, rd, re, kq.now rm (by simp only [RD]) h⟩
  · exact h.elim
theorem qo_isnot : OpR X (compareOp .IsNot) (r2 (cq X M G W) fIsNot) := by
  intro pins s σ H x y v u Q I rx ry ⟨d, e, m, P, rd, re, rm, h, kq⟩
  unfold fIsNot at h
  split at h
  · simp only [RD] at re
    refine op_notN pins s σ H x y v u Q I rx ry ⟨re, ?_⟩
    rw [non_iff rd]
    exact kq.now rm (by simp only [RD]) h
  · obtain ⟨a, rfl, h⟩ := h
    simp only [RD] at rd re
    exact op_isnot_bl pins s σ H x y v u Q I rx ry ⟨_, _, rd, re, kq.now rm (by simp only [RD]) h⟩
  · exact h.elim
theorem lexAt_le : ∀ (ns ms : List Int) (f g : Nat → Int) (i : Nat), (∀ j, f (i + j) = ns.getD j 0) → (∀ j, g (i + j) = ms.getD j 0) →
    Ob.lexAt (fun j => decide (f j = g j)) (fun j => decide (f j ≤ g j)) (decide (ns.length ≤ ms.length)) i (min ns.length ms.length) = lexLe ns ms
  | [], ms, f, g, i, _, _ => by simp [Ob.lexAt, lexLe]
  | n :: ns, [], f, g, i, _, _ => by simp [Ob.lexAt, lexLe]
  | n :: ns, k :: ms, f, g, i, hf, hg => by
    have e1 : f i = n := by have := hf 0; simpa using this
    have e2 : g i = k := by have := hg 0; simpa using this
    have ih := lexAt_le ns ms f g (i + 1) (fun j => by have := hf (j + 1); rw [Nat.add_assoc, Nat.add_comm 1 j]; simpa using this) (fun j => by have := hg (j + 1); rw [Nat.add_assoc, Nat.add_comm 1 j]; simpa using this)
    have hz : decide ((n :: ns).length ≤ (k :: ms).length) = decide (ns.length ≤ ms.length) := by simp
    have hm : min (n :: ns).length (k :: ms).length = min ns.length ms.length + 1 := by simp [Nat.succ_min_succ]
    rw [hz, hm, Ob.lexAt_succ, ih, e1, e2]
    show _ = if n = k then lexLe ns ms else decide (n ≤ k)
    by_cases h : n = k
    · simp [h]
    · simp [h]
theorem qo_lt (hu : X.A.units < cLine) : OpR X (compareOp .Lt) (r2 (cq X M G W) fLt) := by
  intro pins s σ H x y v u Q I rx ry ⟨d, e, m, P, rd, re, rm, h, kq⟩
  unfold fLt at h
  split at h
  · simp only [RD] at rd re; subst rd re
    exact op_lt pins s σ H _ _ v u Q I rx ry ⟨_, _, rfl, rfl, kq.now rm (by simp only [RD]) h⟩
  · simp only [RD] at rd re
    obtain ⟨a, vs, rfl, qa, ra⟩ := rd
    obtain ⟨b, ws, rfl, qb, rb⟩ := re
    obtain ⟨ns, ms, e1, e2, h⟩ := h
    rw [e1] at ra; rw [e2] at rb
    have e3 := ra.ints
    have e4 := rb.ints
    subst e3 e4
    exact op_ltT hu pins s σ H _ _ v u Q I rx ry ⟨a, b, ns, ms, rfl, rfl, qa, qb, kq.now rm (by simp only [RD]) h⟩
  · exact h.elim
theorem qo_le (hu : X.A.units < cLine) : OpR X (compareOp .LtE) (r2 (cq X M G W) fLe) := by
  intro pins s σ H x y v u Q I rx ry ⟨d, e, m, P, rd, re, rm, h, kq⟩
  unfold fLe at h
  split at h
  · simp only [RD] at rd re; subst rd re
    exact op_le pins s σ H _ _ v u Q I rx ry ⟨_, _, rfl, rfl, kq.now rm (by simp only [RD]) h⟩
  · simp only [RD] at rd re
    obtain ⟨a, vs, rfl, qa, ra⟩ := rd
    obtain ⟨b, ws, rfl, qb, rb⟩ := re
    obtain ⟨ns, ms, e1, e2, h⟩ := h
    rw [e1] at ra; rw [e2] at rb
    have e3 := ra.ints
    have e4 := rb.ints
    subst e3 e4
    refine op_leT hu pins s σ H _ _ v u Q I rx ry ⟨a, b, ns, ms, rfl, rfl, qa, qb, ?_⟩
    rw [lexAt_le ns ms (fun j => ns.getD j 0) (fun j => ms.getD j 0) 0 (fun j => by simp) (fun j => by simp)]
    exact kq.now rm (by simp only [RD]) h
  · exact h.elim
theorem qo_gt : OpR X (compareOp .Gt) (r2 (cq X M G W) fGt) := by
  refine OpR.imp op_gt fun x y H Q ⟨d, e, m, P, rd, re, rm, h, kq⟩ => ?_
  unfold fGt at h
  split at h
  · simp only [RD] at rd re; exact ⟨_, _, rd, re, kq.now rm (by simp only [RD]) h⟩
  · exact h.elim
theorem qo_ge : OpR X (compareOp .GtE) (r2 (cq X M G W) fGe) := by
  refine OpR.imp op_ge fun x y H Q ⟨d, e, m, P, rd, re, rm, h, kq⟩ => ?_
  unfold fGe at h
  split at h
  · simp only [RD] at rd re; exact ⟨_, _, rd, re, kq.now rm (by simp only [RD]) h⟩
  · exact h.elim
end
end Qz
set_option Elab.async false
set_option linter.all false
set_option maxRecDepth 100000
set_option maxHeartbeats 2000000
namespace Qz
open PySem PySem.Spec PyProof.Rows L2

def valD {κ : Type} [DecidableEq κ] (kvs : List (κ × D)) (k : κ) : Option D := (kvs.find? fun kv => decide (kv.1 = k)).map (·.2)
def putD {κ : Type} [DecidableEq κ] (kvs : List (κ × D)) (k : κ) (v : D) : List (κ × D) :=
  if (valD kvs k).isSome then kvs.map fun kv => if kv.1 = k then (kv.1, v) else kv else kvs ++ [(k, v)]
def keyD : Key → D
  | .inl i => .int i
  | .inr x => .str x
/-- what the dict at a holds at d -/
def DG (m : Mm) (a : Addr) (d : D) (o : Option D) : Prop :=
  (∃ kvs k, m a = some (.dK kvs) ∧ d = keyD k ∧ o = valD kvs k) ∨ ∃ kvs ks, m a = some (.dT kvs) ∧ d = .tup (ks.map keyD) ∧ o = valD kvs ks
/-- the dict behind a[d] = v -/
def DP (m : Mm) (a : Addr) (d v : D) (o : O) : Prop :=
  (∃ kvs k, m a = some (.dK kvs) ∧ d = keyD k ∧ kvs.length < sizeLine ∧ o = .dK (putD kvs k v)) ∨ ∃ kvs ks, m a = some (.dT kvs) ∧ d = .tup (ks.map keyD) ∧ kvs.length < sizeLine ∧ o = .dT (putD kvs ks v)

section
variable {K : PySem.W.Frag} {H : Hp}
theorem RD.key {k : Key} {v : V} (h : RD K H (keyD k) v) : v = kV k := by
  cases k with
  | inl i => simp only [keyD, RD] at h; exact h
  | inr x => simp only [keyD, RD] at h; exact h
theorem RDs.keys : ∀ {ks : List Key} {vs : List V}, RDs K H (ks.map keyD) vs → vs = ks.map kV
  | [], _, h => by simp only [List.map_nil, RDs] at h; exact h
  | k :: ks, _, h => by
    simp only [List.map_cons, RDs] at h
    obtain ⟨v, r, rfl, h1, h2⟩ := h
    rw [RDs.keys h2, h1.key]; rfl
theorem RKV.val {κ : Type} [DecidableEq κ] (k : κ) : ∀ {ds : List (κ × D)} {us : List (κ × V)}, RKV K H ds us → (valD ds k = none ∧ valV us k = none) ∨ ∃ d v, valD ds k = some d ∧ valV us k = some v ∧ RD K H d v
  | [], us, h => by simp only [RKV] at h; subst h; exact .inl ⟨rfl, rfl⟩
  | p :: ps, us, h => by
    simp only [RKV] at h
    obtain ⟨v, r, rfl, h1, h2⟩ := h
    by_cases e : p.1 = k
    · exact .inr ⟨p.2, v, by simp [valD, e], by simp [valV, e], h1⟩
    · rcases RKV.val k h2 with ⟨a, b⟩ | ⟨d, w, a, b, c⟩
      · exact .inl ⟨by simpa [valD, e] using a, by simpa [valV, e] using b⟩
      · exact .inr ⟨d, w, by simpa [valD, e] using a, by simpa [valV, e] using b, c⟩
theorem RKV.snoc {κ : Type} {k : κ} {d : D} {v : V} (r : RD K H d v) : ∀ {ds : List (κ × D)} {us : List (κ × V)}, RKV K H ds us → RKV K H (ds ++ [(k, d)]) (us ++ [(k, v)])
  | [], us, h => by simp only [RKV] at h; subst h; exact ⟨v, [], rfl, r, rfl⟩
  | p :: ps, us, h => by
    simp only [RKV] at h
    obtain ⟨w, r', rfl, h1, h2⟩ := h
    exact ⟨w, _, rfl, h1, RKV.snoc r h2⟩
theorem RKV.repl {κ : Type} [DecidableEq κ] {k : κ} {d : D} {v : V} (r : RD K H d v) : ∀ {ds : List (κ × D)} {us : List (κ × V)}, RKV K H ds us → RKV K H (ds.map fun kv => if kv.1 = k then (kv.1, d) else kv) (us.map fun kv => if kv.1 = k then (kv.1, v) else kv)
  | [], us, h => by simp only [RKV] at h; subst h; rfl
  | p :: ps, us, h => by
    simp only [RKV] at h
    obtain ⟨w, r', rfl, h1, h2⟩ := h
    rw [List.map_cons, List.map_cons]
    by_cases e : p.1 = k
    · rw [if_pos e, if_pos e]
      exact ⟨v, _, rfl, r, RKV.repl r h2⟩
    · rw [if_neg e, if_neg e]
      exact ⟨w, _, rfl, h1, RKV.repl r h2⟩
theorem RKV.put {κ : Type} [DecidableEq κ] {k : κ} {d : D} {v : V} (r : RD K H d v) {ds : List (κ × D)} {us : List (κ × V)} (h : RKV K H ds us) : RKV K H (putD ds k d) (putK us k v) := by
  have e : (us.any fun kv => decide (kv.1 = k)) = (valV us k).isSome := valV_any k us
  unfold putD putK
  rcases h.val k with ⟨a, b⟩ | ⟨d', v', a, b, c⟩
  · rw [a, e, b]
    exact h.snoc r
  · rw [a, e, b]
    exact h.repl r
theorem RKV.length {κ : Type} : ∀ {ds : List (κ × D)} {us : List (κ × V)}, RKV K H ds us → ds.length = us.length
  | [], us, h => by simp only [RKV] at h; subst h; rfl
  | p :: ps, us, h => by
    simp only [RKV] at h
    obtain ⟨w, r', rfl, h1, h2⟩ := h
    simp [RKV.length h2]
theorem RKT.val (k : List Key) : ∀ {ds : List (List Key × D)} {xs : List (List Key × Addr × Value)}, RKT K H ds xs → (valD ds k = none ∧ atKey xs k = none) ∨ ∃ d v p, valD ds k = some d ∧ atKey xs k = some p ∧ RD K H d v ∧ RelV v p.2
  | [], xs, h => by simp only [RKT] at h; subst h; exact .inl ⟨rfl, rfl⟩
  | p :: ps, us, h => by
    simp only [RKT] at h
    obtain ⟨q, qs, rfl, h1, h2, ⟨v, h3, h4⟩, h5⟩ := h
    by_cases e : p.1 = k
    · exact .inr ⟨p.2, v, q.2, by simp [valD, e], by simp [atKey, ← h1, e], h3, h4⟩
    · rcases RKT.val k h5 with ⟨a, b⟩ | ⟨d, w, z, a, b, c⟩
      · exact .inl ⟨by simpa [valD, e] using a, by simpa [atKey, ← h1, e] using b⟩
      · exact .inr ⟨d, w, z, by simpa [valD, e] using a, by simpa [atKey, ← h1, e] using b, c⟩
theorem RKT.length : ∀ {ds : List (List Key × D)} {us : List (List Key × Addr × Value)}, RKT K H ds us → ds.length = us.length
  | [], us, h => by simp only [RKT] at h; subst h; rfl
  | p :: ps, us, h => by
    simp only [RKT] at h
    obtain ⟨q, qs, rfl, h1, h2, ⟨v, h3, h4⟩, h5⟩ := h
    simp [RKT.length h5]
theorem RKT.snoc {k : List Key} {d : D} {v : V} {b : Addr} {u : Value} (r : RD K H d v) (ru : RelV v u) (hb : SqT K H b (k.map kV)) : ∀ {ds : List (List Key × D)} {us : List (List Key × Addr × Value)}, RKT K H ds us → RKT K H (ds ++ [(k, d)]) (us ++ [(k, b, u)])
  | [], us, h => by simp only [RKT] at h; subst h; exact ⟨(k, b, u), [], rfl, rfl, hb, ⟨v, r, ru⟩, rfl⟩
  | p :: ps, us, h => by
    simp only [RKT] at h
    obtain ⟨q, qs, rfl, h1, h2, h3, h5⟩ := h
    exact ⟨q, _, rfl, h1, h2, h3, RKT.snoc r ru hb h5⟩
theorem RKT.repl {k : List Key} {d : D} {v : V} {u : Value} (r : RD K H d v) (ru : RelV v u) : ∀ {ds : List (List Key × D)} {us : List (List Key × Addr × Value)}, RKT K H ds us → RKT K H (ds.map fun kv => if kv.1 = k then (kv.1, d) else kv) (us.map (putAt k u))
  | [], us, h => by simp only [RKT] at h; subst h; rfl
  | p :: ps, us, h => by
    simp only [RKT] at h
    obtain ⟨q, qs, rfl, h1, h2, h3, h5⟩ := h
    rw [List.map_cons, List.map_cons]
    by_cases e : p.1 = k
    · rw [if_pos e]
      have e2 : putAt k u q = (q.1, q.2.1, u) := by unfold putAt; rw [if_pos (h1.symm.trans e)]
      rw [e2]
      exact ⟨_, _, rfl, h1, h2, ⟨v, r, ru⟩, RKT.repl r ru h5⟩
    · rw [if_neg e]
      have e2 : putAt k u q = q := by unfold putAt; rw [if_neg (fun z => e (h1.trans z))]
      rw [e2]
      exact ⟨_, _, rfl, h1, h2, h3, RKT.repl r ru h5⟩
theorem RKT.put {k : List Key} {d : D} {v : V} {b : Addr} {u : Value} (r : RD K H d v) (ru : RelV v u) (hb : SqT K H b (k.map kV)) {ds : List (List Key × D)} {us : List (List Key × Addr × Value)} (h : RKT K H ds us) : RKT K H (putD ds k d) (storedH us k b u) := by
  unfold putD storedH
  rcases h.val k with ⟨a, b'⟩ | ⟨d', v', p, a, b', c⟩
  · rw [a, b']
    exact h.snoc r ru hb
  · rw [a, b']
    exact h.repl r ru
theorem RKT.all {P : Program} {w : World} {h : Heap} {ds : List (List Key × D)} : ∀ {ds : List (List Key × D)} {xs : List (List Key × Addr × Value)}, RKT K H ds xs → (∀ b (ks : List Key), SqT K H b (ks.map kV) → (tupleKind (mixKind P w)).is h ks b) → ∀ x ∈ xs, (tupleKind (mixKind P w)).is h x.1 x.2.1
  | [], xs, h, _, x, hx => by simp only [RKT] at h; subst h; cases hx
  | p :: ps, us, h, k, x, hx => by
    simp only [RKT] at h
    obtain ⟨q, qs, rfl, h1, h2, h3, h5⟩ := h
    rcases List.mem_cons.mp hx with e | hx
    · subst e; rw [← h1]; exact k _ _ h2
    · exact RKT.all (ds := ds) h5 k x hx
theorem length_putD {κ : Type} [DecidableEq κ] (kvs : List (κ × D)) (k : κ) (v : D) : (putD kvs k v).length ≤ kvs.length + 1 := by
  unfold putD; split <;> simp
end

section
variable {X : Cx} {M : Mo} {pins : List (Addr × Obj)} {σ : L2.St} {H : Hp} {s : Shared} {a : Addr} {m : Mm} {A : Around} {E : Value → Shared → Prop}
theorem key_sq (I : Inv X pins σ H s) {ks : List Key} {b : Addr} (e : SqT X.K H b (ks.map kV)) : (tupleKind (mixKind X.prog X.w)).is s.heap ks b := by
  obtain ⟨its, r, ⟨o, h1, h2, n, h3⟩, _⟩ := I.tuple e
  exact ⟨o, its.toArray, n, h1, h2, h3, by simpa using items_are r⟩
theorem dT_of (I : Inv X pins σ H s) (hP : M.P = X.prog) (hw : M.w = X.w) {kvs : List (List Key × D)} (r : RO X.K H M a (.dT kvs)) :
    ∃ xs, H a = some (.ext (dphi X.prog X.w a xs)) ∧ kvs.length ≤ sizeLine ∧ (a == sysModules) = false ∧ RKT X.K H kvs xs ∧ s.heap.DictOfH (tupleKind (mixKind X.prog X.w)) a xs := by
  obtain ⟨xs, e, z1, z2, rk⟩ := r
  rw [hP, hw] at e
  obtain ⟨⟨o, es, ep, h1, h2, h3, h4, h5⟩, _⟩ := I.hok a _ e
  exact ⟨xs, e, z1, z2, rk, o, es, ep, h1, h2, h3, h4, rk.all (ds := kvs) fun b ks q => key_sq I q, h5⟩
theorem ext_ok {P : Program} {w : World} {H' : Hp} {h : Heap} {xs : List (List Key × Addr × Value)} (d : h.DictOfH (tupleKind (mixKind P w)) a xs) : ObjOk P w H' h a (.ext (dphi P w a xs)) := by
  obtain ⟨o, es, ep, h1, h2, h3, h4, _, h5⟩ := d
  exact ⟨⟨o, es, ep, h1, h2, h3, h4, h5⟩, ⟨o, h1⟩, fun g1 g2 ⟨o', es', ep', k1, k2, k3, k4, k5⟩ k => ⟨o', es', ep', k _ k1, k2, k3, k4, k5⟩⟩
/-- d[y], there -/
theorem q_getItem {d v : D} {y : V} {u : Value} {Q : Value → Shared → Prop} (hu : A.units + 1 < cLine) (I : Inv X pins σ H s) (hP : M.P = X.prog) (hw : M.w = X.w) (rm : RM X.K H M m) (g : DG m a d (some v)) (rd : RD X.K H d y) (ry : RelV y u)
    (h : ∀ x w' s', Inv X pins σ H s' → RD X.K H v x → RelV x w' → Q w' s') : wpAny (model X.prog X.w) A (getItem (.ref a) u) Q E s := by
  rcases g with ⟨kvs, k, e, rfl, l⟩ | ⟨kvs, ks, e, rfl, l⟩
  · obtain ⟨us, e1, r1⟩ := rm a _ e
    have ey := rd.key
    subst ey
    rcases r1.val k with ⟨z, _⟩ | ⟨d', v', z1, z2, z3⟩
    · rw [z] at l; cases l
    · rw [z1] at l; cases l
      exact d_getItem hu I (z2 ▸ DGet.k e1) ry fun w' s' I' r' => h v' w' s' I' z3 r'
  · obtain ⟨xs, e1, z1, hd, rk, dd⟩ := dT_of I hP hw (rm a _ e)
    simp only [RD] at rd
    obtain ⟨b, vs, rfl, qb, rb⟩ := rd
    rw [rb.keys] at qb
    cases (show u = Value.ref b from ry)
    rcases rk.val ks with ⟨z, _⟩ | ⟨d', v', p, y1, y2, y3, y4⟩
    · rw [z] at l; cases l
    · rw [y1] at l; cases l
      exact wpAny_getItem_heap (tupleKind_room_in1 hu) (key_sq I qb) dd y2 (h v' _ _ (I.tok _) y3 y4)
/-- y in d -/
theorem q_in {d : D} {o : Option D} {y : V} {u : Value} {Q : Value → Shared → Prop} (hu : A.units + 1 < cLine) (I : Inv X pins σ H s) (hP : M.P = X.prog) (hw : M.w = X.w) (rm : RM X.K H M m) (g : DG m a d o) (rd : RD X.K H d y) (ry : RelV y u)
    (h : ∀ s', Inv X pins σ H s' → Q (.bool o.isSome) s') : wpAny (model X.prog X.w) A (compareOp .In u (.ref a)) Q E s := by
  rcases g with ⟨kvs, k, e, rfl, l⟩ | ⟨kvs, ks, e, rfl, l⟩
  · obtain ⟨us, e1, r1⟩ := rm a _ e
    have ey := rd.key
    subst ey
    refine d_in hu I (DGet.k e1) ry fun s' I' => ?_
    have z : (valV us k).isSome = o.isSome := by rw [l]; rcases r1.val k with ⟨a, b⟩ | ⟨_, _, a, b, _⟩ <;> rw [a, b] <;> rfl
    rw [z]
    exact h s' I'
  · obtain ⟨xs, e1, z1, hd, rk, dd⟩ := dT_of I hP hw (rm a _ e)
    simp only [RD] at rd
    obtain ⟨b, vs, rfl, qb, rb⟩ := rd
    rw [rb.keys] at qb
    cases (show u = Value.ref b from ry)
    refine wpAny_in_heap (tupleKind_room_in1 hu) (key_sq I qb) hd dd ?_
    have z : (atKey xs ks).isSome = o.isSome := by rw [l]; rcases rk.val ks with ⟨a, b⟩ | ⟨_, _, _, a, b, _⟩ <;> rw [a, b] <;> rfl
    rw [z]
    exact h _ (I.tok _)
theorem q_notIn {d : D} {o : Option D} {y : V} {u : Value} {Q : Value → Shared → Prop} (hu : A.units + 1 < cLine) (I : Inv X pins σ H s) (hP : M.P = X.prog) (hw : M.w = X.w) (rm : RM X.K H M m) (g : DG m a d o) (rd : RD X.K H d y) (ry : RelV y u)
    (h : ∀ s', Inv X pins σ H s' → Q (.bool (!o.isSome)) s') : wpAny (model X.prog X.w) A (compareOp .NotIn u (.ref a)) Q E s := by
  rcases g with ⟨kvs, k, e, rfl, l⟩ | ⟨kvs, ks, e, rfl, l⟩
  · obtain ⟨us, e1, r1⟩ := rm a _ e
    have ey := rd.key
    subst ey
    refine d_notIn hu I (DGet.k e1) ry fun s' I' => ?_
    have z : (valV us k).isSome = o.isSome := by rw [l]; rcases r1.val k with ⟨a, b⟩ | ⟨_, _, a, b, _⟩ <;> rw [a, b] <;> rfl
    rw [z]
    exact h s' I'
  · obtain ⟨xs, e1, z1, hd, rk, dd⟩ := dT_of I hP hw (rm a _ e)
    simp only [RD] at rd
    obtain ⟨b, vs, rfl, qb, rb⟩ := rd
    rw [rb.keys] at qb
    cases (show u = Value.ref b from ry)
    refine wpAny_notIn_heap (tupleKind_room_in1 hu) (key_sq I qb) hd dd ?_
    have z : (atKey xs ks).isSome = o.isSome := by rw [l]; rcases rk.val ks with ⟨a, b⟩ | ⟨_, _, _, a, b, _⟩ <;> rw [a, b] <;> rfl
    rw [z]
    exact h _ (I.tok _)
/-- the memory behind a store into the dict -/
def AfterPut (X : Cx) (M : Mo) (m : Mm) (H : Hp) (a : Addr) (o : O) (H' : Hp) : Prop := RM X.K H' M (m.set a o) ∧ Stp m H (m.set a o) H'
theorem q_setItem {d v : D} {y z : V} {u r : Value} {o : O} {Q : Unit → Shared → Prop} (hu : A.units + 1 < cLine) (I : Inv X pins σ H s) (hP : M.P = X.prog) (hw : M.w = X.w) (rm : RM X.K H M m) (g : DP m a d v o) (rd : RD X.K H d y) (ry : RelV y u) (rv : RD X.K H v z) (rr : RelV z r)
    (h : ∀ H' s', Inv X pins σ H' s' → AfterPut X M m H a o H' → Q () s') : wpAny (model X.prog X.w) A (setItem (.ref a) u r) Q E s := by
  rcases g with ⟨kvs, k, e, rfl, l, rfl⟩ | ⟨kvs, ks, e, rfl, l, rfl⟩
  · obtain ⟨us, e1, r1⟩ := rm a _ e
    have ey := rd.key
    subst ey
    refine d_setItem hu I (DPut.k e1 (by rw [← r1.length]; exact l)) ry rr fun s' I' => h _ s' I' ⟨rm.write e1 .dK ⟨_, upd_same, ?_⟩, .write e⟩
    exact (r1.put rv).mono (upd_le e1 ⟨fun _ z => (by cases z), fun _ _ z => (by cases z)⟩)
  · obtain ⟨xs, e1, z1, hd, rk, dd⟩ := dT_of I hP hw (rm a _ e)
    simp only [RD] at rd
    obtain ⟨b, vs, rfl, qb, rb⟩ := rd
    rw [rb.keys] at qb
    cases (show u = Value.ref b from ry)
    have hz : xs.length ≤ sizeLine := by rw [← rk.length]; exact z1
    refine wpAny_setItem_heap (hsz := hz) (tupleKind_room_in1 hu) (key_sq I qb) dd fun h' dd' hs => ?_
    obtain ⟨q, es, ep, hq, _⟩ := id dd'
    have J := d_write (t' := s.toks + (tupleKind (mixKind X.prog X.w)).draws ks) I (by rw [e1]; exact True.intro) hs ⟨q, hq⟩ (ext_ok dd')
    have t := upd_le (K := X.K) (o := .ext (dphi X.prog X.w a (storedH xs ks b r))) e1 ⟨fun _ z => (by cases z), fun _ _ z => (by cases z)⟩
    refine h _ _ J ⟨rm.write e1 .dphi ⟨_, by rw [hP, hw]; exact upd_same, ?_, hd, (rk.put rv rr qb).mono t⟩, .write e⟩
    have := length_putD kvs ks v
    omega
end
end Qz
set_option Elab.async false
set_option linter.all false
set_option maxRecDepth 100000
set_option maxHeartbeats 2000000
namespace Qz
open PySem PySem.Spec PyProof.Rows L2

mutual
def pyD : D → PyData
  | .non => .none
  | .bl b => .bool b
  | .int i => .int i
  | .str x => .str x
  | .tup xs => .tuple (pyDs xs)
  | _ => .none
def pyDs : List D → List PyData
  | [] => []
  | x :: xs => pyD x :: pyDs xs
end
mutual
def isPy : D → Bool
  | .non => true
  | .bl _ => true
  | .int _ => true
  | .str _ => true
  | .tup xs => isPys xs
  | _ => false
def isPys : List D → Bool
  | [] => true
  | x :: xs => isPy x && isPys xs
end
mutual
theorem isPy.dpy {m : Mm} : ∀ {d : D}, isPy d = true → Dpy m d (pyD d)
  | .non, _ => by unfold pyD; exact .non
  | .bl b, _ => by unfold pyD; exact .bl b
  | .int b, _ => by unfold pyD; exact .int b
  | .str b, _ => by unfold pyD; exact .str b
  | .tup xs, h => by
    unfold pyD
    unfold isPy at h
    exact .tup (isPys.dpys h)
  | .byt _, h => by simp [isPy] at h
  | .ty _, h => by simp [isPy] at h
  | .ref _, h => by simp [isPy] at h
  | .rol _, h => by simp [isPy] at h
theorem isPys.dpys {m : Mm} : ∀ {ds : List D}, isPys ds = true → Dpys m ds (pyDs ds)
  | [], _ => by unfold pyDs; exact .nil
  | x :: xs, h => by
    unfold pyDs
    unfold isPys at h
    rw [Bool.and_eq_true] at h
    exact .cons (isPy.dpy h.1) (isPys.dpys h.2)
end
theorem pyDs_map : ∀ ds : List D, pyDs ds = ds.map pyD
  | [] => rfl
  | x :: xs => by unfold pyDs; rw [List.map_cons, pyDs_map xs]
theorem isPys_all : ∀ {ds : List D}, isPys ds = true → ∀ d ∈ ds, isPy d = true
  | [], _, d, h => by cases h
  | x :: xs, h, d, hd => by
    unfold isPys at h
    rw [Bool.and_eq_true] at h
    rcases List.mem_cons.mp hd with e | hd
    · rw [e]; exact h.1
    · exact isPys_all h.2 d hd
theorem isPys_of : ∀ {ds : List D}, (∀ d ∈ ds, isPy d = true) → isPys ds = true
  | [], _ => by unfold isPys; rfl
  | x :: xs, h => by
    unfold isPys
    rw [Bool.and_eq_true]
    exact ⟨h x (by simp), isPys_of fun d hd => h d (by simp [hd])⟩

section
variable {X : Cx} {M : Mo} {G : Gam} {W : WX}
theorem RD.reads {pins : List (Addr × Obj)} {σ : L2.St} {H : Hp} {s : Shared} {m : Mm} {d : D} {p : PyData} {v : V} {u : Value} (I : Inv X pins σ H s) (rm : RM X.K H M m) (h : Dpy m d p) (rd : RD X.K H d v) (r : RelV v u) : ∃ as, Reads s.heap u p as :=
  Dp.reads I p v u (h.dp rm rd) r
def ordD (k : PyData → PyData → Bool) : F2 := fun x y m P => ∃ p q, Dpy m x p ∧ Dpy m y q ∧ PySem.W.alike p q = true ∧ p ≠ .none ∧ min p.depth q.depth ≤ 60 ∧ P (.bl (k p q)) m
def gLt : F2 := fun x y m P => match x, y with
  | .int i, .int j => P (.bl (decide (i < j))) m
  | x, y => ordD PySem.W.dataLt x y m P
def gLe : F2 := fun x y m P => match x, y with
  | .int i, .int j => P (.bl (decide (i ≤ j))) m
  | x, y => ordD (fun p q => !PySem.W.dataLt q p) x y m P
def gGt : F2 := fun x y m P => match x, y with
  | .int i, .int j => P (.bl (decide (j < i))) m
  | x, y => ordD (fun p q => PySem.W.dataLt q p) x y m P
def gGe : F2 := fun x y m P => match x, y with
  | .int i, .int j => P (.bl (decide (j ≤ i))) m
  | x, y => ordD (fun p q => !PySem.W.dataLt p q) x y m P
theorem qo_gLt (hu : X.A.units + 64 < cLine) : OpR X (compareOp .Lt) (r2 (cq X M G W) gLt) := by
  intro pins s σ H x y v u Q I rx ry ⟨d, e, m, P, rd, re, rm, h, kq⟩
  unfold gLt at h
  split at h
  · simp only [RD] at rd re; subst rd re
    exact op_lt pins s σ H _ _ v u Q I rx ry ⟨_, _, rfl, rfl, kq.now rm (by simp only [RD]) h⟩
  · obtain ⟨p, q, hp, hq, ha, hn, hd, h⟩ := h
    obtain ⟨as, r1⟩ := RD.reads I rm hp rd rx
    obtain ⟨bs, r2⟩ := RD.reads I rm hq re ry
    exact PySem.W.lt_data r1 r2 ha hn (by omega) ⟨.bl _, H, I, rfl, kq.now rm (d := .bl _) (by simp only [RD]) h⟩
theorem qo_gLe (hu : X.A.units + 64 < cLine) : OpR X (compareOp .LtE) (r2 (cq X M G W) gLe) := by
  intro pins s σ H x y v u Q I rx ry ⟨d, e, m, P, rd, re, rm, h, kq⟩
  unfold gLe at h
  split at h
  · simp only [RD] at rd re; subst rd re
    exact op_le pins s σ H _ _ v u Q I rx ry ⟨_, _, rfl, rfl, kq.now rm (by simp only [RD]) h⟩
  · obtain ⟨p, q, hp, hq, ha, hn, hd, h⟩ := h
    obtain ⟨as, r1⟩ := RD.reads I rm hp rd rx
    obtain ⟨bs, r2⟩ := RD.reads I rm hq re ry
    exact PySem.W.le_data r1 r2 ha hn (by omega) ⟨.bl _, H, I, rfl, kq.now rm (d := .bl _) (by simp only [RD]) h⟩
theorem qo_gGt (hu : X.A.units + 64 < cLine) : OpR X (compareOp .Gt) (r2 (cq X M G W) gGt) := by
  intro pins s σ H x y v u Q I rx ry ⟨d, e, m, P, rd, re, rm, h, kq⟩
  unfold gGt at h
  split at h
  · simp only [RD] at rd re; subst rd re
    exact op_gt pins s σ H _ _ v u Q I rx ry ⟨_, _, rfl, rfl, kq.now rm (by simp only [RD]) h⟩
  · obtain ⟨p, q, hp, hq, ha, hn, hd, h⟩ := h
    obtain ⟨as, r1⟩ := RD.reads I rm hp rd rx
    obtain ⟨bs, r2⟩ := RD.reads I rm hq re ry
    exact PySem.W.gt_data r1 r2 ha hn (by omega) ⟨.bl _, H, I, rfl, kq.now rm (d := .bl _) (by simp only [RD]) h⟩
theorem qo_gGe (hu : X.A.units + 64 < cLine) : OpR X (compareOp .GtE) (r2 (cq X M G W) gGe) := by
  intro pins s σ H x y v u Q I rx ry ⟨d, e, m, P, rd, re, rm, h, kq⟩
  unfold gGe at h
  split at h
  · simp only [RD] at rd re; subst rd re
    exact op_ge pins s σ H _ _ v u Q I rx ry ⟨_, _, rfl, rfl, kq.now rm (by simp only [RD]) h⟩
  · obtain ⟨p, q, hp, hq, ha, hn, hd, h⟩ := h
    obtain ⟨as, r1⟩ := RD.reads I rm hp rd rx
    obtain ⟨bs, r2⟩ := RD.reads I rm hq re ry
    exact PySem.W.ge_data r1 r2 ha hn (by omega) ⟨.bl _, H, I, rfl, kq.now rm (d := .bl _) (by simp only [RD]) h⟩

def truD (m : Mm) (x : D) (P : Bool → Prop) : Prop := match x with
  | .non => P false
  | .bl b => P b
  | .int i => P (i != 0)
  | .str y => y.length ≤ sizeLine ∧ P ((y.length : Int) != 0)
  | .tup xs => P (!xs.isEmpty)
  | .ref a => (∃ xs, m a = some (.lst xs) ∧ P (!xs.isEmpty)) ∨ ∃ kvs, m a = some (.dK kvs) ∧ P (!kvs.isEmpty)
  | _ => False
theorem RDs.isEmpty {K : PySem.W.Frag} {H : Hp} {ds : List D} {vs : List V} (r : RDs K H ds vs) : ds.isEmpty = vs.isEmpty := by
  cases ds with
  | nil => simp only [RDs] at r; subst r; rfl
  | cons _ _ => simp only [RDs] at r; obtain ⟨v, r', rfl, _⟩ := r; rfl
theorem RKV.isEmpty {K : PySem.W.Frag} {H : Hp} {κ : Type} {ds : List (κ × D)} {vs : List (κ × V)} (r : RKV K H ds vs) : ds.isEmpty = vs.isEmpty := by
  cases ds with
  | nil => simp only [RKV] at r; subst r; rfl
  | cons _ _ => simp only [RKV] at r; obtain ⟨v, r', rfl, _⟩ := r; rfl
theorem truD_ok {H : Hp} {m : Mm} {x : D} {v : V} {P : Bool → Prop} {Q : Bool → Prop} (rd : RD X.K H x v) (rm : RM X.K H M m) (h : truD m x P) (k : ∀ b, P b → Q b) : ∃ b, TruV X.K v H b ∧ Q b := by
  cases x with
  | non => simp only [RD] at rd; subst rd; exact ⟨_, rfl, k _ h⟩
  | bl b => simp only [RD] at rd; subst rd; exact ⟨_, rfl, k _ h⟩
  | int i => simp only [RD] at rd; subst rd; exact ⟨_, rfl, k _ h⟩
  | str y => simp only [RD] at rd; subst rd; exact ⟨_, ⟨h.1, rfl⟩, k _ h.2⟩
  | tup xs =>
    simp only [RD] at rd
    obtain ⟨a, vs, rfl, q, r⟩ := rd
    exact ⟨!vs.isEmpty, .inr (.inl ⟨vs, q, rfl⟩), k _ (by rw [← r.isEmpty]; exact h)⟩
  | ref a =>
    simp only [RD] at rd; subst rd
    rcases h with ⟨xs, e, h⟩ | ⟨kvs, e, h⟩
    · obtain ⟨vs, q, r⟩ := rm a _ e
      exact ⟨!vs.isEmpty, .inl ⟨vs, .of q, rfl⟩, k _ (by rw [← r.isEmpty]; exact h)⟩
    · obtain ⟨vs, q, r⟩ := rm a _ e
      exact ⟨!vs.isEmpty, .inr (.inr ⟨vs, q, rfl⟩), k _ (by rw [← r.isEmpty]; exact h)⟩
  | _ => exact h.elim
def wTru (a : WE) : WT := fun G ρ m Z P => a G ρ m Z fun x m1 => truD m1 x fun k => P k m1
theorem qt_tru {e : Expr} {wa : WE} (ha : PE X e (tE (cq X M G W) wa)) (he : ∀ whole, isTrue e X.env whole = (do let v ← whole; standAt e.pos; holding [v] (truthy v)) := by intro _; rfl) : PT X e (tT (cq X M G W) (wTru wa)) :=
  PT.imp (pt_truth ha he) fun σ H Q ⟨ρ, m, Z, P, re, rm, h, kq, kx⟩ =>
    ⟨ρ, m, Z, _, re, rm, h, fun x m1 vx H1 rx rm1 s1 h1 => truD_ok (X := X) rx rm1 h1 fun b hb => kq b m1 H1 rm1 s1 hb, kx⟩

def fIx : F2 := fun x y m P => match x with
  | .tup xs => ∃ i v, y = .int i ∧ atI xs i = some v ∧ P v m
  | .rol xs => ∃ i v, y = .int i ∧ atI xs i = some v ∧ P v m
  | .str z => ∃ i c, y = .int i ∧ z.length ≤ sizeLine ∧ atI z.cps.toList i = some c ∧ P (.str ⟨#[c]⟩) m
  | .ref a => (∃ xs i v, m a = some (.lst xs) ∧ y = .int i ∧ atI xs i = some v ∧ P v m) ∨ ∃ v, DG m a y (some v) ∧ P v m
  | _ => False
theorem RDs.atI {K : PySem.W.Frag} {H : Hp} {ds : List D} {vs : List V} {i : Int} {d : D} (r : RDs K H ds vs) (h : L2.atI ds i = some d) : ∃ v, L2.atI vs i = some v ∧ RD K H d v := by
  unfold L2.atI at h ⊢
  rw [← r.length]
  cases e : ixN ds.length i with
  | none => rw [e] at h; cases h
  | some j =>
    rw [e] at h
    exact r.at h
theorem slot_dict_get : typeLookup (.type "dict") "__getitem__" = pure (some (.builtin "dict.__getitem__")) := PySem.slot_dict_getitem.lookup
theorem qx_ix (hu : X.A.units + 64 < cLine) (hP : M.P = X.prog) (hw : M.w = X.w) : IxR X (r2 (cq X M G W) fIx) := by
  intro value slice pins s σ H x y v u Q I rx ry ⟨d, e, m, P, rd, re, rm, h, kq⟩ hs
  cases d with
  | tup xs =>
    obtain ⟨i, w, rfl, ha, h⟩ := h
    simp only [RD] at rd re
    obtain ⟨a, vs, rfl, q, r⟩ := rd
    obtain ⟨z, hz, rz⟩ := r.atI ha
    exact ix_tup value slice pins s σ H _ y v u Q I rx ry ⟨a, vs, i, z, rfl, re, q, hz, kq.now rm rz h⟩ hs
  | rol xs =>
    obtain ⟨i, w, rfl, ha, h⟩ := h
    simp only [RD] at rd re
    obtain ⟨a, vs, rfl, q, r⟩ := rd
    obtain ⟨z, hz, rz⟩ := r.atI ha
    exact ix_list value slice pins s σ H _ y v u Q I rx ry ⟨a, vs, i, z, rfl, re, q.sq, hz, kq.now rm rz h⟩ hs
  | str z =>
    obtain ⟨i, c, rfl, hz, ha, h⟩ := h
    simp only [RD] at rd re
    exact ix_str value slice pins s σ H x y v u Q I rx ry ⟨z, i, c, rd, re, hz, ha, kq.now rm (by simp only [RD]) h⟩ hs
  | ref a =>
    simp only [RD] at rd
    subst rd
    rcases h with ⟨xs, i, w, em, rfl, ha, h⟩ | ⟨w, g, h⟩
    · simp only [RD] at re
      obtain ⟨vs, q, r⟩ := rm a _ em
      obtain ⟨z, hz, rz⟩ := r.atI ha
      exact ix_list value slice pins s σ H _ y v u Q I rx ry ⟨a, vs, i, z, rfl, re, .of q, hz, kq.now rm rz h⟩ hs
    · cases (show v = Value.ref a from rx)
      have ty : s.TypeIs (.ref a) "dict" := by
        rcases g with ⟨kvs, k, em, _⟩ | ⟨kvs, k, em, _⟩
        · exact (tyM_is (c := cq X M G W) (x := .ref a) (z := .ref a) (m := m) I rm (by simp only [RD]) rfl (.inr ⟨rfl, .inl ⟨_, em⟩⟩)).1
        · exact (tyM_is (c := cq X M G W) (x := .ref a) (z := .ref a) (m := m) I rm (by simp only [RD]) rfl (.inr ⟨rfl, .inr ⟨_, em⟩⟩)).1
      exact tail_any ty slot_dict_get (q_getItem (by omega) I hP hw rm g re ry fun x' w' s' I' rd' rv' => ⟨x', H, I', rv', kq.now rm rd' h⟩) hs
  | _ => exact h.elim
theorem qe_ix {a b : Expr} {wa wb : WE} {pos : Pos} (hu : X.A.units + 64 < cLine) (hP : M.P = X.prog) (hw : M.w = X.w) (ha : PE X a (tE (cq X M G W) wa)) (hb : PE X b (tE (cq X M G W) wb)) (hs : PlainIx b) : PE X (.Subscript a b pos) (tE (cq X M G W) (wBin fIx wa wb)) :=
  PE.imp (pe_ix (qx_ix hu hP hw) ha hb hs) fun σ H Q ⟨ρ, m, Z, P, re, rm, h, kq, kx⟩ =>
    ⟨ρ, m, Z, _, re, rm, h, fun x m1 vx H1 rx rm1 s1 h1 => ⟨ρ, m1, Z, _, re.mono (s1.tups rm), rm1, h1, fun y m2 vy H2 ry rm2 s2 h2 => ⟨x, y, m2, _, rx.mono (s2.tups rm1), ry, rm2, h2, (kq.mono (s1.trans s2)).fgt⟩, kx.mono s1⟩, kx⟩
end
end Qz
set_option Elab.async false
set_option linter.all false
set_option maxRecDepth 100000
set_option maxHeartbeats 2000000
namespace Qz
open PySem PySem.Spec PyProof.Rows L2

abbrev WP := Gam → Ev → Mm → PX → (Option Int → Mm → Prop) → Prop
def pNo : WP := fun _ _ m _ P => P none m
def pAt (e : WE) : WP := fun G ρ m Z P => e G ρ m Z fun x m1 => ∃ i, x = .int i ∧ P (some i) m1
def cutD (xs : List D) (lo hi : Option Int) : List D := (xs.drop (HT.sIx xs.length 0 lo)).take (HT.sIx xs.length xs.length hi - HT.sIx xs.length 0 lo)
def fSl (x : D) (l u : Option Int) : F1 := fun _ m P => match x with
  | .tup xs => P (.tup (cutD xs l u)) m
  | .rol xs => ∀ p, Fr m p → P (.ref p) (m.set p (.lst (cutD xs l u)))
  | .ref a => ∃ xs, m a = some (.lst xs) ∧ ∀ p, Fr m p → P (.ref p) (m.set p (.lst (cutD xs l u)))
  | .str z => z.length ≤ sizeLine ∧ P (.str (cutS z l u)) m
  | _ => False
def wSl (e : WE) (lo hi : WP) : WE := fun G ρ m Z P => e G ρ m Z fun x m1 => lo G ρ m1 Z fun l m2 => hi G ρ m2 Z fun u m3 => fSl x l u x m3 (fgt P)
def tO (c : Cq) (w : WP) : TO := fun σ H Q => ∃ ρ m Z P, RE c.K H ρ σ ∧ RM c.K H c.M m ∧ w c.G ρ m Z P ∧ (∀ o m' H', RM c.K H' c.M m' → Stp m H m' H' → P o m' → Q o H') ∧ KX c m H Z σ
section
variable {X : Cx} {M : Mo} {G : Gam} {W : WX}
theorem PO.imp {e : Option Expr} {t t' : TO} (h : PO X e t) (k : ∀ σ H Q, t' σ H Q → t σ H Q) : PO X e t' := ⟨fun pins s σ H Q I q => h.run pins s σ H Q I (k σ H Q q)⟩
theorem qp_none {c : Cq} : PO X none (tO c pNo) := PO.imp po_none fun σ H Q ⟨ρ, m, Z, P, re, rm, h, kq, kx⟩ => kq none m H rm (.refl _ _) h
theorem qp_some {c : Cq} {e : Expr} {we : WE} (he : PE X e (tE c we)) : PO X (some e) (tO c (pAt we)) := PO.imp (po_some he) fun σ H Q ⟨ρ, m, Z, P, re, rm, h, kq, kx⟩ =>
  ⟨ρ, m, Z, _, re, rm, h, fun d m1 v H1 rd rm1 s1 ⟨i, e, h1⟩ => by
    subst e
    simp only [RD] at rd
    exact ⟨i, rd, kq _ m1 H1 rm1 s1 h1⟩, kx⟩
theorem RDs.cut {K : PySem.W.Frag} {H : Hp} {ds : List D} {vs : List V} (r : RDs K H ds vs) (lo hi : Option Int) : RDs K H (cutD ds lo hi) (cutV vs lo hi) := by
  unfold cutD cutV
  rw [← r.length]
  exact (r.drop _).take _
def rSlD (c : Cq) : V → Option Int → Option Int → Hp → VK → Prop := fun x l u H Q => ∃ d m P, RD c.K H d x ∧ RM c.K H c.M m ∧ fSl d l u d m P ∧ KQ c m H P Q
theorem qs_sl : SlR X (rSlD (cq X M G W)) := by
  intro pins s σ H x v vl vu lo hi sl Q I rx hs pl pu ⟨d, m, P, rd, rm, h, kq⟩
  cases d with
  | tup xs =>
    simp only [RD] at rd
    obtain ⟨a, vs, rfl, q, r⟩ := rd
    refine sl_tupA pins s σ H _ v vl vu lo hi sl Q I rx hs pl pu ⟨a, vs, rfl, q, fun hw => ?_, fun hw p hp => kq.tup rm hp (r.cut lo hi) h⟩
    have e : cutD xs lo hi = xs := by
      unfold cutD
      rw [r.length, hw.1, hw.2, ← r.length]
      simp
    have h' : P (.tup (cutD xs lo hi)) m := h
    rw [e] at h'
    exact kq.now rm (by simp only [RD]; exact ⟨a, vs, rfl, q, r⟩) h'
  | rol xs =>
    simp only [RD] at rd
    obtain ⟨a, vs, rfl, q, r⟩ := rd
    exact sl_list pins s σ H _ v vl vu lo hi sl Q I rx hs pl pu ⟨a, vs, rfl, q.sq, fun p hp => kq.new (o := .lst (cutD xs lo hi)) rm hp ⟨_, upd_same, (r.cut lo hi).mono (tup_le hp)⟩ h⟩
  | ref a =>
    simp only [RD] at rd
    subst rd
    obtain ⟨xs, e, h⟩ := h
    obtain ⟨vs, q, r⟩ := rm a _ e
    exact sl_list pins s σ H _ v vl vu lo hi sl Q I rx hs pl pu ⟨a, vs, rfl, .of q, fun p hp => kq.new (o := .lst (cutD xs lo hi)) rm hp ⟨_, upd_same, (r.cut lo hi).mono (tup_le hp)⟩ h⟩
  | str z =>
    simp only [RD] at rd
    exact sl_str pins s σ H _ v vl vu lo hi sl Q I rx hs pl pu ⟨z, rd, h.1, kq.now rm (by simp only [RD]) h.2⟩
  | _ => exact h.elim
theorem qe_sl {e : Expr} {we : WE} {lo hi : Option Expr} {wl wh : WP} {pos p2 : Pos} (he : PE X e (tE (cq X M G W) we)) (hl : PO X lo (tO (cq X M G W) wl)) (hh : PO X hi (tO (cq X M G W) wh)) : PE X (.Subscript e (.Slice lo hi none p2) pos) (tE (cq X M G W) (wSl we wl wh)) :=
  PE.imp (pe_slice qs_sl he hl hh) fun σ H Q ⟨ρ, m, Z, P, re, rm, h, kq, kx⟩ =>
    ⟨ρ, m, Z, _, re, rm, h, fun x m1 vx H1 rx rm1 s1 h1 => ⟨ρ, m1, Z, _, re.mono (s1.tups rm), rm1, h1, fun l m2 H2 rm2 s2 h2 => ⟨ρ, m2, Z, _, (re.mono (s1.tups rm)).mono (s2.tups rm1), rm2, h2, fun u m3 H3 rm3 s3 h3 =>
      ⟨x, m3, _, (rx.mono (s2.tups rm1)).mono (s3.tups rm2), rm3, h3, (kq.mono ((s1.trans s2).trans s3)).fgt⟩, kx.mono (s1.trans s2)⟩, kx.mono s1⟩, kx⟩

def fRev : F1 := fun x m P => match x with
  | .tup xs => P (.tup xs.reverse) m
  | .ref a => ∃ xs, m a = some (.lst xs) ∧ ∀ p, Fr m p → P (.ref p) (m.set p (.lst xs.reverse))
  | _ => False
theorem rev_places (n : Nat) : Builtin.Slice.slicePlaces ((n : Int) - 1) (-1) (-1) = n := by
  unfold Builtin.Slice.slicePlaces
  have h1 : ¬ ((-1 : Int) > 0) := by omega
  simp only [h1, if_false]
  split <;> simp <;> omega
theorem rev_pick (xs : List Value) : ((List.range xs.length).filterMap fun (m : Nat) => xs.toArray[(((xs.length : Int) - 1) + (m : Int) * (-1)).toNat]?) = xs.reverse := by
  have e : (fun (m : Nat) => xs.toArray[(((xs.length : Int) - 1) + (m : Int) * (-1)).toNat]?) = fun (m : Nat) => xs[(((xs.length : Int) - 1) + (m : Int) * (-1)).toNat]? := by funext m; simp
  rw [e]
  apply List.ext_getElem?
  intro i
  have q : ∀ (k : Nat), k ≤ xs.length → (List.range k).filterMap (fun (m : Nat) => xs[(((xs.length : Int) - 1) + (m : Int) * (-1)).toNat]?) = xs.reverse.take k := by
    intro k
    induction k with
    | zero => intro _; simp
    | succ k ih =>
      intro hk
      rw [List.range_succ, List.filterMap_append, ih (by omega)]
      have hj : (((xs.length : Int) - 1) + (k : Int) * (-1)).toNat = xs.length - 1 - k := by omega
      have hlt : xs.length - 1 - k < xs.length := by omega
      rw [List.take_add_one, List.getElem?_reverse (by omega), List.getElem?_eq_getElem hlt]
      simp only [List.filterMap_cons, List.filterMap_nil, hj]
      rw [List.getElem?_eq_getElem hlt]
      rfl
  rw [q _ (Nat.le_refl _), List.take_of_length_le (by simp)]
section
variable {prog : Program} {w : World} {A : Around} {E : Value → Shared → Prop} {s : Shared}
theorem sliceApplied_rev {sl : Addr} {vk : Value} {n : Nat} {Q : Int × Int × Nat → Shared → Prop} (hs : s.heap.IsSliceOf sl .none .none vk) (pk : IsPart vk (some (-1)))
    (h : Q ((n : Int) - 1, -1, n) s) : wpAny (model prog w) A (Builtin.Slice.sliceApplied (.ref sl) (pure (n : Int))) Q E s := by
  obtain ⟨os, hos, hcs, hds⟩ := id hs
  unfold Builtin.Slice.sliceApplied Builtin.Slice.sliceFields
  refine wpAny_bind (wpAny_bind (wpAny_field hos hds (x := .none) rfl (wpAny_bind (wpAny_field hos hds (x := .none) rfl (wpAny_bind (wpAny_field hos hds (x := vk) rfl (wpAny_pure ?_)))))))
  refine wpAny_bind (HT.slicePart_ pk ?_)
  show wpAny _ _ (if ((-1 : Int) == 0) = true then _ else _) _ _ s
  rw [if_neg (by decide)]
  refine wpAny_bind (HT.slicePart_ .none (wpAny_bind (HT.slicePart_ .none (wpAny_bind (wpAny_pure ?_)))))
  show wpAny _ _ (pure (((n : Int) - 1), (-1 : Int), Builtin.Slice.slicePlaces ((n : Int) - 1) (-1) (-1))) _ _ s
  rw [rev_places]
  exact wpAny_pure h
theorem getItem_tuple_rev {t sl : Addr} {items : List Value} {vk : Value} {Q : Value → Shared → Prop} (ht : IsTup s.heap t items.toArray) (hs : s.heap.IsSliceOf sl .none .none vk) (pk : IsPart vk (some (-1)))
    (h : Q (.ref s.heap.objs.size) { s with heap := s.heap.push { cls := .type "tuple", data := .seq items.reverse.toArray } })
    (hsz : items.length ≤ sizeLine) : wpAny (model prog w) A (getItem (.ref t) (.ref sl)) Q E s := by
  have htake : sizeOk (.seq items.reverse.toArray) := by
    show items.reverse.toArray.size ≤ sizeLine
    rw [List.size_toArray, List.length_reverse]
    exact hsz
  obtain ⟨os, hos, hcs, hds⟩ := id hs
  have hTs : s.TypeIs (.ref sl) "slice" := ⟨os, hos, hcs⟩
  unfold getItem
  try with_reducible refine wpAny_holding ?_
  first | refine wpAny_bind (wpAny_pure ?_) | skip
  refine wpAny_bind (wpAny_sequenceKey ht.typeIs (by decide) ?_)
  refine wpAny_bind (wpAny_callSpecial?_slot (name := Str.ofString "__getitem__") ht.typeIs PyProof.Rows.slot_tuple_getitem
    (wpAny_call_entry PyProof.Rows.slot_tuple_getitem ht.typeIs entry_tuple_getitem ?_ (args_tuple_getitem _ _)))
  show wpAny _ _ (Builtin.Tuple.tupleItemsOf (.ref t) >>= _) _ _ s
  refine wpAny_bind (tupleItemsOf_ ht ?_)
  refine wpAny_bind (wpAny_typeOf hTs ?_)
  rw [if_pos (by decide)]
  refine wpAny_bind (sliceApplied_rev (n := items.toArray.size) hs pk ?_)
  have hno : ¬ ((((items.toArray.size : Int) - 1) == 0 && (-1 : Int) == 1 && items.toArray.size == items.toArray.size) = true) := by
    intro q
    rw [Bool.and_eq_true, Bool.and_eq_true] at q
    exact absurd q.1.2 (by decide)
  show wpAny _ _ (if (((items.toArray.size : Int) - 1) == 0 && (-1 : Int) == 1 && items.toArray.size == items.toArray.size) = true then _ else _) _ _ s
  rw [if_neg hno, List.size_toArray, rev_pick]
  first
    | exact wpAny_bind (m := Builtin.Tuple.tupleExact _) (wpAny_newObj_type (wpAny_pure ⟨_, rfl, wpAny_pure h⟩) htake)
    | exact wpAny_bind (m := Builtin.Tuple.tupleExact _) (wpAny_newObj_type (wpAny_bind (wpAny_pure (wpAny_pure ⟨_, rfl, wpAny_pure h⟩))) htake)
    | exact wpAny_bind (wpAny_bind (m := Builtin.Tuple.tupleExact _) (wpAny_newObj_type (wpAny_pure (wpAny_pure ⟨_, rfl, wpAny_pure h⟩)) htake))
    | exact wpAny_bind (wpAny_bind (m := Builtin.Tuple.tupleExact _) (wpAny_newObj_type (wpAny_pure ⟨_, rfl, wpAny_pure h⟩) htake))
end
theorem qe_rev {e : Expr} {we : WE} {k : Nat} {p1 p2 p3 pos : Pos} (he : PE X e (tE (cq X M G W) we)) : PE X (.Subscript e (.Slice none none (some (.UnaryOp .USub (.Constant (.int 1) k p1) p2)) p3) pos) (tE (cq X M G W) (wUn fRev we)) := by
  refine ⟨fun pins s σ H Q I ⟨ρ, m, Z, P, re, rm, h, kq, kx⟩ => ?_⟩
  refine Subscript_ (thn (he.run pins s σ H (fun v H1 => ∃ d m1, RD X.K H1 d v ∧ RM X.K H1 M m1 ∧ Stp m H m1 H1 ∧ fRev d m1 (fgt P)) I ⟨ρ, m, Z, _, re, rm, h, fun d m1 v H1 r1 rm1 s1 h1 => ⟨d, m1, r1, rm1, s1, h1⟩, kx⟩) fun v s1 ⟨y, H1, I1, r1, d, m1, rd, rm1, st1, q1⟩ => ?_)
  have hst : PO X (some (.UnaryOp .USub (.Constant (.int 1) k p1) p2)) (tPart (tUn (rU fun i => .int (-i)) (tC (.int 1)))) := po_some (pe_un un_neg pe_int)
  refine wpAny_Slice (thn (po_none.run pins s1 σ H1 (fun o H2 => o = none ∧ H2 = H1) I1 ⟨rfl, rfl⟩) fun vl s2 ⟨l, H2, I2, pl, el, e2⟩ => ?_)
  subst el e2
  refine thn (po_none.run pins s2 σ H2 (fun o H3 => o = none ∧ H3 = H2) I2 ⟨rfl, rfl⟩) fun vu s3 ⟨u, H3, I3, pu, eu, e3⟩ => ?_
  subst eu e3
  refine thn (hst.run pins s3 σ H3 (fun o H4 => o = some (-1) ∧ H4 = H3) I3 ⟨1, rfl, -1, rfl, rfl, rfl⟩) fun vs s4 ⟨o, H4, I4, ps, eo, e4⟩ => ?_
  subst eo e4
  cases pl
  cases pu
  have I5 : Inv X pins σ H4 { s4 with heap := s4.heap.push { cls := .type "slice", data := .fields #[.none, .none, vs] } } := I4.kept (t' := s4.toks) fun b ob q => Heap.get?_push_of_some _ q
  have kq2 := (kq.mono st1).fgt
  cases d with
  | tup xs =>
    simp only [RD] at rd
    obtain ⟨a, ws, rfl, q, r⟩ := rd
    cases r1
    obtain ⟨its, rv, ht, hz⟩ := I5.tuple q
    have hlen := rv.length
    show wpAny (model X.prog X.w) X.A (subscriptTail e (.Slice none none (some (.UnaryOp .USub (.Constant (.int 1) k p1) p2)) p3) (.ref a) (.ref s4.heap.objs.size)) (EP X pins σ Q) X.xe { s4 with heap := s4.heap.push { cls := .type "slice", data := .fields #[.none, .none, vs] } }
    refine tail_any (ops := [.ref a, .ref s4.heap.objs.size]) ht.typeIs (PyProof.Rows.slot_tuple_getitem.lookup) ?_ (by with_unfolding_all rfl)
    refine getItem_tuple_rev ht (Heap.IsSliceOf.new _ .none .none vs) ps ?_ (by omega)
    refine ⟨.ref _, _, I5.laid (t' := s4.toks) (o := .tup ws.reverse) (fun b ob q => Heap.get?_push_of_some _ q) (Nat.le_refl _) ?_, rfl, kq2.tup rm1 (I5.hok.fresh (Nat.le_refl _)) r.reverse q1⟩
    exact ⟨by rw [List.length_reverse]; exact hz, _, rv.reverse, IsTup.new _ _⟩
  | ref a =>
    simp only [RD] at rd
    subst rd
    cases r1
    obtain ⟨xs, em, q1⟩ := q1
    obtain ⟨ws, q, r⟩ := rm1 a _ em
    obtain ⟨its, rv, ht, hz⟩ := I5.list (.of q)
    have hlen := rv.length
    show wpAny (model X.prog X.w) X.A (subscriptTail e (.Slice none none (some (.UnaryOp .USub (.Constant (.int 1) k p1) p2)) p3) (.ref a) (.ref s4.heap.objs.size)) (EP X pins σ Q) X.xe { s4 with heap := s4.heap.push { cls := .type "slice", data := .fields #[.none, .none, vs] } }
    refine tail_any (ops := [.ref a, .ref s4.heap.objs.size]) ht.isList.typeIs (PySem.slot_list_getitem.lookup) ?_ (by with_unfolding_all rfl)
    refine wpAny_getItem_list_slice ht.isList (Heap.IsSliceOf.new _ .none .none vs) .none .none ps (by decide) ?_ (by rw [List.size_toArray]; omega)
    rw [PySem.W.krv_pick]
    refine ⟨.ref _, _, I5.laid (t' := s4.toks) (o := .lst ws.reverse) (fun b ob q => Heap.get?_push_of_some _ q) (Nat.le_refl _) ?_, rfl, kq2.new (o := .lst xs.reverse) rm1 (I5.hok.fresh (Nat.le_refl _)) ⟨_, upd_same, r.reverse.mono (tup_le (I5.hok.fresh (Nat.le_refl _)))⟩ q1⟩
    exact ⟨by rw [List.length_reverse]; exact hz, _, 0, rv.reverse, Heap.get?_push_size _ rfl⟩
  | _ => exact q1.elim

/-- any in a list or tuple of data -/
def inD (x : PyData) (xs : List PyData) : Bool := xs.any fun z => PyData.eqv z x
def seqD (m : Mm) (y : D) (ds : List PyData) : Prop := match y with
  | .tup ys => Dpys m ys ds
  | .ref a => ∃ ys, m a = some (.lst ys) ∧ Dpys m ys ds
  | _ => False
def fInG (neg : Bool) : F2 := fun x y m P =>
  (∃ p ds, Dpy m x p ∧ seqD m y ds ∧ SeqAt.shaped p = true ∧ SeqAt.shaped (.list ds) = true ∧ P (.bl (xor neg (inD p ds))) m) ∨
    (∃ a o, y = .ref a ∧ DG m a x o ∧ P (.bl (xor neg o.isSome)) m) ∨
    (∃ i j, x = .str i ∧ y = .str j ∧ P (.bl (xor neg (!(Builtin.Str.occurrences j i 0 j.length 1).isEmpty))) m)
theorem qo_in (hu : X.A.units + 65 < cLine) (hP : M.P = X.prog) (hw : M.w = X.w) : OpR X (compareOp .In) (r2 (cq X M G W) (fInG false)) := by
  intro pins s σ H x y v u Q I rx ry ⟨d, e, m, P, rd, re, rm, h, kq⟩
  rcases h with ⟨p, ds, hp, hs, sp, ss, h⟩ | ⟨a, o, rfl, g, h⟩ | ⟨i, j, rfl, rfl, h⟩
  · rw [Bool.false_xor] at h
    obtain ⟨as, r1⟩ := RD.reads I rm hp rd rx
    have hroom := room_in_shaped (xs := ds) sp hu
    cases e with
    | tup ys =>
      obtain ⟨bs, r2⟩ := RD.reads I rm (.tup hs) re ry
      exact SeqAt.in_tuple_reads r2 r1 (SeqAt.canLay_of_shaped ss) (SeqAt.canLay_of_shaped sp) hroom ⟨.bl _, H, I, rfl, kq.now rm (d := .bl _) (by simp only [RD]; rfl) h⟩
    | ref b =>
      obtain ⟨ys, em, hs⟩ := hs
      obtain ⟨bs, r2⟩ := RD.reads I rm (.lst em hs) re ry
      exact SeqAt.in_list_reads r2 r1 (SeqAt.canLay_of_shaped ss) (SeqAt.canLay_of_shaped sp) hroom ⟨.bl _, H, I, rfl, kq.now rm (d := .bl _) (by simp only [RD]; rfl) h⟩
    | _ => exact hs.elim
  · simp only [RD] at re
    subst re
    cases (show u = Value.ref a from ry)
    exact q_in (by omega) I hP hw rm g rd rx fun s' I' => ⟨.bl _, H, I', rfl, kq.now rm (d := .bl _) (by simp only [RD]; rfl) (by rw [Bool.false_xor] at h; exact h)⟩
  · simp only [RD] at rd re
    subst rd re
    exact op_in_str pins s σ H _ _ v u Q I rx ry ⟨i, j, rfl, rfl, kq.now rm (d := .bl _) (by simp only [RD]; rfl) (by rw [Bool.false_xor] at h; exact h)⟩
theorem qo_notin (hu : X.A.units + 65 < cLine) (hP : M.P = X.prog) (hw : M.w = X.w) : OpR X (compareOp .NotIn) (r2 (cq X M G W) (fInG true)) := by
  intro pins s σ H x y v u Q I rx ry ⟨d, e, m, P, rd, re, rm, h, kq⟩
  rcases h with ⟨p, ds, hp, hs, sp, ss, h⟩ | ⟨a, o, rfl, g, h⟩ | ⟨i, j, rfl, rfl, h⟩
  · rw [Bool.true_xor] at h
    obtain ⟨as, r1⟩ := RD.reads I rm hp rd rx
    have hroom := room_in_shaped (xs := ds) sp hu
    cases e with
    | tup ys =>
      obtain ⟨bs, r2⟩ := RD.reads I rm (.tup hs) re ry
      exact SeqAt.notIn_tuple_reads r2 r1 (SeqAt.canLay_of_shaped ss) (SeqAt.canLay_of_shaped sp) hroom ⟨.bl _, H, I, rfl, kq.now rm (d := .bl _) (by simp only [RD]; rfl) h⟩
    | ref b =>
      obtain ⟨ys, em, hs⟩ := hs
      obtain ⟨bs, r2⟩ := RD.reads I rm (.lst em hs) re ry
      exact SeqAt.notIn_list_reads r2 r1 (SeqAt.canLay_of_shaped ss) (SeqAt.canLay_of_shaped sp) hroom ⟨.bl _, H, I, rfl, kq.now rm (d := .bl _) (by simp only [RD]; rfl) h⟩
    | _ => exact hs.elim
  · simp only [RD] at re
    subst re
    cases (show u = Value.ref a from ry)
    exact q_notIn (by omega) I hP hw rm g rd rx fun s' I' => ⟨.bl _, H, I', rfl, kq.now rm (d := .bl _) (by simp only [RD]; rfl) (by rw [Bool.true_xor] at h; exact h)⟩
  · simp only [RD] at rd re
    subst rd re
    exact op_notIn_str pins s σ H _ _ v u Q I rx ry ⟨i, j, rfl, rfl, kq.now rm (d := .bl _) (by simp only [RD]; rfl) (by rw [Bool.true_xor] at h; exact h)⟩

def fLen : FA := fun xs m P => match xs with
  | [.tup xs] => P (.int xs.length) m
  | [.rol xs] => P (.int xs.length) m
  | [.str y] => y.length ≤ sizeLine ∧ P (.int y.length) m
  | [.ref a] => ∃ xs, m a = some (.lst xs) ∧ P (.int xs.length) m
  | _ => False
theorem RDs.one_inv {K : PySem.W.Frag} {H : Hp} {d : D} {vs : List V} (r : RDs K H [d] vs) : ∃ v, vs = [v] ∧ RD K H d v := by
  simp only [RDs] at r
  obtain ⟨v, r', rfl, h, rfl⟩ := r
  exact ⟨v, rfl, h⟩
theorem RDs.two_inv {K : PySem.W.Frag} {H : Hp} {d e : D} {vs : List V} (r : RDs K H [d, e] vs) : ∃ v w, vs = [v, w] ∧ RD K H d v ∧ RD K H e w := by
  simp only [RDs] at r
  obtain ⟨v, r', rfl, h, w, r'', rfl, h2, rfl⟩ := r
  exact ⟨v, w, rfl, h, h2⟩
theorem qc_len : CallR X (.builtin "len") (rA (cq X M G W) fLen) := by
  refine CallR.imp call_len fun xs H Q ⟨ds, m, P, rd, rm, h, kq⟩ => ?_
  unfold fLen at h
  split at h
  · obtain ⟨v, rfl, rv⟩ := rd.one_inv
    simp only [RD] at rv
    obtain ⟨a, vs, rfl, q, r⟩ := rv
    exact ⟨_, _, rfl, .inr ⟨vs, q, r.length⟩, kq.now rm (by simp only [RD]) h⟩
  · obtain ⟨v, rfl, rv⟩ := rd.one_inv
    simp only [RD] at rv
    obtain ⟨a, vs, rfl, q, r⟩ := rv
    exact ⟨_, _, rfl, .inl ⟨vs, q.sq, r.length⟩, kq.now rm (by simp only [RD]) h⟩
  · obtain ⟨v, rfl, rv⟩ := rd.one_inv
    simp only [RD] at rv
    subst rv
    exact ⟨_, _, rfl, ⟨h.1, rfl⟩, kq.now rm (by simp only [RD]) h.2⟩
  · obtain ⟨v, rfl, rv⟩ := rd.one_inv
    simp only [RD] at rv
    subst rv
    obtain ⟨xs, e, h⟩ := h
    obtain ⟨vs, q, r⟩ := rm _ _ e
    exact ⟨_, _, rfl, .inl ⟨vs, .of q, r.length⟩, kq.now rm (by simp only [RD]) h⟩
  · exact h.elim
def fTuple : FA := fun xs m P => match xs with
  | [.tup xs] => P (.tup xs) m
  | [.ref a] => ∃ xs, m a = some (.lst xs) ∧ P (.tup xs) m
  | _ => False
theorem qc_tuple : CallR X (.type "tuple") (rA (cq X M G W) fTuple) := by
  refine CallR.imp call_tuple_of fun xs H Q ⟨ds, m, P, rd, rm, h, kq⟩ => ?_
  unfold fTuple at h
  split at h
  · obtain ⟨v, rfl, rv⟩ := rd.one_inv
    simp only [RD] at rv
    obtain ⟨a, vs, rfl, q, r⟩ := rv
    exact ⟨a, vs, rfl, .inr ⟨q, kq.now rm (by simp only [RD]; exact ⟨a, vs, rfl, q, r⟩) h⟩⟩
  · obtain ⟨v, rfl, rv⟩ := rd.one_inv
    simp only [RD] at rv
    subst rv
    obtain ⟨xs, e, h⟩ := h
    obtain ⟨vs, q, r⟩ := rm _ _ e
    exact ⟨_, vs, rfl, .inl ⟨.of q, fun l hl => kq.tup rm hl r h⟩⟩
  · exact h.elim
def fList : FA := fun xs m P => match xs with
  | [.tup xs] => ∀ p, Fr m p → P (.ref p) (m.set p (.lst xs))
  | [.rol xs] => ∀ p, Fr m p → P (.ref p) (m.set p (.lst xs))
  | [.ref a] => ∃ xs, m a = some (.lst xs) ∧ ∀ p, Fr m p → P (.ref p) (m.set p (.lst xs))
  | _ => False
theorem qc_list : CallR X (.type "list") (rA (cq X M G W) fList) := by
  refine CallR.imp call_list_of fun xs H Q ⟨ds, m, P, rd, rm, h, kq⟩ => ?_
  unfold fList at h
  split at h
  · rename_i ys
    obtain ⟨v, rfl, rv⟩ := rd.one_inv
    simp only [RD] at rv
    obtain ⟨a, vs, rfl, q, r⟩ := rv
    exact ⟨a, vs, rfl, .inr q, fun l hl => kq.new (o := .lst ys) rm hl ⟨vs, upd_same, r.mono (tup_le hl)⟩ h⟩
  · rename_i ys
    obtain ⟨v, rfl, rv⟩ := rd.one_inv
    simp only [RD] at rv
    obtain ⟨a, vs, rfl, q, r⟩ := rv
    exact ⟨a, vs, rfl, .inl q.sq, fun l hl => kq.new (o := .lst ys) rm hl ⟨vs, upd_same, r.mono (tup_le hl)⟩ h⟩
  · obtain ⟨v, rfl, rv⟩ := rd.one_inv
    simp only [RD] at rv
    subst rv
    obtain ⟨xs, e, h⟩ := h
    obtain ⟨vs, q, r⟩ := rm _ _ e
    exact ⟨_, vs, rfl, .inl (.of q), fun l hl => kq.new (o := .lst xs) rm hl ⟨vs, upd_same, r.mono (tup_le hl)⟩ h⟩
  · exact h.elim
def fSum : FA := fun xs m P => match xs with
  | [.ref a] => ∃ ns : List Int, m a = some (.lst (ns.map .int)) ∧ P (.int ns.sum) m
  | _ => False
theorem qc_sum (hc : X.calm = true) : CallR X (.builtin "sum") (rA (cq X M G W) fSum) := by
  refine CallR.imp (cr_sum hc) fun xs H Q ⟨ds, m, P, rd, rm, h, kq⟩ => ?_
  unfold fSum at h
  split at h
  · obtain ⟨v, rfl, rv⟩ := rd.one_inv
    simp only [RD] at rv
    subst rv
    obtain ⟨ns, e, h⟩ := h
    obtain ⟨vs, q, r⟩ := rm _ _ e
    have e2 := r.ints
    subst e2
    exact ⟨_, ns, rfl, .of q, kq.now rm (by simp only [RD]) h⟩
  · exact h.elim
def fAny : FA := fun xs m P => match xs with
  | [.ref a] => ∃ ns : List Bool, m a = some (.lst (ns.map .bl)) ∧ P (.bl (ns.any id)) m
  | _ => False
theorem qc_any (hc : X.calm = true) : CallR X (.builtin "any") (rA (cq X M G W) fAny) := by
  refine CallR.imp (cr_any hc) fun xs H Q ⟨ds, m, P, rd, rm, h, kq⟩ => ?_
  unfold fAny at h
  split at h
  · obtain ⟨v, rfl, rv⟩ := rd.one_inv
    simp only [RD] at rv
    subst rv
    obtain ⟨ns, e, h⟩ := h
    obtain ⟨vs, q, r⟩ := rm _ _ e
    have e2 := r.bls
    subst e2
    exact ⟨_, ns, rfl, .of q, kq.now rm (by simp only [RD]) h⟩
  · exact h.elim
def fAll : FA := fun xs m P => match xs with
  | [.ref a] => ∃ ns : List Bool, m a = some (.lst (ns.map .bl)) ∧ P (.bl (ns.all id)) m
  | _ => False
theorem qc_all (hc : X.calm = true) : CallR X (.builtin "all") (rA (cq X M G W) fAll) := by
  refine CallR.imp (cr_all hc) fun xs H Q ⟨ds, m, P, rd, rm, h, kq⟩ => ?_
  unfold fAll at h
  split at h
  · obtain ⟨v, rfl, rv⟩ := rd.one_inv
    simp only [RD] at rv
    subst rv
    obtain ⟨ns, e, h⟩ := h
    obtain ⟨vs, q, r⟩ := rm _ _ e
    have e2 := r.bls
    subst e2
    exact ⟨_, ns, rfl, .of q, kq.now rm (by simp only [RD]) h⟩
  · exact h.elim
def fAbs : FA := fun xs m P => match xs with
  | [.int i] => P (.int (if i < 0 then -i else i)) m
  | _ => False
theorem qc_abs : CallR X (.builtin "abs") (rA (cq X M G W) fAbs) := by
  refine CallR.imp call_abs fun xs H Q ⟨ds, m, P, rd, rm, h, kq⟩ => ?_
  unfold fAbs at h
  split at h
  · obtain ⟨v, rfl, rv⟩ := rd.one_inv
    simp only [RD] at rv
    subst rv
    exact ⟨_, rfl, kq.now rm (by simp only [RD]) h⟩
  · exact h.elim
def fInt : FA := fun xs m P => match xs with
  | [.int i] => P (.int i) m
  | [.bl k] => P (.int (if k then 1 else 0)) m
  | _ => False
theorem qc_int : CallR X (.type "int") (rA (cq X M G W) fInt) := by
  refine CallR.imp call_int1 fun xs H Q ⟨ds, m, P, rd, rm, h, kq⟩ => ?_
  unfold fInt at h
  split at h
  · obtain ⟨v, rfl, rv⟩ := rd.one_inv
    simp only [RD] at rv
    subst rv
    exact .inl ⟨_, rfl, kq.now rm (by simp only [RD]) h⟩
  · obtain ⟨v, rfl, rv⟩ := rd.one_inv
    simp only [RD] at rv
    subst rv
    exact .inr ⟨_, rfl, kq.now rm (by simp only [RD]) h⟩
  · exact h.elim
end
end Qz
set_option Elab.async false
set_option linter.all false
set_option maxRecDepth 100000
set_option maxHeartbeats 2000000
namespace Qz
open PySem PySem.Spec PyProof.Rows L2

/-- the items of a list or tuple -/
def seqI (m : Mm) (x : D) (ds : List D) : Prop := match x with
  | .tup xs => xs = ds
  | .ref a => m a = some (.lst ds)
  | _ => False
section
variable {X : Cx} {M : Mo} {G : Gam} {W : WX}
theorem reads_ints {h : Heap} {its : List Value} {ns : List Int} (r : Vals (ns.map V.int) its) : ∃ as, ReadsAll h its (ns.map PyData.int) as := by
  induction ns generalizing its with
  | nil => rw [List.map_nil] at r; cases r; exact ⟨_, .nil⟩
  | cons n ns ih =>
    rw [List.map_cons] at r
    cases r with
    | cons r1 r2 =>
      obtain ⟨t, rfl⟩ := r1
      obtain ⟨as, q⟩ := ih r2
      exact ⟨_, .cons (.int n t) q⟩
theorem depth_ints (ns : List Int) : PyData.depthAll (ns.map PyData.int) ≤ 1 := by
  induction ns with
  | nil => exact Nat.zero_le _
  | cons n ns ih =>
    rw [List.map_cons]
    show max _ _ ≤ 1
    exact Nat.max_le.mpr ⟨by unfold PyData.depth; exact Nat.zero_le _, ih⟩
theorem alike_ints (ns : List Int) : PySem.W.AlikeAll (ns.map PyData.int) := by
  refine ⟨fun x hx y hy => ?_, fun x hx => ?_⟩
  · obtain ⟨i, _, rfl⟩ := List.mem_map.mp hx
    obtain ⟨j, _, rfl⟩ := List.mem_map.mp hy
    rfl
  · obtain ⟨i, _, rfl⟩ := List.mem_map.mp hx
    intro e; cases e
def fMax : FA := fun xs m P => match xs with
  | [.int i, .int j] => P (.int (if j > i then j else i)) m
  | [x] => ∃ (n : Int) (ns : List Int), seqI m x ((n :: ns).map .int) ∧ P (.int (ns.foldl max n)) m
  | _ => False
def fMin : FA := fun xs m P => match xs with
  | [.int i, .int j] => P (.int (if j < i then j else i)) m
  | [x] => ∃ (n : Int) (ns : List Int), seqI m x ((n :: ns).map .int) ∧ P (.int (ns.foldl min n)) m
  | _ => False
theorem qc_max (hc : X.calm = true) (hu : X.A.units + 64 < cLine) : CallR X (.builtin "max") (rA (cq X M G W) fMax) := by
  intro pins s σ H xs us Q I r ⟨ds, m, P, rd, rm, h, kq⟩
  unfold fMax at h
  split at h
  · rename_i i j
    obtain ⟨v, w, rfl, rv, rw'⟩ := rd.two_inv
    simp only [RD] at rv rw'
    subst rv rw'
    exact call_max2 hc pins s σ H _ us Q I r ⟨i, j, rfl, kq.now rm (by simp only [RD]) h⟩
  · rename_i x
    obtain ⟨v, rfl, rv⟩ := rd.one_inv
    obtain ⟨u, rfl, ru⟩ := vals1 r
    obtain ⟨n, ns, hs, h⟩ := h
    have hd : X.A.units + 1 + PyData.depthAll (.int n :: ns.map PyData.int) < cLine := by
      have := depth_ints (n :: ns)
      rw [List.map_cons] at this
      omega
    have fin : ∀ (h' : Heap) (tk : Nat) (v : Value) (bs : List Addr), Reads h' v (PySem.W.maxD (.int n) (ns.map .int)) bs → (∀ b o, s.heap.get? b = some o → h'.get? b = some o) → EP X pins σ Q v { s with heap := h', toks := tk } := by
      intro h' tk v bs rr k
      rw [PySem.W.maxD_ints] at rr
      cases rr
      exact ⟨.int _, H, I.kept k, ⟨_, rfl⟩, kq.now rm (by simp only [RD]) h⟩
    cases x with
    | tup ys =>
      simp only [RD] at rv
      obtain ⟨a, vs, rfl, q, rr⟩ := rv
      cases (show u = Value.ref a from ru)
      have e : ys = (n :: ns).map .int := hs
      subst e
      have e2 := rr.ints
      subst e2
      obtain ⟨its, rvs, pl, _⟩ := I.tuple q
      obtain ⟨as, ra⟩ := reads_ints (h := s.heap) rvs
      exact PySem.W.max_tuple_data (I.ok.hd hc) pl (vs := its.toArray) (by simpa using ra) (alike_ints (n :: ns)) hd fun i v h' tk bs _ rr k => fin h' tk v bs rr k
    | ref a =>
      simp only [RD] at rv
      subst rv
      cases (show u = Value.ref a from ru)
      obtain ⟨vs, q, rr⟩ := rm a _ hs
      have e2 := rr.ints
      subst e2
      obtain ⟨its, rvs, pl, _⟩ := I.list (.of q)
      obtain ⟨as, ra⟩ := reads_ints (h := s.heap) rvs
      exact PySem.W.max_list_data (I.ok.hd hc) pl.isList (vs := its.toArray) (by simpa using ra) (alike_ints (n :: ns)) hd fun i v h' tk bs _ rr k => fin h' tk v bs rr k
    | _ => exact hs.elim
  · exact h.elim
theorem qc_min (hc : X.calm = true) (hu : X.A.units + 64 < cLine) : CallR X (.builtin "min") (rA (cq X M G W) fMin) := by
  intro pins s σ H xs us Q I r ⟨ds, m, P, rd, rm, h, kq⟩
  unfold fMin at h
  split at h
  · rename_i i j
    obtain ⟨v, w, rfl, rv, rw'⟩ := rd.two_inv
    simp only [RD] at rv rw'
    subst rv rw'
    exact call_min2 hc pins s σ H _ us Q I r ⟨i, j, rfl, kq.now rm (by simp only [RD]) h⟩
  · rename_i x
    obtain ⟨v, rfl, rv⟩ := rd.one_inv
    obtain ⟨u, rfl, ru⟩ := vals1 r
    obtain ⟨n, ns, hs, h⟩ := h
    have hd : X.A.units + 1 + PyData.depthAll (.int n :: ns.map PyData.int) < cLine := by
      have := depth_ints (n :: ns)
      rw [List.map_cons] at this
      omega
    have fin : ∀ (h' : Heap) (tk : Nat) (v : Value) (bs : List Addr), Reads h' v (PySem.W.minD (.int n) (ns.map .int)) bs → (∀ b o, s.heap.get? b = some o → h'.get? b = some o) → EP X pins σ Q v { s with heap := h', toks := tk } := by
      intro h' tk v bs rr k
      rw [PySem.W.minD_ints] at rr
      cases rr
      exact ⟨.int _, H, I.kept k, ⟨_, rfl⟩, kq.now rm (by simp only [RD]) h⟩
    cases x with
    | tup ys =>
      simp only [RD] at rv
      obtain ⟨a, vs, rfl, q, rr⟩ := rv
      cases (show u = Value.ref a from ru)
      have e : ys = (n :: ns).map .int := hs
      subst e
      have e2 := rr.ints
      subst e2
      obtain ⟨its, rvs, pl, _⟩ := I.tuple q
      obtain ⟨as, ra⟩ := reads_ints (h := s.heap) rvs
      exact PySem.W.min_tuple_data (I.ok.hd hc) pl (vs := its.toArray) (by simpa using ra) (alike_ints (n :: ns)) hd fun i v h' tk bs _ rr k => fin h' tk v bs rr k
    | ref a =>
      simp only [RD] at rv
      subst rv
      cases (show u = Value.ref a from ru)
      obtain ⟨vs, q, rr⟩ := rm a _ hs
      have e2 := rr.ints
      subst e2
      obtain ⟨its, rvs, pl, _⟩ := I.list (.of q)
      obtain ⟨as, ra⟩ := reads_ints (h := s.heap) rvs
      exact PySem.W.min_list_data (I.ok.hd hc) pl.isList (vs := its.toArray) (by simpa using ra) (alike_ints (n :: ns)) hd fun i v h' tk bs _ rr k => fin h' tk v bs rr k
    | _ => exact hs.elim
  · exact h.elim

def srtD (ds : List D) : List D := ds.mergeSort (PySem.W.dataLe false pyD)
def fSorted : FA := fun xs m P => match xs with
  | [.ref a] => ∃ ds, m a = some (.lst ds) ∧ isPys ds = true ∧ PySem.W.AllAlike (ds.map pyD) ∧ PySem.W.Sortable (ds.map pyD) ∧ (∀ d ∈ ds, (pyD d).depth ≤ 60) ∧ ∀ p, Fr m p → P (.ref p) (m.set p (.lst (srtD ds)))
  | _ => False
theorem each_of {K : PySem.W.Frag} {H : Hp} : ∀ {ds : List D} {vs : List V} {us : List Value}, RDs K H ds vs → Vals vs us → PySem.W.EachIs (fun u d => ∃ v, RD K H d v ∧ RelV v u) us ds
  | [], _, _, r, q => by simp only [RDs] at r; subst r; cases q; exact .nil
  | d :: ds, _, _, r, q => by
    simp only [RDs] at r
    obtain ⟨v, vs, rfl, r1, r2⟩ := r
    cases q with
    | cons q1 q2 => exact .cons ⟨v, r1, q1⟩ (each_of r2 q2)
theorem each_back {K : PySem.W.Frag} {H : Hp} : ∀ {ds : List D} {us : List Value}, PySem.W.EachIs (fun u d => ∃ v, RD K H d v ∧ RelV v u) us ds → ∃ vs, RDs K H ds vs ∧ Vals vs us
  | [], _, .nil => ⟨[], .nil, .nil⟩
  | d :: ds, _, .cons ⟨v, r1, q1⟩ t => by
    obtain ⟨vs, r2, q2⟩ := each_back t
    exact ⟨v :: vs, .cons r1 r2, .cons q1 q2⟩
theorem each_rd {pins : List (Addr × Obj)} {σ : L2.St} {H : Hp} {s : Shared} {m : Mm} (I : Inv X pins σ H s) (rm : RM X.K H M m) : ∀ {ds : List D} {us : List Value}, PySem.W.EachIs (fun u d => ∃ v, RD X.K H d v ∧ RelV v u) us ds → isPys ds = true →
    PySem.W.EachIs (fun v b => ∃ as, Reads s.heap v (pyD b) as) us ds
  | [], _, .nil, _ => .nil
  | d :: ds, _, .cons ⟨v, r1, q1⟩ t, hp => by
    have hp2 := hp
    unfold isPys at hp2
    rw [Bool.and_eq_true] at hp2
    exact .cons (RD.reads I rm (isPy.dpy hp2.1) r1 q1) (each_rd I rm t hp2.2)
theorem qc_sorted (hu : X.A.units + 64 < cLine) : CallR X (.builtin "sorted") (rA (cq X M G W) fSorted) := by
  intro pins s σ H xs us Q I r ⟨ds, m, P, rd, rm, h, kq⟩
  unfold fSorted at h
  split at h
  · obtain ⟨v, rfl, rv⟩ := rd.one_inv
    obtain ⟨u, rfl, ru⟩ := vals1 r
    simp only [RD] at rv
    subst rv
    obtain ⟨ds, e, hp, ha, hk, hd, h⟩ := h
    rename_i a
    cases (show u = Value.ref a from ru)
    obtain ⟨vs, q, rr⟩ := rm a _ e
    obtain ⟨its, rvs, pl, hz⟩ := I.list (.of q)
    have hl : ds.length ≤ sizeLine := by rw [rr.length]; exact hz
    have ei := each_of rr rvs
    refine PySem.W.sorted_data (enc := pyD) (R := fun u d => ∃ v, RD X.K H d v ∧ RelV v u) pl.isList ei (each_rd I rm ei hp) ha hk hl (fun b hb => by have := hd b hb; omega) fun out ho eo => ?_
    obtain ⟨ws, r2, q2⟩ := each_back eo
    obtain ⟨ep, he'⟩ := PyProof.Rows.sortedAll_at s.heap its out.toArray
    have hn : H (s.heap.objs.size + 1) = none := I.hok.fresh (Nat.le_succ _)
    have hwz : ws.length ≤ sizeLine := by rw [← r2.length, List.length_mergeSort]; exact hl
    refine ⟨.ref _, upd H (s.heap.objs.size + 1) (.lst ws), I.laid (t' := s.toks) (fun _ _ => PyProof.Rows.sortedAll_old) (Nat.le_succ _) ⟨hwz, out, ep, q2, he'⟩, rfl, kq.new (o := .lst (srtD ds)) rm hn ⟨ws, upd_same, r2.mono (tup_le hn)⟩ h⟩
  · exact h.elim

inductive Ty where
  | non | bool | int | str | bytes | tuple | list | dict
  deriving DecidableEq
def Ty.nm : Ty → String
  | .non => "NoneType"
  | .bool => "bool"
  | .int => "int"
  | .str => "str"
  | .bytes => "bytes"
  | .tuple => "tuple"
  | .list => "list"
  | .dict => "dict"
def subTy (a b : Ty) : Bool := match a, b with
  | .bool, .int => true
  | a, b => decide (a = b)
theorem kitB_ok : ∀ a b : Ty, kitB a.nm b.nm = some (subTy a b) := by
  intro a b
  cases a <;> cases b <;> decide +kernel
def tyD (m : Mm) (x : D) (T : Ty) : Prop := match x with
  | .non => T = .non
  | .bl _ => T = .bool
  | .int _ => T = .int
  | .str _ => T = .str
  | .byt _ => T = .bytes
  | .tup _ => T = .tuple
  | .rol _ => T = .list
  | .ref a => (T = .list ∧ ∃ xs, m a = some (.lst xs)) ∨ (T = .dict ∧ ((∃ kvs, m a = some (.dK kvs)) ∨ ∃ kvs, m a = some (.dT kvs)))
  | _ => False
theorem kit_D {pins : List (Addr × Obj)} {σ : L2.St} {H : Hp} {s : Shared} {m : Mm} {x : D} {v : V} {u : Value} {T : Ty} (I : Inv X pins σ H s) (rm : RM X.K H M m) (rd : RD X.K H x v) (ru : RelV v u) (h : tyD m x T) :
    ∃ P : Heap → Prop, PySem.W.KitX X.K u (.type T.nm) P ∧ P s.heap ∧ u ≠ .builtin "__main__.__loader__#opaque" := by
  cases x with
  | non => cases h; simp only [RD] at rd; subst rd; cases ru; exact ⟨_, PySem.W.kitx_none, True.intro, fun z => nomatch z⟩
  | bl b => cases h; simp only [RD] at rd; subst rd; cases ru; exact ⟨_, PySem.W.kitx_bool, True.intro, fun z => nomatch z⟩
  | int b => cases h; simp only [RD] at rd; subst rd; obtain ⟨t, rfl⟩ := ru; exact ⟨_, PySem.W.kitx_int, True.intro, fun z => nomatch z⟩
  | str b => cases h; simp only [RD] at rd; subst rd; obtain ⟨t, rfl⟩ := ru; exact ⟨_, PySem.W.kitx_str, True.intro, fun z => nomatch z⟩
  | byt b => cases h; simp only [RD] at rd; subst rd; obtain ⟨t, rfl⟩ := ru; exact ⟨_, PySem.W.kitx_bytes, True.intro, fun z => nomatch z⟩
  | tup xs =>
    cases h
    simp only [RD] at rd
    obtain ⟨a, vs, rfl, q, r⟩ := rd
    cases ru
    obtain ⟨its, rv, ⟨o, h1, h2, _⟩, _⟩ := I.tuple q
    exact ⟨_, PySem.W.kitx_tuple, ⟨o, h1, h2⟩, fun z => nomatch z⟩
  | rol xs =>
    cases h
    simp only [RD] at rd
    obtain ⟨a, vs, rfl, q, r⟩ := rd
    cases ru
    obtain ⟨its, rv, ⟨o, n, h1, h2, _⟩, _⟩ := I.list q.sq
    exact ⟨_, PySem.W.kitx_list, ⟨o, h1, h2⟩, fun z => nomatch z⟩
  | ref a =>
    simp only [RD] at rd
    subst rd
    have ru' := ru
    cases (show u = Value.ref a from ru)
    rcases h with ⟨rfl, xs, e⟩ | ⟨rfl, e⟩
    · obtain ⟨o, h1, h2⟩ := (tyM_is (c := ⟨X.K, M, fun _ _ _ _ _ => False, fun _ _ _ _ => False⟩) (x := .ref a) (z := .ref a) (m := m) (T := "list") I rm (by simp only [RD]) rfl (.inl ⟨rfl, xs, e⟩)).1
      exact ⟨_, PySem.W.kitx_list, ⟨o, h1, h2⟩, fun z => nomatch z⟩
    · obtain ⟨o, h1, h2⟩ := (tyM_is (c := ⟨X.K, M, fun _ _ _ _ _ => False, fun _ _ _ _ => False⟩) (x := .ref a) (z := .ref a) (m := m) (T := "dict") I rm (by simp only [RD]) rfl (.inr ⟨rfl, e⟩)).1
      exact ⟨_, PySem.W.kitx_dict, ⟨o, h1, h2⟩, fun z => nomatch z⟩
  | _ => exact h.elim
def fIsi : FA := fun xs m P => match xs with
  | [x, .ty c] => ∃ T C : Ty, tyD m x T ∧ c = C.nm ∧ P (.bl (subTy T C)) m
  | [x, .tup cs] => ∃ (T : Ty) (Cs : List Ty), tyD m x T ∧ cs = Cs.map (fun C => D.ty C.nm) ∧ P (.bl (Cs.any (subTy T))) m
  | _ => False
theorem kitAny_ok {K : PySem.W.Frag} (T : Ty) : ∀ Cs : List Ty, PySem.W.kitAny K (.type T.nm) (Cs.map fun C => Value.type C.nm) = some (Cs.any (subTy T))
  | [] => rfl
  | C :: Cs => by
    rw [List.map_cons, List.any_cons]
    refine kitAny_cons (b := subTy T C) (kit_ty (kitB_ok T C)) (fun e => ?_) (fun e => ?_)
    · rw [e, Bool.false_or]; exact kitAny_ok T Cs
    · rw [e, Bool.true_or]
theorem RDs.tys {K : PySem.W.Frag} {H : Hp} : ∀ {Cs : List Ty} {vs : List V} {us : List Value}, RDs K H (Cs.map fun C => D.ty C.nm) vs → Vals vs us → us = Cs.map fun C => Value.type C.nm
  | [], _, _, h, q => by simp only [List.map_nil, RDs] at h; subst h; cases q; rfl
  | C :: Cs, _, _, h, q => by
    simp only [List.map_cons, RDs, RD] at h
    obtain ⟨v, r, rfl, rfl, h2⟩ := h
    cases q with
    | cons q1 q2 =>
      rw [RDs.tys h2 q2, List.map_cons, show _ = Value.type C.nm from q1]
theorem qc_isi : CallR X (.builtin "isinstance") (rA (cq X M G W) fIsi) := by
  intro pins s σ H xs us Q I r ⟨ds, m, P, rd, rm, h, kq⟩
  unfold fIsi at h
  split at h
  · obtain ⟨v, w, rfl, rv, rw'⟩ := rd.two_inv
    obtain ⟨u1, u2, rfl, r1, r2⟩ := vals2 r
    obtain ⟨T, C, ht, rfl, h⟩ := h
    simp only [RD] at rw'
    subst rw'
    cases (show u2 = Value.type _ from r2)
    obtain ⟨Pd, Z, p, hx⟩ := kit_D I rm rv r1 ht
    exact PySem.W.kia_one Z I.kIn p (kit_ty (kitB_ok T C)) hx fun tk => ⟨.bl _, H, I.tok tk, rfl, kq.now rm (d := .bl _) (by simp only [RD]) h⟩
  · obtain ⟨v, w, rfl, rv, rw'⟩ := rd.two_inv
    obtain ⟨u1, u2, rfl, r1, r2⟩ := vals2 r
    obtain ⟨T, Cs, ht, rfl, h⟩ := h
    simp only [RD] at rw'
    obtain ⟨a, vs, rfl, q, rr⟩ := rw'
    cases (show u2 = Value.ref a from r2)
    obtain ⟨Pd, Z, p, hx⟩ := kit_D I rm rv r1 ht
    obtain ⟨its, rvs, ⟨o, h1, h2, n, h3⟩, _⟩ := I.tuple q
    have e3 := rr.tys rvs
    subst e3
    obtain ⟨oc, od, dt, sl⟩ := o
    simp only at h2 h3
    subst h2 h3
    exact PySem.W.kia_tup Z I.kIn p h1 (kitAny_ok T Cs) hx fun tk => ⟨.bl _, H, I.tok tk, rfl, kq.now rm (d := .bl _) (by simp only [RD]) h⟩
  · exact h.elim

def fSet : F3 := fun o i v m P => (∃ a xs k j, o = .ref a ∧ i = .int k ∧ m a = some (.lst xs) ∧ ixN xs.length k = some j ∧ P (m.set a (.lst (xs.set j v)))) ∨ ∃ a u, o = .ref a ∧ DP m a i v u ∧ P (m.set a u)
theorem RM.lstW {K : PySem.W.Frag} {H : Hp} {m : Mm} {a : Addr} {vs ws : List V} {ys : List D} (rm : RM K H M m) (q : H a = some (.lst vs)) (r : RDs K H ys ws) : RM K (upd H a (.lst ws)) M (m.set a (.lst ys)) := by
  have t : TupLe K H (upd H a (.lst ws)) := upd_le q ⟨fun _ z => (by cases z), fun _ _ z => (by cases z)⟩
  exact rm.write q .lst ⟨ws, upd_same, r.mono t⟩
theorem qz_set (hu : X.A.units + 64 < cLine) (hP : M.P = X.prog) (hw : M.w = X.w) : PSet X (tSet (cq X M G W) fSet) := by
  intro pins s σ H o i v ov iv u Q I ro ri rv ⟨x, y, d, m, P, rx, ry, rd, rm, h, k⟩
  rcases h with ⟨a, xs, kk, j, rfl, rfl, e, hj, h⟩ | ⟨a, o', rfl, g, h⟩
  · simp only [RD] at rx ry
    subst rx ry
    obtain ⟨vs, q, r⟩ := rm a _ e
    refine set_list pins s σ H _ _ v ov iv u Q I ro ri rv ⟨a, vs, kk, j, rfl, rfl, q, by rw [← r.length]; exact hj, ?_⟩
    exact k _ _ (rm.lstW q (r.set rd j)) (.write e) h
  · simp only [RD] at rx
    subst rx
    cases (show ov = Value.ref a from ro)
    exact q_setItem (by omega) I hP hw rm g ry ri rd rv fun H' s' I' ⟨rm', st'⟩ => ⟨H', I', k _ _ rm' st' h⟩
/-- o[i] without the road of a plain subscript: for o[i] op= e -/
def fGi : F2 := fun x y m P => ∃ a, x = .ref a ∧ ((∃ xs i v, m a = some (.lst xs) ∧ y = .int i ∧ 0 ≤ i ∧ xs[i.toNat]? = some v ∧ P v m) ∨ ∃ v, DG m a y (some v) ∧ P v m)
theorem qz_get (hu : X.A.units + 64 < cLine) (hP : M.P = X.prog) (hw : M.w = X.w) : PGet X (r2 (cq X M G W) fGi) := by
  intro pins s σ H o i ov iv Q I ro ri ⟨x, y, m, P, rx, ry, rm, h, kq⟩
  obtain ⟨a, rfl, h⟩ := h
  simp only [RD] at rx
  subst rx
  cases (show ov = Value.ref a from ro)
  rcases h with ⟨xs, k, v, e, rfl, h0, hx, h⟩ | ⟨v, g, h⟩
  · simp only [RD] at ry
    subst ry
    obtain ⟨t, rfl⟩ := ri
    obtain ⟨vs, q, r⟩ := rm a _ e
    obtain ⟨its, rv, pl, hz⟩ := I.list (.of q)
    obtain ⟨z, hz1, hz2⟩ := r.at hx
    obtain ⟨w, hw1, hw2⟩ := rv.get hz1
    have hl := line63
    have hlt : k.toNat < vs.length := (List.getElem?_eq_some_iff.mp hz1).1
    exact wpAny_getItem_list pl.isList h0 (by omega) (by simpa using hw1) ⟨z, H, I, hw2, kq.now rm hz2 h⟩
  · exact q_getItem (by omega) I hP hw rm g ry ri fun x' w' s' I' rd' rv' => ⟨x', H, I', rv', kq.now rm rd' h⟩
def fIAdd : F2 := fun x y m P => match x, y with
  | .int i, .int j => P (.int (i + j)) m
  | .str i, .str j => i.length + j.length ≤ sizeLine ∧ P (.str (i ++ j)) m
  | .ref a, .ref b => ∃ xs ys, m a = some (.lst xs) ∧ m b = some (.lst ys) ∧ xs.length + ys.length ≤ sizeLine ∧ P (.ref a) (m.set a (.lst (xs ++ ys)))
  | _, _ => False
theorem qp_iadd : PIp X .Add (tIp (cq X M G W) fIAdd) := by
  intro pins s σ H x y v u Q I rx ry ⟨d, e, m, P, rd, re, rm, h, kq⟩
  unfold fIAdd at h
  split at h
  · simp only [RD] at rd re; subst rd re
    exact iop_add pins s σ H _ _ v u Q I rx ry ⟨_, _, rfl, rfl, kq.now rm (by simp only [RD]) h⟩
  · simp only [RD] at rd re; subst rd re
    exact iop_add_str pins s σ H _ _ v u Q I rx ry ⟨_, _, rfl, rfl, h.1, kq.now rm (by simp only [RD]) h.2⟩
  · rename_i a b
    simp only [RD] at rd re; subst rd re
    obtain ⟨xs, ys, e1, e2, hz, h⟩ := h
    obtain ⟨vs, q1, r1⟩ := rm a _ e1
    obtain ⟨ws, q2, r2⟩ := rm b _ e2
    refine iop_ext pins s σ H _ _ v u Q I rx ry ⟨a, b, vs, ws, rfl, rfl, q1, q2, by rw [← r1.length, ← r2.length]; exact hz, ?_⟩
    exact kq (.ref a) _ (.ref a) _ (by simp only [RD]) (rm.lstW q1 (r1.append r2)) (.write e1) h
  · exact h.elim
theorem qp_isub : PIp X .Sub (tIp (cq X M G W) fSub) := by
  intro pins s σ H x y v u Q I rx ry ⟨d, e, m, P, rd, re, rm, h, kq⟩
  unfold fSub fI2 at h
  split at h
  · simp only [RD] at rd re; subst rd re
    exact iop_sub pins s σ H _ _ v u Q I rx ry ⟨_, _, rfl, rfl, kq.now rm (by simp only [RD]) h.2⟩
  · exact h.elim
def wAugS (fg : F2) (f : F2) (fs : F3) (o i e : WE) : WS := fun G P ρ m => o G ρ m (fun x m' => P.xx x ρ m') fun x m1 => i G ρ m1 (fun x m' => P.xx x ρ m') fun y m2 => fg x y m2 fun z m3 => e G ρ m3 (fun x m' => P.xx x ρ m') fun t m4 => f z t m4 fun r m5 => fs x y r m5 fun m6 => P.nx ρ m6
theorem qs_augS {o i e : Expr} {wo wi we : WE} {fg f : F2} {fs : F3} {op : Operator} {tpos pos : Pos} {c : Cq} (ho : PE X o (tE c wo)) (hi : PE X i (tE c wi)) (hg : PGet X (r2 c fg)) (he : PE X e (tE c we)) (hp : PIp X op (tIp c f)) (hs : PSet X (tSet c fs))
    (ha : ∀ ov iv new, augStore i ov iv new = (do holding [new, ov, iv] (setItem ov iv new); release [new, ov, iv] []; pure .next) := by intros; rfl) : PS X (.AugAssign (.Subscript o i tpos) op e pos) (tS c (wAugS fg f fs wo wi we)) :=
  PS.imp (ps_augS ho hi hg he hp hs ha) fun E σ H ⟨ρ, m, P, re, rm, h, kp⟩ =>
    ⟨ρ, m, _, _, re, rm, h, fun x m1 vx H1 rx rm1 s1 h1 => ⟨ρ, m1, _, _, re.mono (s1.tups rm), rm1, h1, fun y m2 vy H2 ry rm2 s2 h2 => ⟨x, y, m2, _, rx.mono (s2.tups rm1), ry, rm2, h2, fun z m3 vz H3 rz rm3 s3 h3 =>
      ⟨ρ, m3, _, _, (re.mono ((s1.trans s2).tups rm)).mono (s3.tups rm2), rm3, h3, fun t m4 vt H4 rt rm4 s4 h4 => ⟨z, t, m4, _, rz.mono (s4.tups rm3), rt, rm4, h4, fun r m5 vr H5 rr rm5 s5 h5 =>
        have s25 := (s3.trans s4).trans s5
        ⟨x, y, r, m5, _, (rx.mono (s2.tups rm1)).mono (s25.tups rm2), ry.mono (s25.tups rm2), rr, rm5, h5, fun m6 H6 rm6 s6 h6 =>
          have s06 := ((s1.trans s2).trans s25).trans s6
          kp.1 ρ m6 σ H6 (re.mono (s06.tups rm)) rm6 s06 h6⟩⟩,
        (kp.mono ((s1.trans s2).trans s3)).2.2.2.2.at (re.mono (((s1.trans s2).trans s3).tups rm)) rm3⟩⟩, (kp.mono s1).2.2.2.2.at (re.mono (s1.tups rm)) rm1⟩, kp.2.2.2.2.at re rm⟩

abbrev FM := D → List D → Mm → PQ → Prop
def fAppend : FM := fun x xs m P => match x, xs with
  | .ref a, [y] => ∃ ys, m a = some (.lst ys) ∧ ys.length < sizeLine ∧ P .non (m.set a (.lst (ys ++ [y])))
  | _, _ => False
theorem qm_append : MtR X "list.append" (rM (cq X M G W) fAppend) := by
  intro pins s σ H x xs v us Q I rx rs ⟨d, ds, m, P, rd, rds, rm, h, kq⟩
  unfold fAppend at h
  split at h
  · rename_i a y
    obtain ⟨ys, e, hl, h⟩ := h
    simp only [RD] at rd
    subst rd
    obtain ⟨z, rfl, rz⟩ := rds.one_inv
    obtain ⟨vs, q, r⟩ := rm a _ e
    exact mt_append pins s σ H _ _ v us Q I rx rs ⟨a, vs, z, rfl, rfl, q, by rw [← r.length]; exact hl, kq .non _ .non _ (by simp only [RD]) (rm.lstW q (r.append (.one rz))) (.write e) h⟩
  · exact h.elim
def fExtend : FM := fun x xs m P => match x, xs with
  | .ref a, [.ref b] => ∃ ys zs, m a = some (.lst ys) ∧ m b = some (.lst zs) ∧ ys.length + zs.length ≤ sizeLine ∧ P .non (m.set a (.lst (ys ++ zs)))
  | _, _ => False
theorem qm_extend : MtR X "list.extend" (rM (cq X M G W) fExtend) := by
  intro pins s σ H x xs v us Q I rx rs ⟨d, ds, m, P, rd, rds, rm, h, kq⟩
  unfold fExtend at h
  split at h
  · rename_i a b
    obtain ⟨ys, zs, e, e2, hl, h⟩ := h
    simp only [RD] at rd
    subst rd
    obtain ⟨z, rfl, rz⟩ := rds.one_inv
    simp only [RD] at rz
    subst rz
    obtain ⟨vs, q, r⟩ := rm a _ e
    obtain ⟨ws, q2, r2⟩ := rm b _ e2
    exact mt_extend pins s σ H _ _ v us Q I rx rs ⟨a, b, vs, ws, rfl, rfl, q, q2, by rw [← r.length, ← r2.length]; exact hl, kq .non _ .non _ (by simp only [RD]) (rm.lstW q (r.append r2)) (.write e) h⟩
  · exact h.elim
def fPop : FM := fun x xs m P => match x, xs with
  | .ref a, [] => ∃ ys y, m a = some (.lst ys) ∧ ys[ys.length - 1]? = some y ∧ P y (m.set a (.lst ys.dropLast))
  | .ref a, [.int i] => ∃ ys k y, m a = some (.lst ys) ∧ ixN ys.length i = some k ∧ ys[k]? = some y ∧ P y (m.set a (.lst (ys.eraseIdx k)))
  | _, _ => False
theorem RD.upd_lst {K : PySem.W.Frag} {H : Hp} {a : Addr} {vs ws : List V} {d : D} {v : V} (q : H a = some (.lst vs)) (r : RD K H d v) : RD K (upd H a (.lst ws)) d v := r.mono (upd_le q ⟨fun _ z => (by cases z), fun _ _ z => (by cases z)⟩)
theorem qm_pop : MtR X "list.pop" (rM (cq X M G W) fPop) := by
  intro pins s σ H x xs v us Q I rx rs ⟨d, ds, m, P, rd, rds, rm, h, kq⟩
  unfold fPop at h
  split at h
  · rename_i a
    obtain ⟨ys, y, e, hy, h⟩ := h
    simp only [RD] at rd
    subst rd
    simp only [RDs] at rds
    subst rds
    obtain ⟨vs, q, r⟩ := rm a _ e
    obtain ⟨z, hz, rz⟩ := r.at hy
    rw [r.length] at hz
    exact mt_pop pins s σ H _ _ v us Q I rx rs ⟨a, vs, z, rfl, rfl, q, hz, kq y _ z _ (rz.upd_lst q) (rm.lstW q r.dropLast) (.write e) h⟩
  · rename_i a i
    obtain ⟨ys, k, y, e, hk, hy, h⟩ := h
    simp only [RD] at rd
    subst rd
    obtain ⟨z, rfl, rz⟩ := rds.one_inv
    simp only [RD] at rz
    subst rz
    obtain ⟨vs, q, r⟩ := rm a _ e
    obtain ⟨z, hz, rz⟩ := r.at hy
    obtain ⟨h1, h2, h3, h4⟩ := ixN_seq hk
    have hl := line63
    obtain ⟨hvz, _⟩ := I.hok a _ q
    rw [r.length] at h1 h2 h3 h4
    exact mt_popAt pins s σ H _ _ v us Q I rx rs ⟨a, vs, i, k, z, rfl, rfl, q, by omega, by omega, h1, hz, kq y _ z _ (rz.upd_lst q) (rm.lstW q (r.eraseIdx k)) (.write e) h⟩
  · exact h.elim
def fJoin : FM := fun x xs m P => match x, xs with
  | .str a, [y] => ∃ ys : List Str, seqI m y (ys.map .str) ∧ (ys.map (·.length)).sum + ys.length * a.length ≤ 16777216 ∧ P (.str (Txt.join a ys)) m
  | _, _ => False
theorem qm_join : MtR X "str.join" (rM (cq X M G W) fJoin) := by
  refine MtR.imp mt_join fun x xs H Q ⟨d, ds, m, P, rd, rds, rm, h, kq⟩ => ?_
  unfold fJoin at h
  split at h
  · rename_i a y
    obtain ⟨ys, hs, hz, h⟩ := h
    simp only [RD] at rd
    subst rd
    obtain ⟨z, rfl, rz⟩ := rds.one_inv
    cases y with
    | tup zs =>
      have e : zs = ys.map .str := hs
      subst e
      simp only [RD] at rz
      obtain ⟨p, vs, rfl, q, r⟩ := rz
      have e2 := r.strs
      subst e2
      exact ⟨a, p, ys, rfl, rfl, .inr q, hz, kq.now rm (by simp only [RD]) h⟩
    | ref p =>
      simp only [RD] at rz
      subst rz
      obtain ⟨vs, q, r⟩ := rm p _ hs
      have e2 := r.strs
      subst e2
      exact ⟨a, p, ys, rfl, rfl, .inl (.of q), hz, kq.now rm (by simp only [RD]) h⟩
    | _ => exact hs.elim
  · exact h.elim
/-- d.setdefault(k, v) -/
def fSetd : FM := fun x xs m P => match x, xs with
  | .ref a, [y, z] => ∃ o, DP m a y z o ∧ ((∃ v, DG m a y (some v) ∧ P v m) ∨ (DG m a y none ∧ P z (m.set a o)))
  | _, _ => False
theorem DG.dK {m : Mm} {a : Addr} {kvs : List (Key × D)} {k : Key} {o : Option D} (e : m a = some (.dK kvs)) (h : DG m a (keyD k) o) : o = valD kvs k := by
  rcases h with ⟨kvs', k', e', hk, ho⟩ | ⟨kvs', ks, e', hk, ho⟩
  · rw [e] at e'; cases e'
    have : k = k' := by
      cases k <;> cases k' <;> simp only [keyD] at hk <;> cases hk <;> rfl
    rw [this]; exact ho
  · rw [e] at e'; cases e'
theorem keyD_inj : ∀ {k k' : Key}, keyD k = keyD k' → k = k'
  | .inl i, .inl j, h => by simp only [keyD] at h; cases h; rfl
  | .inr i, .inr j, h => by simp only [keyD] at h; cases h; rfl
  | .inl i, .inr j, h => by simp only [keyD] at h; cases h
  | .inr i, .inl j, h => by simp only [keyD] at h; cases h
theorem keysD_inj : ∀ {k k' : List Key}, k.map keyD = k'.map keyD → k = k'
  | [], [], _ => rfl
  | [], _ :: _, h => by cases h
  | _ :: _, [], h => by cases h
  | a :: k, b :: k', h => by
    rw [List.map_cons, List.map_cons] at h
    injection h with h1 h2
    rw [keyD_inj h1, keysD_inj h2]
theorem DG.dT {m : Mm} {a : Addr} {kvs : List (List Key × D)} {ks : List Key} {o : Option D} (e : m a = some (.dT kvs)) (h : DG m a (.tup (ks.map keyD)) o) : o = valD kvs ks := by
  rcases h with ⟨kvs', k', e', hk, ho⟩ | ⟨kvs', ks', e', hk, ho⟩
  · rw [e] at e'; cases e'
  · rw [e] at e'; cases e'
    injection hk with hk
    rw [keysD_inj hk]; exact ho
theorem qm_setd (hu : X.A.units + 64 < cLine) (hP : M.P = X.prog) (hw : M.w = X.w) : MtR X "dict.setdefault" (rM (cq X M G W) fSetd) := by
  intro pins s σ H x xs v us Q I rx rs ⟨d, ds, m, P, rd, rds, rm, h, kq⟩
  unfold fSetd at h
  split at h
  · rename_i a y z
    obtain ⟨o, g, h⟩ := h
    simp only [RD] at rd
    subst rd
    cases (show v = Value.ref a from rx)
    obtain ⟨vy, vz, rfl, ry, rz⟩ := rds.two_inv
    obtain ⟨uy, uz, rfl, ruy, ruz⟩ := vals2 rs
    rcases g with ⟨kvs, k, e, rfl, l, rfl⟩ | ⟨kvs, ks, e, rfl, l, rfl⟩
    · obtain ⟨ws, e1, r1⟩ := rm a _ e
      have ey := ry.key
      subst ey
      refine d_setd I e1 ruy ruz (by rw [← r1.length]; exact l) (fun w hv w' s' I' rw' => ?_) fun hn w' s' I' rw' => ?_
      · rcases r1.val k with ⟨_, b⟩ | ⟨d', v', z1, z2, z3⟩
        · rw [b] at hv; cases hv
        · rw [z2] at hv; cases hv
          rcases h with ⟨v0, g0, h⟩ | ⟨g0, h⟩
          · have := g0.dK e
            rw [z1] at this; cases this
            exact ⟨w, H, I', rw', kq.now rm z3 h⟩
          · have := g0.dK e
            rw [z1] at this; cases this
      · rcases r1.val k with ⟨z1, _⟩ | ⟨d', v', z1, z2, z3⟩
        · rcases h with ⟨v0, g0, h⟩ | ⟨g0, h⟩
          · have := g0.dK e
            rw [z1] at this; cases this
          · refine ⟨vz, _, I', rw', kq z (m.set a (.dK (putD kvs k z))) _ _ (rz.mono (upd_le e1 ⟨fun _ z => (by cases z), fun _ _ z => (by cases z)⟩)) (rm.write e1 .dK ⟨_, upd_same, ?_⟩) (.write e) h⟩
            exact (r1.put rz).mono (upd_le e1 ⟨fun _ z => (by cases z), fun _ _ z => (by cases z)⟩)
        · rw [z2] at hn; cases hn
    · obtain ⟨es, e1, z1, hd, rk, dd⟩ := dT_of I hP hw (rm a _ e)
      simp only [RD] at ry
      obtain ⟨b, vs, rfl, qb, rb⟩ := ry
      rw [rb.keys] at qb
      cases (show uy = Value.ref b from ruy)
      have hz : es.length ≤ sizeLine := by rw [← rk.length]; exact z1
      refine call_setdefault_heap (hsz := hz) (tupleKind_room_in1 (by omega)) (key_sq I qb) hd dd (fun p hp => ?_) fun hn h' dd' hs => ?_
      · rcases rk.val ks with ⟨_, y2⟩ | ⟨d', v', p', y1, y2, y3, y4⟩
        · rw [y2] at hp; cases hp
        · rw [y2] at hp; cases hp
          rcases h with ⟨v0, g0, h⟩ | ⟨g0, h⟩
          · have := g0.dT e
            rw [y1] at this; cases this
            exact ⟨v', H, I.tok _, y4, kq.now rm y3 h⟩
          · have := g0.dT e
            rw [y1] at this; cases this
      · rcases rk.val ks with ⟨y1, _⟩ | ⟨d', v', p', y1, y2, y3, y4⟩
        · rcases h with ⟨v0, g0, h⟩ | ⟨g0, h⟩
          · have := g0.dT e
            rw [y1] at this; cases this
          · obtain ⟨q, ees, ep, hq, _⟩ := id dd'
            have J := d_write (t' := s.toks + (tupleKind (mixKind X.prog X.w)).draws ks) I (by rw [e1]; exact True.intro) hs ⟨q, hq⟩ (ext_ok dd')
            have t := upd_le (K := X.K) (o := .ext (dphi X.prog X.w a (storedH es ks b uz))) e1 ⟨fun _ z => (by cases z), fun _ _ z => (by cases z)⟩
            refine ⟨vz, _, J, ruz, kq z (m.set a (.dT (putD kvs ks z))) _ _ (rz.mono t) (rm.write e1 .dphi ⟨_, by rw [hP, hw]; exact upd_same, ?_, hd, (rk.put rz ruz qb).mono t⟩) (.write e) h⟩
            have := length_putD kvs ks z
            omega
        · rw [y2] at hn; cases hn
  · exact h.elim

def wDict0 : WE := fun _ _ m _ P => (∀ p, Fr m p → P (.ref p) (m.set p (.dK []))) ∨ ∀ p, Fr m p → P (.ref p) (m.set p (.dT []))
theorem qe_dict0 {pos : Pos} (hP : M.P = X.prog) (hw : M.w = X.w) : PE X (.Dict [] [] pos) (tE (cq X M G W) wDict0) := by
  refine ⟨fun pins s σ H Q I ⟨ρ, m, Z, P, re, rm, h, kq, kx⟩ => ?_⟩
  have hn := I.hok.fresh (Nat.le_refl s.heap.objs.size)
  rcases h with h | h
  · exact pe_dnewK.run pins s σ H Q I fun p hp => kq.new (o := .dK []) rm hp ⟨[], upd_same, by simp only [RKV]⟩ h
  · have dd : (s.heap.push { cls := .type "dict", data := .dict #[] }).DictOfH (tupleKind (mixKind X.prog X.w)) s.heap.objs.size [] := ⟨_, #[], 0, Heap.get?_push_size _ rfl, ⟨rfl, rfl, rfl⟩, rfl, rfl, (fun x hx => by cases hx), List.nodup_nil⟩
    refine wpAny_Dict_empty ⟨.ref s.heap.objs.size, _, I.laid (a := s.heap.objs.size) (o := .ext (dphi X.prog X.w s.heap.objs.size [])) (t' := s.toks) (fun _ _ q => Heap.get?_push_of_some _ q) (Nat.le_refl _) (ext_ok dd), rfl, ?_⟩
    exact kq.new (o := .dT []) rm hn ⟨[], by rw [hP, hw]; exact upd_same, Nat.zero_le _, beq_eq_false_iff_ne.mpr (Ne.symm (Nat.ne_of_lt I.big)), by simp only [RKT]⟩ h
end
end Qz
set_option Elab.async false
set_option linter.all false
set_option maxRecDepth 100000
set_option maxHeartbeats 2000000
namespace Qz
open PySem PySem.Spec PyProof.Rows L2

mutual
def relDv (K : PySem.W.Frag) : D → Value → Bool
  | .tup ds, u => match u with
    | .ref a => match K.lookup a with
      | some ⟨.type c, _, .seq its _, _⟩ => decide (c = "tuple") && (decide (its.size ≤ sizeLine) && relDvs K ds its.toList)
      | _ => false
    | _ => false
  | .non, u => He.relB .non u
  | .bl b, u => He.relB (.bl b) u
  | .int i, u => He.relB (.int i) u
  | .str x, u => He.relB (.str x) u
  | .byt b, u => He.relB (.byt b) u
  | .ty n, u => He.relB (.ty n) u
  | _, _ => false
def relDvs (K : PySem.W.Frag) : List D → List Value → Bool
  | [], us => match us with
    | [] => true
    | _ => false
  | d :: ds, us => match us with
    | u :: us => relDv K d u && relDvs K ds us
    | [] => false
end
theorem ba {a b : Bool} (h : (a && b) = true) : a = true ∧ b = true := Bool.and_eq_true_iff.mp h
mutual
theorem relDv_ok {K : PySem.W.Frag} : ∀ {d : D} {u : Value}, relDv K d u = true → ∃ v, RelV v u ∧ ∀ H, RD K H d v
  | .tup ds, u, h => by
    unfold relDv at h
    split at h
    · rename_i a
      split at h
      · rename_i c od its n sl e
        obtain ⟨h1, h2⟩ := ba h
        obtain ⟨h3, h4⟩ := ba h2
        obtain ⟨vs, rv, rd⟩ := relDvs_ok h4
        refine ⟨.ref a, rfl, fun H => ?_⟩
        simp only [RD]
        exact ⟨a, vs, rfl, .inr ⟨_, its, n, e, congrArg Value.type (of_decide_eq_true h1), rfl, of_decide_eq_true h3, rv⟩, rd H⟩
      · cases h
    · cases h
  | .non, u, h => by unfold relDv at h; exact ⟨_, He.relB_ok h, fun H => by simp only [RD]⟩
  | .bl b, u, h => by unfold relDv at h; exact ⟨_, He.relB_ok h, fun H => by simp only [RD]⟩
  | .int b, u, h => by unfold relDv at h; exact ⟨_, He.relB_ok h, fun H => by simp only [RD]⟩
  | .str b, u, h => by unfold relDv at h; exact ⟨_, He.relB_ok h, fun H => by simp only [RD]⟩
  | .byt b, u, h => by unfold relDv at h; exact ⟨_, He.relB_ok h, fun H => by simp only [RD]⟩
  | .ty b, u, h => by unfold relDv at h; exact ⟨_, He.relB_ok h, fun H => by simp only [RD]⟩
  | .ref _, u, h => by unfold relDv at h; cases h
  | .rol _, u, h => by unfold relDv at h; cases h
theorem relDvs_ok {K : PySem.W.Frag} : ∀ {ds : List D} {us : List Value}, relDvs K ds us = true → ∃ vs, Vals vs us ∧ ∀ H, RDs K H ds vs
  | [], us, h => by
    unfold relDvs at h
    split at h
    · exact ⟨[], .nil, fun H => .nil⟩
    · cases h
  | d :: ds, us, h => by
    unfold relDvs at h
    split at h
    · obtain ⟨h1, h2⟩ := ba h
      obtain ⟨v, r1, r2⟩ := relDv_ok h1
      obtain ⟨vs, r3, r4⟩ := relDvs_ok h2
      exact ⟨v :: vs, .cons r1 r3, fun H => .cons (r2 H) (r4 H)⟩
    · cases h
end
/-- the module's name x is that datum -/
def conB (K : PySem.W.Frag) (x : Str) (d : D) : Bool := match PySem.W.nsIn K mainGlobals x with
  | some (some u) => relDv K d u
  | _ => false
theorem conB_ok {K : PySem.W.Frag} {h : Heap} {mg : Str → Option Value} {x : Str} {d : D} (X : K.In h) (G : h.Ns mainGlobals mg) (c : conB K x d = true) : ∃ u v, mg x = some u ∧ RelV v u ∧ ∀ H, RD K H d v := by
  unfold conB at c
  split at c
  · rename_i u e
    obtain ⟨v, r1, r2⟩ := relDv_ok c
    exact ⟨u, v, PySem.W.mg_of X G e, r1, r2⟩
  · cases c

/-- an own exception class: its name, its field, the file of the program, its __init__ (self, f): super().__init__(f); self.f = f -/
structure XD where
  x : Str
  f : Str
  file : Str
  d : He.DefD
def xCls (K : PySem.W.Frag) (C : Addr) (f : Str) : Bool :=
  PySem.W.excInitIn K C HandSPX.veTail "ValueError.__new__" && (PySem.W.keepIn K (.ref C) && (decide (PySem.W.subIn K (.ref C) (.type "BaseException") = some true) && (decide (PySem.W.subIn K (.ref C) (.type "ValueError") = some true) && (decide (PySem.W.typeIn K (.ref C) = some (.type "type")) && (PySem.W.hasDictIn K C &&
  (decide (PySem.W.findIn K (.ref C) "__setattr__" = some (some (.builtin "object.__setattr__"))) && (decide (PySem.W.findIn K (.ref C) "__getattribute__" = some (some (.builtin "BaseException.__getattribute__"))) && (decide (PySem.W.findIn K (.ref C) "__getattr__" = some none) && (decide (PySem.W.findIn K (.ref C) f = some none) &&
  (decide (PySem.W.mroIn K C (.ref C) = some true) && (decide (PySem.W.nsIn K cStatics "thirdparty.any" = some none) && (decide (PySem.W.ks_superIn K C C "__init__" = some (some (.builtin "ValueError.__init__"))) && (match PySem.W.clsIn K C with
    | some cd => HandSPX.refsVE cd.mro
    | none => false)))))))))))))
def xFun (K : PySem.W.Frag) (C fI : Addr) (qual file : Str) : Bool :=
  decide (PySem.W.findIn K (.ref C) "__init__" = some (some (.ref fI))) && (decide (PySem.W.typeIn K (.ref fI) = some (.type "function")) && (match K.lookup fI with
    | some ⟨_, _, .func fd, _⟩ => PySem.W.codeIn K fd.code qual && ((match fd.closure with
      | [(y, a)] => decide (y = ("__class__" : Str)) && (match K.lookup a with
        | some ⟨_, _, .cell (some (.ref c)), _⟩ => decide (c = C)
        | _ => false)
      | _ => false) && (match fd.code with
      | .ref c => (match K.lookup c with
        | some ⟨_, _, .fields vs, _⟩ => (match vs[2]? with
          | some (Value.str z _) => decide (z = file)
          | _ => false)
        | _ => false)
      | _ => false))
    | _ => false))
def xObs (K : PySem.W.Frag) (q : XD) : Bool := xCls K (He.ga K q.x) q.f && xFun K (He.ga K q.x) (He.ma K (He.ga K q.x) "__init__") q.d.qual q.file
abbrev XO : Type := Option (Str × Str × Arguments × FuncBody × Scope × Addr × Value × Value × Addr)
/-- what the exceptions' __init__ are, as the heap has it -/
def xVal (K : PySem.W.Frag) (q : XD) : XO := match K.lookup (He.ma K (He.ga K q.x) "__init__") with
  | some ⟨_, _, .func fd, _⟩ => some (fd.name, fd.qualname, fd.params, fd.body, fd.scope, fd.globals, fd.defaults, fd.kwdefaults, fd.builtins)
  | _ => none
structure Law where
  fa : List He.Fa
  fn : List He.DefD
  cs : List (Str × D)
  cl : List Str
  xs : List XD
  tf : List (He.Defn × Str)
def XD.val (q : XD) : XO := some (q.d.name, q.d.qual, q.d.params, .stmts q.d.body, q.d.scope, mainGlobals, .none, .none, builtinsNs)
def Law.tabs (L : Law) (K : PySem.W.Frag) : List (Addr × Str) := L.tf.map fun p => ((He.cT K p.1).2, p.2)
def Law.tabsOk (L : Law) (K : PySem.W.Frag) : Bool := (L.tabs K).all fun p => (L.tabs K).all fun q => !decide (p.1 = q.1) || decide (p.2 = q.2)
def Law.ex (L : Law) (K : PySem.W.Frag) : Bool := (L.cs.all fun p => conB K p.1 p.2) && (L.xs.all fun q => xObs K q) && L.tabsOk K
abbrev AlG : Type := He.AlX × List XO
/-- what is told of the written part K -/
structure Law.Says (L : Law) (K : PySem.W.Frag) : Prop where
  d : He.SaysD L.fa L.fn K
  more : L.ex K = true
  xv : L.xs.map (xVal K) = L.xs.map (XD.val)
structure Law.SaysH (L : Law) (w : World) (h : Heap) (K : PySem.W.Frag) : Prop where
  x : He.SaysX L.fa L.fn [] (L.tf.map (·.1)) L.ex w h K
  xv : L.xs.map (xVal K) = L.xs.map (XD.val)
theorem Law.SaysH.s {L : Law} {w : World} {h : Heap} {K : PySem.W.Frag} (c : L.SaysH w h K) : L.Says K := ⟨c.x.t.d, c.x.more, c.xv⟩
/-- the addresses that are looked at -/
def seenG (n : Nat) (g : Addr → Option Obj) : List Addr := He.asD g n ++ [cStatics]
def Law.obsG (n : Nat) (L : Law) (g : Addr → Option Obj) : AlG :=
  let K := He.frT g (seenG n g)
  ((He.obsT L.fa L.fn [] K, L.ex K && He.tabsB g (L.tf.map (·.1)) K), L.xs.map (xVal K))
theorem saysX_at {fa : List He.Fa} {fn : List He.DefD} {tf : List He.Defn} {ex : PySem.W.Frag → Bool} {w : World} {h : Heap} {as : List Addr} (e1 : He.obsT fa fn [] (He.frT h.get? as) = He.valT fn [] w) (e2 : (ex (He.frT h.get? as) && He.tabsB h.get? tf (He.frT h.get? as)) = true) : He.SaysX fa fn [] tf ex w h (He.frT h.get? as) := by
  obtain ⟨h1, h2⟩ := ba e2
  have key := fun p (hp : p ∈ tf) => ba (List.all_eq_true.mp h2 p hp)
  have at_ : ∀ p ∈ tf, ∃ o, h.get? (He.cT (He.frT h.get? as) p).2 = some o ∧ He.emptyTab o = true := fun p hp => by
    have z := (key p hp).2
    cases q : h.get? (He.cT (He.frT h.get? as) p).2 with
    | none => rw [q] at z; cases z
    | some o => rw [q] at z; exact ⟨o, rfl, z⟩
  refine ⟨e1, h1, fun p hp => (key p hp).1, fun p hp => ?_, fun p hp => ?_⟩
  · obtain ⟨o, q, z⟩ := at_ p hp
    exact He.frT_none q z
  · obtain ⟨o, q, z⟩ := at_ p hp
    rw [q, He.emptyTab_eq z]
def Law.valG (L : Law) (w : World) : AlG := (He.valX L.fn [] w, L.xs.map (XD.val))
def Law.hook (n : Nat) (L : Law) : PySem.W.Hook where
  α := AlG
  obs := fun s => L.obsG n s.heap.get?
  val := fun w => L.valG w
  says := fun w h => ∃ K : PySem.W.Frag, K.In h ∧ L.SaysH w h K
  of := fun _ _ e => ⟨_, He.frT_in, saysX_at (congrArg (fun z : AlG => z.1.1) e) (congrArg (fun z : AlG => z.1.2) e), congrArg (fun z : AlG => z.2) e⟩
  keeps := fun _ _ _ ⟨K, hK, c⟩ k => ⟨K, PySem.W.Frag.In.keeps hK k, ⟨c.x.t, c.x.more, c.x.hd, c.x.out, fun p hp => k _ _ (c.x.empty p hp)⟩, c.xv⟩
theorem Law.obsG_eq {n : Nat} {L : Law} {g : Addr → Option Obj} {s : Shared} (h : ∀ a, g a = s.heap.get? a) : L.obsG n g = (L.hook n).obs s := by
  have e : g = s.heap.get? := funext h
  rw [e] <;> rfl
theorem Law.Says.con {L : Law} {K : PySem.W.Frag} (c : L.Says K) (i : Nat) {p : Str × D} (h : L.cs[i]? = some p := by rfl) : conB K p.1 p.2 = true :=
  List.all_eq_true.mp (ba (ba c.more).1).1 p (List.mem_of_getElem? h)
theorem Law.Says.exn {L : Law} {K : PySem.W.Frag} (c : L.Says K) (i : Nat) {q : XD} (h : L.xs[i]? = some q := by rfl) : xObs K q = true :=
  List.all_eq_true.mp (ba (ba c.more).1).2 q (List.mem_of_getElem? h)
theorem Law.Says.exv {L : Law} {K : PySem.W.Frag} (c : L.Says K) (i : Nat) {q : XD} (h : L.xs[i]? = some q := by rfl) : xVal K q = XD.val q := by
  have e2 : (L.xs.map (xVal K))[i]? = (L.xs.map (XD.val))[i]? := by rw [c.xv]
  rw [List.getElem?_map, List.getElem?_map, h] at e2
  exact Option.some.inj e2
theorem Law.Says.tabU {L : Law} {K : PySem.W.Frag} (c : L.Says K) {p q : Addr × Str} (hp : p ∈ L.tabs K) (hq : q ∈ L.tabs K) (e : p.1 = q.1) : p.2 = q.2 := by
  have h := List.all_eq_true.mp (List.all_eq_true.mp (ba c.more).2 p hp) q hq
  simp only [Bool.or_eq_true, Bool.not_eq_true', decide_eq_true_eq, decide_eq_false_iff_not] at h
  rcases h with h | h
  · exact absurd e h
  · exact h

structure Ent where
  ar : Nat
  ns : Nat
  body : WS
def startD (n : Nat) (ds : List D) : Ev := ds.map some ++ List.replicate (n - ds.length) none
def fgX (Z : PX) : Exn → Ev → Mm → Prop := fun x _ m => ∃ m', Sub m' m ∧ Z x m'
def posD (Z : PX) (P : PQ) : Post := { nx := fun _ m => fgt P .non m, rt := fgt P, bk := fun _ _ => False, ct := fun _ _ => False, xx := fgX Z }
def lookE : List Ent → Nat → Option Ent
  | [], _ => none
  | e :: _, 0 => some e
  | _ :: r, n + 1 => lookE r n
def callE (e : Option Ent) (G : Gam) : List D → Mm → PX → PQ → Prop := fun xs m Z P => match e with
  | some e => xs.length = e.ar ∧ e.body G (posD Z P) (startD e.ns xs) m
  | none => False
def Lv (tb : List Ent) : Nat → Gam
  | 0 => fun _ _ _ _ _ => False
  | L + 1 => fun n xs m Z P => callE (lookE tb n) (Lv tb L) xs m Z P
/-- the promise of a def -/
def spN (K : PySem.W.Frag) (M : Mo) (ar : Nat) (call : List D → Mm → PX → PQ → Prop) : Sp := fun vs H Q E => ∃ ds m Z P, RDs K H ds vs ∧ RM K H M m ∧ ds.length = ar ∧ call ds m Z P ∧
  (∀ d m' v H', RD K H' d v → RM K H' M m' → Stp m H m' H' → P d m' → Q v H') ∧ ∀ x m' cls dd H', RX K H' M x cls dd → RM K H' M m' → Stp m H m' H' → Z x m' → E cls dd H'
def psOf (d : He.DefD) : List Str := d.params.args.map (·.arg)
structure FnAt (P : Program) (w : World) (K : PySem.W.Frag) (mg : Str → Option Value) (base : Heap) (M : Mo) (k : Nat) (d : He.DefD) (call : List D → Mm → PX → PQ → Prop) : Prop where
  ex : ∃ fd, FnOk P w K mg base (CX P w) k (He.fAd K d.at_) fd (psOf d) (spN K M (psOf d).length call) ∧ Binds K fd (psOf d) []
  kp : PySem.W.keepIn K (.ref (He.fAd K d.at_)) = true
/-- what a code stands in -/
structure Ctx (Lw : Law) (X : Cx) (M : Mo) (G : Gam) : Prop where
  calm : X.calm = true
  nd : X.N.Nodup
  hP : M.P = X.prog
  hw : M.w = X.w
  hA : ∀ n x, Lw.cl[n]? = some x → M.cA n = He.ga X.K x
  kin : X.K.In X.base
  ns : X.base.Ns mainGlobals X.mg
  says : Lw.Says X.K
  tab : ∀ p ∈ Lw.tf, LamX.TabB X.base X.mg (He.cT X.K p.1).1 (He.cT X.K p.1).2
  mtb : M.tb = Lw.tabs X.K
  lv : ∃ k, Room (k + 1) X.A ∧ ∀ n d, Lw.fn[n]? = some d → FnAt X.prog X.w X.K X.mg X.base M k d (G n)
/-- the calls' room with a lambda's two frames -/
def Lv3 (Lw : Law) (X : Cx) (M : Mo) (G : Gam) : Prop := ∃ k, Room (k + 3) X.A ∧ ∀ n d, Lw.fn[n]? = some d → FnAt X.prog X.w X.K X.mg X.base M k d (G n)
section
variable {Lw : Law} {X : Cx} {M : Mo} {G : Gam} {W : WX}
theorem Ctx.hu (C : Ctx Lw X M G) : X.A.units + 64 < cLine := by
  obtain ⟨k, hr, _⟩ := C.lv
  exact hr.units
theorem Ctx.hu5 (C : Ctx Lw X M G) : X.A.units + 65 < cLine := by
  obtain ⟨k, hr, _⟩ := C.lv
  have := hr.un
  omega
theorem Ctx.blk (C : Ctx Lw X M G) (s : Shared) (H : Hp) (scope : Scope) (cenv : Env) (fp : List Addr) : Ctx Lw (X.blk s H scope cenv fp) M G := ⟨C.calm, C.nd, C.hP, C.hw, C.hA, C.kin, C.ns, C.says, C.tab, C.mtb, C.lv⟩
abbrev W0 : WX := fun _ _ _ _ => False
theorem tak0 : Takes X W0 := fun _ _ ⟨_, _, _, _, _, _, _, _, _, _, _, _, _, _, _, _, w⟩ => w.elim
/-- the end of a call -/
theorem fin_call {pins : List (Addr × Obj)} {σ : L2.St} {H : Hp} {s : Shared} {Q : VK} {f : Addr} {fd : FuncData} {ps : List Str} {k : Nat} {us : List Value} {vs : List V} {sp : Sp} (F : FnOk X.prog X.w X.K X.mg X.base (CX X.prog X.w) k f fd ps sp) (hr : Room k X.A) (hb : Binds X.K fd ps []) (tk : Takes X W)
    (I : Inv X pins σ H s) (r : Vals vs us) (h : sp vs H Q fun cls d H' => W cls d σ H') : wpAny (model X.prog X.w) X.A (call (.ref f) us) (EP X pins σ Q) X.xe s := by
  have hl : (us ++ []).length = ps.length := by rw [List.append_nil, ← r.length]; exact F.len _ _ _ _ h
  have hb2 := hb s us I.kIn hl
  rw [List.append_nil] at hb2
  refine wpAny_call (codeAny_mono (F.run X.A X.stack s H ⟨us, []⟩ us vs Q _ hr I.env0 hb2 r h) fun r s' hq => ?_)
  cases r with
  | error e => exact tk e s' (XE.of_call I (fun cls d H' h => h) hq)
  | ok fl =>
    cases fl with
    | ret u => exact I.after hq
    | next => exact False.elim hq
    | brk => exact False.elim hq
    | cont => exact False.elim hq
theorem sp_of {m : Mm} {H : Hp} {σ : L2.St} {ar : Nat} {call : List D → Mm → PX → PQ → Prop} {ds : List D} {vs : List V} {Z : PX} {P : PQ} {Q : VK} (rd : RDs X.K H ds vs) (rm : RM X.K H M m) (hl : ds.length = ar) (h : call ds m Z P) (kq : KQ (cq X M G W) m H P Q) (kx : KX (cq X M G W) m H Z σ) :
    spN X.K M ar call vs H Q fun cls d H' => W cls d σ H' := ⟨ds, m, Z, P, rd, rm, hl, h, fun d m' v H' a b c e => kq d m' v H' a b c e, fun x m' cls dd H' a b c e => kx x m' cls dd H' a b c e⟩
/-- a def's call is its number's -/
def wCallN (n ar : Nat) (a : WA) : WE := fun G ρ m Z P => a G ρ m Z fun xs m1 => xs.length = ar ∧ G n xs m1 Z P
theorem qe_call {n ar : Nat} {d : He.DefD} {x : Str} {p pos : Pos} {e : Expr} {es : List Expr} {wa : WA} {j : Nat} (C : Ctx Lw X M G) (tk : Takes X W) (hn : Lw.fn[n]? = some d) (hx : d.at_ = (x, none)) (har : (psOf d).length = ar) (hj : Lw.fa[j]? = some (.glo x)) (hg : Gl X x) (ha : PA X (e :: es) (tA (cq X M G W) wa))
    (hdb : (x == ("__debug__" : Str)) = false) (he : starEach (e :: es) X.env = (false, eval e X.env) :: starEach es X.env) (hpl : (backTo pos (starEach es X.env)).any (·.1) = false) :
    PE X (.Call (.Name x p) (e :: es) [] pos) (tE (cq X M G W) (wCallN n ar wa)) := by
  refine ⟨fun pins s σ H Q I ⟨ρ, m, Z, P, re, rm, h, kq, kx⟩ => ?_⟩
  obtain ⟨k, hr, hF⟩ := C.lv
  obtain ⟨⟨fd, F, hb⟩, kp⟩ := hF n d hn
  have hm := He.glo_ok C.kin C.ns (C.says.d.fact j hj)
  rw [hx] at F kp
  have hm : X.mg x = some (.ref (He.fAd X.K (x, none))) := hm
  refine wpAny_Call_Name_kw (ld_glob I hg hm ?_ hdb)
  refine PySem.W.callWith_K (h₀ := X.base) I.ok.mod.kin kp (thn (ha.run pos pins s σ H (fun vs H1 => ∃ ds m1, RDs X.K H1 ds vs ∧ RM X.K H1 M m1 ∧ Stp m H m1 H1 ∧ ds.length = ar ∧ G n ds m1 Z P) I ⟨ρ, m, Z, _, re, rm, h, fun ds m1 vs H1 r1 rm1 s1 h1 => ⟨ds, m1, r1, rm1, s1, h1⟩, kx⟩) fun us s1 ⟨vs, H1, I1, r, ds, m1, rd, rm1, st1, hl, q⟩ => ⟨I1.kIn, ?_⟩) he hpl
  exact fin_call F (hr.mono (Nat.le_succ _)) hb tk I1 r (sp_of rd rm1 (hl.trans har.symm) q (kq.mono st1) (kx.mono st1))
theorem qe_call0 {n : Nat} {d : He.DefD} {x : Str} {p pos : Pos} {j : Nat} (C : Ctx Lw X M G) (tk : Takes X W) (hn : Lw.fn[n]? = some d) (hx : d.at_ = (x, none)) (har : (psOf d).length = 0) (hj : Lw.fa[j]? = some (.glo x)) (hg : Gl X x)
    (hdb : (x == ("__debug__" : Str)) = false) : PE X (.Call (.Name x p) [] [] pos) (tE (cq X M G W) (wCallN n 0 wNil)) := by
  refine ⟨fun pins s σ H Q I ⟨ρ, m, Z, P, re, rm, ⟨hl, h⟩, kq, kx⟩ => ?_⟩
  obtain ⟨k, hr, hF⟩ := C.lv
  obtain ⟨⟨fd, F, hb⟩, kp⟩ := hF n d hn
  have hm := He.glo_ok C.kin C.ns (C.says.d.fact j hj)
  rw [hx] at F kp
  have hm : X.mg x = some (.ref (He.fAd X.K (x, none))) := hm
  refine wpAny_Call_Name_kw (ld_glob I hg hm ?_ hdb)
  exact PySem.W.callWith_K0 I.kIn kp (fin_call F (hr.mono (Nat.le_succ _)) hb tk I .nil (sp_of .nil rm har.symm h kq kx))
/-- o.m(..), o of the class c -/
def wMeth (n ar c : Nat) (nm : Str) (o : WE) (a : WA) : WE := fun G ρ m Z P => o G ρ m Z fun x m1 => ∃ p fs, x = .ref p ∧ m1 p = some (.ins c fs) ∧ fs.lookup nm = none ∧ a G ρ m1 Z fun xs m2 => xs.length + 1 = ar ∧ G n (x :: xs) m2 Z P
theorem RKV.lookup {K : PySem.W.Frag} {H : Hp} (k : Str) : ∀ {ds : List (Str × D)} {us : List (Str × V)}, RKV K H ds us → (ds.lookup k = none ∧ us.lookup k = none) ∨ ∃ d v, ds.lookup k = some d ∧ us.lookup k = some v ∧ RD K H d v
  | [], us, h => by simp only [RKV] at h; subst h; exact .inl ⟨rfl, rfl⟩
  | p :: ps, us, h => by
    simp only [RKV] at h
    obtain ⟨v, r, rfl, h1, h2⟩ := h
    obtain ⟨p1, p2⟩ := p
    by_cases e : (k == p1) = true
    · exact .inr ⟨p2, v, by simp only [List.lookup, e], by simp only [List.lookup, e], h1⟩
    · have e' : (k == p1) = false := by simpa using e
      rcases RKV.lookup k h2 with ⟨a, b⟩ | ⟨d, w, a, b, c⟩
      · exact .inl ⟨by simpa only [List.lookup, e'] using a, by simpa only [List.lookup, e'] using b⟩
      · exact .inr ⟨d, w, by simpa only [List.lookup, e'] using a, by simpa only [List.lookup, e'] using b, c⟩
theorem qe_meth {n ar c : Nat} {d : He.DefD} {x nm : Str} {o : Expr} {wo : WE} {pl : Sem Bool} {pos apos : Pos} {e : Expr} {es : List Expr} {wa : WA} {j jc : Nat} (C : Ctx Lw X M G) (tk : Takes X W) (hn : Lw.fn[n]? = some d) (hx : d.at_ = (x, some nm)) (har : (psOf d).length = ar) (hj : Lw.fa[j]? = some (.meth x nm)) (hjc : Lw.fa[jc]? = some (.cls x)) (hc : Lw.cl[c]? = some x)
    (ho : PE X o (tE (cq X M G W) wo)) (ha : PA X (e :: es) (tA (cq X M G W) wa)) (hst : starEach (e :: es) X.env = (false, eval e X.env) :: starEach es X.env) (hpl : (backTo pos (starEach es X.env)).any (·.1) = false)
    (ht : eval (.Call (.Attribute o nm apos) (e :: es) [] pos) X.env = (do
      let ov ← eval o X.env
      standAt apos.atName
      let (f, first) ← holding [ov] (getMethod ov nm pl)
      callWith pos f first (backTo pos (starEach (e :: es) X.env)) (backToKw pos (keywordEach [] X.env)))) :
    PE X (.Call (.Attribute o nm apos) (e :: es) [] pos) (tE (cq X M G W) (wMeth n ar c nm wo wa)) := by
  refine ⟨fun pins s σ H Q I ⟨ρ, m, Z, P, re, rm, h, kq, kx⟩ => ?_⟩
  obtain ⟨k, hr, hF⟩ := C.lv
  obtain ⟨⟨fd, F, hb⟩, kp⟩ := hF n d hn
  have hm := He.meth_ok (C.says.d.fact j hj)
  have cl := He.cls_ok (C.says.d.fact jc hjc)
  rw [hx] at F kp
  refine PySem.W.methodCall_KW (pl := pl) (thn (ho.run pins s σ H (fun v H1 => ∃ y m1, RD X.K H1 y v ∧ RM X.K H1 M m1 ∧ Stp m H m1 H1 ∧ ∃ p fs, y = .ref p ∧ m1 p = some (.ins c fs) ∧ fs.lookup nm = none ∧ wa G ρ m1 Z fun xs m2 => xs.length + 1 = ar ∧ G n (y :: xs) m2 Z P) I ⟨ρ, m, Z, _, re, rm, h, fun d m1 v H1 r1 rm1 s1 h1 => ⟨d, m1, r1, rm1, s1, h1⟩, kx⟩)
    fun u s1 ⟨v, H1, I1, rv, y, m1, ry, rm1, st1, p, fs, ey, em, el, q⟩ => ?_) ht
  subst ey
  simp only [RD] at ry
  subst ry
  cases (show u = Value.ref p from rv)
  obtain ⟨dx, us, eH, rk⟩ := rm1 p _ em
  have eC : M.cA c = He.ga X.K x := C.hA c x hc
  rw [eC] at eH
  have ul : us.lookup nm = none := by
    rcases rk.lookup nm with ⟨_, b⟩ | ⟨d', v', a, _, _⟩
    · exact b
    · rw [el] at a; cases a
  refine getmeth_ok I1 eH cl hm ul ?_
  refine PySem.W.callWith_K (first := [.ref p]) (h₀ := X.base) I.ok.mod.kin kp (thn (ha.run pos pins s1 σ H1 (fun vs H2 => ∃ ds m2, RDs X.K H2 ds vs ∧ RM X.K H2 M m2 ∧ Stp m1 H1 m2 H2 ∧ ds.length + 1 = ar ∧ G n (.ref p :: ds) m2 Z P) I1 ⟨ρ, m1, Z, _, re.mono (st1.tups rm), rm1, q, fun ds m2 vs H2 r2 rm2 s2 h2 => ⟨ds, m2, r2, rm2, s2, h2⟩, kx.mono st1⟩)
    fun us2 s2 ⟨vs2, H2, I2, r2, ds, m2, rd2, rm2, st2, hl, q2⟩ => ⟨I2.kIn, ?_⟩) hst hpl
  have st := st1.trans st2
  exact fin_call (us := .ref p :: us2) (vs := .ref p :: vs2) F (hr.mono (Nat.le_succ _)) hb tk I2 (.cons rfl r2) (sp_of (ds := .ref p :: ds) (.cons (by simp only [RD]) rd2) rm2 (by rw [List.length_cons]; omega) q2 (kq.mono st) (kx.mono st))
theorem qe_meth0 {n ar c : Nat} {d : He.DefD} {x nm : Str} {o : Expr} {wo : WE} {pl : Sem Bool} {pos apos : Pos} {j jc : Nat} (C : Ctx Lw X M G) (tk : Takes X W) (hn : Lw.fn[n]? = some d) (hx : d.at_ = (x, some nm)) (har : (psOf d).length = ar) (hj : Lw.fa[j]? = some (.meth x nm)) (hjc : Lw.fa[jc]? = some (.cls x)) (hc : Lw.cl[c]? = some x)
    (ho : PE X o (tE (cq X M G W) wo))
    (ht : eval (.Call (.Attribute o nm apos) [] [] pos) X.env = (do
      let ov ← eval o X.env
      standAt apos.atName
      let (f, first) ← holding [ov] (getMethod ov nm pl)
      callWith pos f first (backTo pos (starEach [] X.env)) (backToKw pos (keywordEach [] X.env)))) :
    PE X (.Call (.Attribute o nm apos) [] [] pos) (tE (cq X M G W) (wMeth n ar c nm wo wNil)) := by
  refine ⟨fun pins s σ H Q I ⟨ρ, m, Z, P, re, rm, h, kq, kx⟩ => ?_⟩
  obtain ⟨k, hr, hF⟩ := C.lv
  obtain ⟨⟨fd, F, hb⟩, kp⟩ := hF n d hn
  have hm := He.meth_ok (C.says.d.fact j hj)
  have cl := He.cls_ok (C.says.d.fact jc hjc)
  rw [hx] at F kp
  refine PySem.W.methodCall_KW (pl := pl) (thn (ho.run pins s σ H (fun v H1 => ∃ y m1, RD X.K H1 y v ∧ RM X.K H1 M m1 ∧ Stp m H m1 H1 ∧ ∃ p fs, y = .ref p ∧ m1 p = some (.ins c fs) ∧ fs.lookup nm = none ∧ ([] : List D).length + 1 = ar ∧ G n [y] m1 Z P) I ⟨ρ, m, Z, _, re, rm, h, fun d m1 v H1 r1 rm1 s1 h1 => ⟨d, m1, r1, rm1, s1, h1⟩, kx⟩)
    fun u s1 ⟨v, H1, I1, rv, y, m1, ry, rm1, st1, p, fs, ey, em, el, hl, q⟩ => ?_) ht
  subst ey
  simp only [RD] at ry
  subst ry
  cases (show u = Value.ref p from rv)
  obtain ⟨dx, us, eH, rk⟩ := rm1 p _ em
  have eC : M.cA c = He.ga X.K x := C.hA c x hc
  rw [eC] at eH
  have ul : us.lookup nm = none := by
    rcases rk.lookup nm with ⟨_, b⟩ | ⟨d', v', a, _, _⟩
    · exact b
    · rw [el] at a; cases a
  refine getmeth_ok I1 eH cl hm ul ?_
  exact PySem.W.callWith_K0 (first := [.ref p]) I1.kIn kp (fin_call (us := [.ref p]) (vs := [.ref p]) F (hr.mono (Nat.le_succ _)) hb tk I1 (.cons rfl .nil) (sp_of (ds := [.ref p]) (.one (by simp only [RD])) rm1 (by rw [har]; exact hl) q (kq.mono st1) (kx.mono st1)))
/-- C(..) -/
def wMake (n ar c : Nat) (a : WA) : WE := fun G ρ m Z P => a G ρ m Z fun xs m1 => xs.length + 1 = ar ∧ ∀ p, Fr m1 p → G n (.ref p :: xs) (m1.set p (.ins c [])) Z fun d m2 => d = .non ∧ P (.ref p) m2
theorem qe_make {n ar c : Nat} {d : He.DefD} {x : Str} {p pos : Pos} {e : Expr} {es : List Expr} {wa : WA} {j jm : Nat} (C : Ctx Lw X M G) (tk : Takes X W) (hn : Lw.fn[n]? = some d) (hx : d.at_ = (x, some ("__init__" : Str))) (har : (psOf d).length = ar) (hj : Lw.fa[j]? = some (.glo x)) (hjm : Lw.fa[jm]? = some (.mkr x)) (hc : Lw.cl[c]? = some x) (hg : Gl X x) (ha : PA X (e :: es) (tA (cq X M G W) wa))
    (hdb : (x == ("__debug__" : Str)) = false) (he : starEach (e :: es) X.env = (false, eval e X.env) :: starEach es X.env) (hpl : (backTo pos (starEach es X.env)).any (·.1) = false) :
    PE X (.Call (.Name x p) (e :: es) [] pos) (tE (cq X M G W) (wMake n ar c wa)) := by
  refine ⟨fun pins s σ H Q I ⟨ρ, m, Z, P, re, rm, h, kq, kx⟩ => ?_⟩
  obtain ⟨k, hr, hF⟩ := C.lv
  obtain ⟨⟨fd, F, hb⟩, kp⟩ := hF n d hn
  have hm := He.glo_ok C.kin C.ns (C.says.d.fact j hj)
  have mk := He.mkr_ok (C.says.d.fact jm hjm)
  rw [hx] at F kp
  refine wpAny_Call_Name_kw (ld_glob I hg hm ?_ hdb)
  refine PySem.W.callWith_K (h₀ := X.base) I.ok.mod.kin mk.kp (thn (ha.run pos pins s σ H (fun vs H1 => ∃ ds m1, RDs X.K H1 ds vs ∧ RM X.K H1 M m1 ∧ Stp m H m1 H1 ∧ ds.length + 1 = ar ∧ ∀ p, Fr m1 p → G n (.ref p :: ds) (m1.set p (.ins c [])) Z fun d m2 => d = .non ∧ P (.ref p) m2) I ⟨ρ, m, Z, _, re, rm, h, fun ds m1 vs H1 r1 rm1 s1 h1 => ⟨ds, m1, r1, rm1, s1, h1⟩, kx⟩)
    fun us s1 ⟨vs, H1, I1, r, ds, m1, rd, rm1, st1, hl, q⟩ => ⟨I1.kIn, ?_⟩) he hpl
  -- the new instance
  have hnx : H1 (s1.heap.objs.size + 1) = none := I1.hok.fresh (Nat.le_succ _)
  have hnd : H1 s1.heap.objs.size = none := I1.hok.fresh (Nat.le_refl _)
  have ne : s1.heap.objs.size ≠ s1.heap.objs.size + 1 := Nat.ne_of_lt (Nat.lt_succ_self _)
  have I2 := Inv.made (C := He.ga X.K x) I1
  have hn1 : (upd H1 s1.heap.objs.size (.own (s1.heap.objs.size + 1))) (s1.heap.objs.size + 1) = none := by rw [upd_ne (Ne.symm ne)]; exact hnx
  have t1 : TupLe X.K H1 (upd H1 s1.heap.objs.size (.own (s1.heap.objs.size + 1))) := tup_le hnd
  have t2 := tup_le (K := X.K) (o := .ins (He.ga X.K x) s1.heap.objs.size []) hn1
  have rm2 : RM X.K _ M (m1.set (s1.heap.objs.size + 1) (.ins c [])) := ((rm1.grow hnd).grow hn1).set ⟨s1.heap.objs.size, [], by rw [C.hA c x hc]; exact upd_same, by simp only [RKV]⟩
  have st2 : Stp m1 H1 (m1.set (s1.heap.objs.size + 1) (.ins c [])) (upd (upd H1 s1.heap.objs.size (.own (s1.heap.objs.size + 1))) (s1.heap.objs.size + 1) (.ins (He.ga X.K x) s1.heap.objs.size [])) := (Stp.grow hnd).trans (.new hn1)
  have st := st1.trans st2
  have hq := q (s1.heap.objs.size + 1) (rm1.fr hnx)
  have hl2 : ((V.ref (s1.heap.objs.size + 1)) :: vs).length = (psOf d).length := by rw [List.length_cons, ← rd.length, har]; exact hl
  have hl3 : ((Value.ref (s1.heap.objs.size + 1) :: us) ++ []).length = (psOf d).length := by rw [List.append_nil, List.length_cons, ← r.length]; rw [List.length_cons] at hl2; exact hl2
  have hb2 := hb _ (Value.ref (s1.heap.objs.size + 1) :: us) I2.kIn hl3
  rw [List.append_nil] at hb2
  have hsp : spN X.K M (psOf d).length (G n) (V.ref (s1.heap.objs.size + 1) :: vs) (upd (upd H1 s1.heap.objs.size (.own (s1.heap.objs.size + 1))) (s1.heap.objs.size + 1) (.ins (He.ga X.K x) s1.heap.objs.size [])) (fun v H2 => v = .non ∧ Q (.ref (s1.heap.objs.size + 1)) H2) fun cls d H' => W cls d σ H' :=
    ⟨.ref (s1.heap.objs.size + 1) :: ds, _, Z, _, .cons (by simp only [RD]) (rd.mono (st2.tups rm1)), rm2, by rw [List.length_cons, har]; exact hl, hq, fun d' m' v H' a b cc ⟨ed, hp⟩ => by
      subst ed
      simp only [RD] at a
      exact ⟨a, kq (.ref _) m' _ H' (by simp only [RD]) b (st.trans cc) hp⟩, fun y m' cls dd H' a b cc hz => kx y m' cls dd H' a b (st.trans cc) hz⟩
  refine wpAny_call (make_map (f := He.ma X.K (He.ga X.K x) "__init__") I1.kIn mk.makes mk.init (beq_iff_eq.mp mk.fn) (codeAny_mono (F.run _ X.stack _ _ ⟨Value.ref (s1.heap.objs.size + 1) :: us, []⟩ (Value.ref (s1.heap.objs.size + 1) :: us) _ _ _ (hr.make _ us [])
    (I2.env0.make _ us []) hb2 (.cons (show RelV (V.ref (s1.heap.objs.size + 1)) (Value.ref (s1.heap.objs.size + 1)) from rfl) r) hsp) fun rr s' hq' => ?_))
  cases rr with
  | error e => exact tk e s' (XE.of_call I2 (fun cls d H' h => h) hq')
  | ok fl =>
    cases fl with
    | ret u =>
      obtain ⟨v, H', I3, rv, ev, q3⟩ := I2.after hq'
      subst ev
      exact ⟨rv, ⟨V.ref (s1.heap.objs.size + 1), H', I3, rfl, q3⟩⟩
    | next => exact False.elim hq'
    | brk => exact False.elim hq'
    | cont => exact False.elim hq'
/-- o.f -/
def wFld (c : Nat) (f : Str) (o : WE) : WE := fun G ρ m Z P => o G ρ m Z fun x m1 => ∃ p fs d, x = .ref p ∧ m1 p = some (.ins c fs) ∧ fs.lookup f = some d ∧ P d m1
theorem qe_fld {c : Nat} {x f : Str} {e : Expr} {we : WE} {pos : Pos} {jc jn : Nat} (C : Ctx Lw X M G) (hjc : Lw.fa[jc]? = some (.cls x)) (hjn : Lw.fa[jn]? = some (.noat x f)) (hc : Lw.cl[c]? = some x) (he : PE X e (tE (cq X M G W) we)) (hb : attributeBase e f X.env (eval e X.env) = eval e X.env) :
    PE X (.Attribute e f pos) (tE (cq X M G W) (wFld c f we)) :=
  PE.imp (pe_fld he hb) fun σ H Q ⟨ρ, m, Z, P, re, rm, h, kq, kx⟩ =>
    ⟨ρ, m, Z, _, re, rm, h, fun y m1 v H1 ry rm1 s1 ⟨p, fs, d, ey, em, el, hp⟩ => by
      subst ey
      simp only [RD] at ry
      obtain ⟨dx, us, eH, rk⟩ := rm1 p _ em
      rcases rk.lookup f with ⟨a, _⟩ | ⟨d', v', a, b, r⟩
      · rw [el] at a; cases a
      · rw [el] at a; cases a
        have eC : M.cA c = He.ga X.K x := C.hA c x hc
        refine ⟨p, _, dx, us, v', ry, eH, ?_, ?_, b, (kq.mono s1).now rm1 r hp⟩
        · show Cls X.K (M.cA c); rw [eC]; exact He.cls_ok (C.says.d.fact jc hjc)
        · show NoAttr X.K (M.cA c) f; rw [eC]; exact He.noat_ok (C.says.d.fact jn hjn), kx⟩
def putN (f : Str) (d : D) : List (Str × D) → List (Str × D)
  | [] => [(f, d)]
  | (g, x) :: r => if g = f then (g, d) :: r else (g, x) :: putN f d r
theorem RKV.putN {K : PySem.W.Frag} {H : Hp} {f : Str} {d : D} {v : V} (r : RD K H d v) : ∀ {ds : List (Str × D)} {us : List (Str × V)}, RKV K H ds us → RKV K H (Qz.putN f d ds) (putF f v us)
  | [], us, h => by
    simp only [RKV] at h
    subst h
    exact ⟨v, [], rfl, r, rfl⟩
  | p :: ps, us, h => by
    obtain ⟨g, y⟩ := p
    simp only [RKV] at h
    obtain ⟨w, r', rfl, h1, h2⟩ := h
    show RKV K H (if g = f then (g, d) :: ps else (g, y) :: Qz.putN f d ps) (if g = f then (g, v) :: r' else (g, w) :: putF f v r')
    by_cases e : g = f
    · rw [if_pos e, if_pos e]
      exact ⟨v, r', rfl, r, h2⟩
    · rw [if_neg e, if_neg e]
      exact ⟨w, _, rfl, h1, RKV.putN r h2⟩
/-- o.f = e -/
def wSetF (c : Nat) (f : Str) (o e : WE) : WS := fun G P ρ m => e G ρ m (fun x m' => P.xx x ρ m') fun d m1 => o G ρ m1 (fun x m' => P.xx x ρ m') fun x m2 => ∃ p fs, x = .ref p ∧ m2 p = some (.ins c fs) ∧ fs.length < 1000 ∧ P.nx ρ (m2.set p (.ins c (putN f d fs)))
theorem qs_setF {c : Nat} {x f : Str} {o e : Expr} {wo we : WE} {pos pos' : Pos} {jc jn : Nat} (C : Ctx Lw X M G) (hjc : Lw.fa[jc]? = some (.cls x)) (hjn : Lw.fa[jn]? = some (.noat x f)) (hc : Lw.cl[c]? = some x) (ho : PE X o (tE (cq X M G W) wo)) (he : PE X e (tE (cq X M G W) we)) (hs : swapsWith e (some (.Attribute o f pos')) pos.line X.env = pure false) :
    PS X (.Assign [.Attribute o f pos'] e pos) (tS (cq X M G W) (wSetF c f wo we)) :=
  PS.imp (ps_fld ho he hs) fun E σ H ⟨ρ, m, P, re, rm, h, kp⟩ =>
    ⟨ρ, m, _, _, re, rm, h, fun d m1 v H1 rd rm1 s1 h1 => ⟨ρ, m1, _, _, re.mono (s1.tups rm), rm1, h1, fun y m2 vy H2 ry rm2 s2 ⟨p, fs, ey, em, hl, hp⟩ => by
      subst ey
      simp only [RD] at ry
      obtain ⟨dx, us, eH, rk⟩ := rm2 p _ em
      have eC : M.cA c = He.ga X.K x := C.hA c x hc
      have rd2 := rd.mono (s2.tups rm1)
      have st := s1.trans s2
      refine ⟨p, _, dx, us, ry, eH, ?_, ?_, by rw [← rk.length]; exact hl, ?_⟩
      · show Cls X.K (M.cA c); rw [eC]; exact He.cls_ok (C.says.d.fact jc hjc)
      · show NoAttr X.K (M.cA c) f; rw [eC]; exact He.noat_ok (C.says.d.fact jn hjn)
      · have t := upd_le (K := X.K) (o := .ins (M.cA c) dx (putF f v us)) eH ⟨fun _ z => (by cases z), fun _ _ z => (by cases z)⟩
        exact kp.1 ρ (m2.set p (.ins c (putN f d fs))) σ _ ((re.mono (st.tups rm)).mono t) (rm2.write eH .ins ⟨dx, _, upd_same, (rk.putN rd2).mono t⟩) (st.trans (.write em)) hp, (kp.mono s1).2.2.2.2.at (re.mono (s1.tups rm)) rm1⟩, kp.2.2.2.2.at re rm⟩
/-- a constant of the module -/
theorem qe_con {x : Str} {d : D} {pos : Pos} {i : Nat} (C : Ctx Lw X M G) (hi : Lw.cs[i]? = some (x, d)) (hg : Gl X x) (hd : (x == ("__debug__" : Str)) = false) : PE X (.Name x pos) (tE (cq X M G W) (wC d)) := by
  obtain ⟨u, v, hm, r, rd⟩ := conB_ok C.kin C.ns (C.says.con i hi)
  exact qe_c (pe_glob hg hm r hd) rd
end

/-- the entry b keeps the def d, whatever it is called from -/
structure BodyOk (Lw : Law) (P : Program) (d : He.DefD) (b : Ent) : Prop where
  ar : (psOf d).length = b.ar
  sc : ∃ N, N.length = b.ns ∧ FnScope N (psOf d) d.scope ∧
    ∀ (w : World) (K : PySem.W.Frag) (mg : Str → Option Value) (base : Heap) (M : Mo) (G : Gam) (W : WX) (f : Addr) (cdv : Value) (A : Around) (outer : List Env) (s : Shared) (H : Hp) (E : XK), cdv = .ref (He.codeOf K d.at_) → Lv3 Lw (cxOf (CX P w) P w K mg base N d.qual d.scope f cdv A outer s H E) M G →
      Ctx Lw (cxOf (CX P w) P w K mg base N d.qual d.scope f cdv A outer s H E) M G → Takes (cxOf (CX P w) P w K mg base N d.qual d.scope f cdv A outer s H E) W →
      PSs (cxOf (CX P w) P w K mg base N d.qual d.scope f cdv A outer s H E) d.body (tS (cq (cxOf (CX P w) P w K mg base N d.qual d.scope f cdv A outer s H E) M G W) b.body)
  bi : ∀ (K : PySem.W.Frag) (f : Addr) (fd : FuncData), FunD K d.name d.qual d.params d.body d.scope [] [] f fd → Binds K fd (psOf d) []
  df : d.dfl = [] ∧ d.kwd = []
inductive BodiesOk (Lw : Law) (P : Program) : List He.DefD → List Ent → Prop
  | nil : BodiesOk Lw P [] []
  | cons {d : He.DefD} {b : Ent} {ds : List He.DefD} {bs : List Ent} : BodyOk Lw P d b → BodiesOk Lw P ds bs → BodiesOk Lw P (d :: ds) (b :: bs)
theorem BodiesOk.at {Lw : Law} {P : Program} : ∀ {ds : List He.DefD} {bs : List Ent} {n : Nat} {d : He.DefD}, BodiesOk Lw P ds bs → ds[n]? = some d → ∃ b, lookE bs n = some b ∧ BodyOk Lw P d b
  | _, _, n, d, .nil, h => by simp at h
  | _, _, 0, d, .cons h1 h2, h => by simp at h; subst h; exact ⟨_, rfl, h1⟩
  | _, _, n + 1, d, .cons h1 h2, h => by
    obtain ⟨b, e, q⟩ := BodiesOk.at (n := n) h2 (by simpa using h)
    exact ⟨b, e, q⟩
theorem start_rd {K : PySem.W.Frag} {H : Hp} {N : List Str} {ds : List D} {vs : List V} (rd : RDs K H ds vs) : RE K H (startD N.length ds) (L2.start N vs) := by
  have hl := rd.length
  refine ⟨by rw [startD, L2.start, List.length_append, List.length_append, List.length_map, List.length_map, List.length_replicate, List.length_replicate, hl], fun i d e => ?_⟩
  unfold startD at e
  by_cases hi : i < ds.length
  · rw [List.getElem?_append_left (by simpa using hi), List.getElem?_map] at e
    cases q : ds[i]? with
    | none => rw [q] at e; cases e
    | some d' =>
      rw [q] at e; cases e
      obtain ⟨v, h1, h2⟩ := rd.at q
      refine ⟨v, ?_, h2⟩
      unfold L2.start
      rw [List.getElem?_append_left (by rw [List.length_map, ← hl]; exact hi), List.getElem?_map, h1]
      rfl
  · rw [List.getElem?_append_right (by simpa using hi), List.getElem?_replicate] at e
    split at e <;> cases e
theorem funD_ok {P : Program} {w : World} {K : PySem.W.Frag} {mg : Str → Option Value} {base : Heap} {x qual : Str} {params : Arguments} {body : List Stmt} {scope : Scope} {dvs : List V} {kws : List (Str × V)} {fd : FuncData} {q : He.Defn} {CX : CXT} {N ps : List Str} {k : Nat} {sp : Sp} (F : FunD K x qual params body scope dvs kws (He.fAd K q) fd) (S : FnScope N ps scope) (len : ∀ vs H Q E, sp vs H Q E → vs.length = ps.length)
    (hbody : ∀ (cdv : Value) (A : Around) (outer : List Env) (s : Shared) (H : Hp) (vs : List V) (Q : VK) (E : XK), cdv = .ref (He.codeOf K q) → Room k (A.deeper (envOfC qual scope s.heap.objs.size (He.fAd K q) cdv)) → sp vs H Q E →
      ∃ t, PSs (cxOf CX P w K mg base N qual scope (He.fAd K q) cdv A outer s H E) body t ∧ t { nx := fun _ H' => Q .non H', rt := Q } (start N vs) H) : FnOk P w K mg base CX (k + 1) (He.fAd K q) fd ps sp := by
  obtain ⟨oc, od, dV, kV, doc, pm, an, cdv, ct, osl, rfl, lk, hcd, _, _⟩ := F.ex
  obtain ⟨c, ec⟩ := He.codeIn_ref hcd
  have hc : cdv = .ref (He.codeOf K q) := by rw [ec, He.codeOf_eq lk (show cdv = .ref c from ec)]
  exact fn_of lk hcd S len fun A outer s H vs Q E hr hsp => hbody cdv A outer s H vs Q E hc hr hsp
theorem all_ok {Lw : Law} {P : Program} {tb : List Ent} (B : BodiesOk Lw P Lw.fn tb) {w : World} {K : PySem.W.Frag} {mg : Str → Option Value} {base : Heap} {M : Mo} (hP : M.P = P) (hw : M.w = w) (hA : ∀ n x, Lw.cl[n]? = some x → M.cA n = He.ga K x) (kin : K.In base) (ns : base.Ns mainGlobals mg) (says : Lw.Says K) (tab : ∀ p ∈ Lw.tf, LamX.TabB base mg (He.cT K p.1).1 (He.cT K p.1).2) (mtb : M.tb = Lw.tabs K) :
    ∀ L n d, Lw.fn[n]? = some d → FnAt P w K mg base M (4 * L) d (Lv tb L n)
  | 0, n, d, h => by
    obtain ⟨b, e, B1⟩ := B.at h
    obtain ⟨fd, F⟩ := says.d.def_ n h
    have hd : d.dvs K = [] := by unfold He.DefD.dvs; rw [B1.df.1]; rfl
    have hk : d.kws K = [] := by unfold He.DefD.kws; rw [B1.df.2]; rfl
    rw [hd, hk] at F
    exact ⟨⟨fd, ⟨fun vs H Q E ⟨ds, m, Z, P', _, _, _, z, _⟩ => z.elim, fun A outer s H args us vs Q E _ _ _ _ ⟨ds, m, Z, P', _, _, _, z, _⟩ => z.elim⟩, B1.bi K _ fd F⟩, F.kp⟩
  | L + 1, n, d, h => by
    obtain ⟨b, e, B1⟩ := B.at h
    obtain ⟨fd, F⟩ := says.d.def_ n h
    have hd : d.dvs K = [] := by unfold He.DefD.dvs; rw [B1.df.1]; rfl
    have hk : d.kws K = [] := by unfold He.DefD.kws; rw [B1.df.2]; rfl
    rw [hd, hk] at F
    obtain ⟨N, hN, S, run⟩ := B1.sc
    refine ⟨⟨fd, funD_ok (k := 4 * L + 3) F S (fun vs H Q E ⟨ds, m, Z, P', rd, _, hl, _⟩ => by rw [← rd.length]; exact hl) (fun cdv A outer s H vs Q E ecd hr ⟨ds, m, Z, P', rd, rm, hl, hc, kq, kx⟩ => ?_), B1.bi K _ fd F⟩, F.kp⟩
    have ih := all_ok B hP hw hA kin ns says tab mtb L
    have C : Ctx Lw (cxOf (CX P w) P w K mg base N d.qual d.scope (He.fAd K d.at_) cdv A outer s H E) M (Lv tb L) := ⟨rfl, S.nd, hP, hw, hA, kin, ns, says, tab, mtb, 4 * L, hr.mono (by omega), ih⟩
    have C3 : Lv3 Lw (cxOf (CX P w) P w K mg base N d.qual d.scope (He.fAd K d.at_) cdv A outer s H E) M (Lv tb L) := ⟨4 * L, hr, ih⟩
    have tk : Takes (cxOf (CX P w) P w K mg base N d.qual d.scope (He.fAd K d.at_) cdv A outer s H E) (fun cls d _ H => E cls d H) := takes_of rfl rfl rfl rfl
    refine ⟨_, run w K mg base M (Lv tb L) _ _ cdv A outer s H E ecd C3 C tk, ?_⟩
    have hc' : callE (lookE tb n) (Lv tb L) ds m Z P' := hc
    rw [e] at hc'
    obtain ⟨_, hb⟩ := hc'
    refine ⟨_, m, _, ?_, rm, hb, ?_⟩
    · rw [← hN]; exact start_rd rd
    · refine ⟨fun ρ' m' σ' H' re rm' st ⟨m2, k2, p⟩ => kq .non m2 .non H' (by simp only [RD]) (rm'.sub k2) (st.sub k2) p, fun d' m' v H' r1 rm' st ⟨m2, k2, p⟩ => kq d' m2 v H' r1 (rm'.sub k2) (st.sub k2) p, fun ρ' m' σ' H' re rm' st p => p.elim, fun ρ' m' σ' H' re rm' st p => p.elim, fun x ρ' m' cls dd σ' H' r1 re rm' st ⟨m2, k2, p⟩ => kx x m2 cls dd H' r1 (rm'.sub k2) (st.sub k2) p⟩
end Qz
set_option Elab.async false
set_option linter.all false
set_option maxRecDepth 100000
set_option maxHeartbeats 2000000
namespace Qz
open PySem PySem.Spec PyProof.Rows L2
def tDcT (K : PySem.W.Frag) (Pr : Program) (w : World) (wi : TI) (g : TG) (tt : TT) (tk tv : TE) (vs : List Nat) : TE := fun σ H Q => wi σ H fun J H1 => ∀ D, H1 D = none → (D == sysModules) = false → ∃ W : Nat → Nat → Hp → Prop, (∃ m, W 0 m (upd H1 D (.ext (dphi Pr w D [])))) ∧ ∀ i m H, W i m H →
  (J.stop i H ∧ Q (.ref D) H) ∨ (J.go i H ∧ ∃ Nx : Hp → Prop, (∀ H', Nx H' → ∃ m', m' < m ∧ W (i + 1) m' H') ∧ ∀ x H', J.yld i H x H' → g x (wipe σ vs) H' fun σ2 H2 => wipe σ2 vs = wipe σ vs ∧ tt σ2 H2 fun b H3 =>
    if b = true then tk σ2 H3 fun y H4 => tv σ2 H4 fun z H5 => ∃ (es : List (List Key × Addr × Value)) (ks : List Key) (a : Addr), y = .ref a ∧ SqT K H5 a (ks.map kV) ∧ H5 D = some (.ext (dphi Pr w D es)) ∧ es.length < sizeLine ∧ (∀ x ∈ es, SqT K H5 x.2.1 (x.1.map kV)) ∧ ∀ u, RelV z u → Nx (upd H5 D (.ext (dphi Pr w D (storedH es ks a u)))) else Nx H3)
section
variable {X : Cx}
theorem dcT_core {pins : List (Addr × Obj)} {s : Shared} {σ : L2.St} {H : Hp} {Q : VK} {kx vx tg iter : Expr} {ifs : List Expr} {scope : Scope} {own : List (Str × Nat)} {pos pos' : Pos} {wi : TI} {g : TG} {tt : TT} {tk tv : TE} {use : Option (Value → Sem Unit)} {Qf : Value → Shared → Prop}
    (hc : X.calm = true) (hu : X.A.units < cLine) (hN : X.N.Nodup) (I : Inv X pins σ H s) (hi : PI X tg iter wi) (ok : BlkOk X.N X.env.scope scope own)
    (hg : ∀ (s : Shared) (H : Hp) (C : Addr) (cl : List (Str × Addr)) (fp : List Addr), PG (X.blk s H scope (compEnvC scope cl C X.env) fp) tg g) (ht : ∀ (s : Shared) (H : Hp) (C : Addr) (cl : List (Str × Addr)) (fp : List Addr), PTs (X.blk s H scope (compEnvC scope cl C X.env) fp) ifs tt)
    (hk : ∀ (s : Shared) (H : Hp) (C : Addr) (cl : List (Str × Addr)) (fp : List Addr), PE (X.blk s H scope (compEnvC scope cl C X.env) fp) kx tk)
    (he : ∀ (s : Shared) (H : Hp) (C : Addr) (cl : List (Str × Addr)) (fp : List Addr), PE (X.blk s H scope (compEnvC scope cl C X.env) fp) vx tv) (hs : ∀ x, foldedSetIterable iter X.env x = pure x)
    (h : tDcT X.K X.prog X.w wi g tt tk tv (own.map (·.2)) σ H Q)
    (hRR : ∀ D C s' m H', Inv X pins σ H' s' → Q (.ref D) H' → s'.heap.Ns C m → FpOk X pins H' C → compPost (model X.prog X.w) X.A X.xe use Qf (.ref D) C (.ok .next) s') :
    wpAny (model X.prog X.w) X.A (comprehension (.DictComp kx vx [⟨tg, iter, ifs, 0⟩] scope pos) scope X.env pos' newDict false (eval iter X.env) use) Qf X.xe s := by
  have hfree : ∀ y ∈ scope.names, y.2 = .free → ∃ c, X.env.cells.lookup y.1 = some c := fun y hy e => by
    rcases ok.free y hy e with k | k
    · exact I.ok.has _ (.inl k)
    · exact I.ok.has _ (.inr k)
  refine wpAny_comprehension_free (use := use) rfl hs (closure_ok hfree) ok.kind (fun y hy e => by rw [ok.uniq y hy, e])
    (thn (hi.run pins s σ H _ I h) fun xv s1 hx => thn hx fun itv s2 h2 => ?_)
  obtain ⟨it, fp, tn, J, H2, e, I2, T, st2, f2, q⟩ := h2
  subst e
  refine wpAny_newObj_type (newEnv_comp ?_)
  generalize hD : s2.heap.objs.size = D
  have hDn : H2 D = none := I2.hok.fresh (Nat.le_of_eq hD)
  obtain ⟨W, ⟨m0, w0⟩, turn⟩ := q D hDn (by rw [← hD]; exact beq_eq_false_iff_ne.mpr (Ne.symm (Nat.ne_of_lt I2.big)))
  -- the new list
  generalize hs3 : ({ s2 with heap := s2.heap.push { cls := .type "dict", data := .dict #[] } } : Shared) = s3
  have I3 : Inv X pins σ (upd H2 D (.ext (dphi X.prog X.w D []))) s3 := by
    rw [← hs3]
    refine I2.laid (t' := s2.toks) (fun b o e => Heap.get?_push_of_some _ e) (Nat.le_of_eq hD) ?_
    rw [← hD]
    exact ext_ok ⟨_, #[], 0, Heap.get?_push_size _ rfl, ⟨rfl, rfl, rfl⟩, rfl, rfl, (fun x hx => by cases hx), List.nodup_nil⟩
  have h3 : s3.heap = s2.heap.push { cls := .type "dict", data := .dict #[] } := by rw [← hs3]
  have sz : ∀ b ∈ fp, b < s2.heap.objs.size := fun b hb => by
    obtain ⟨o, e, _⟩ := T.obj _ _ st2 b hb
    exact Heap.lt_size e
  have f3 : ∀ b ∈ fp, FpOk X pins (upd H2 D (.ext (dphi X.prog X.w D []))) b ∧ b < s3.heap.objs.size := fun b hb => by
    have hlt := sz b hb
    refine ⟨⟨?_, (f2 b hb).2⟩, by rw [h3, Heap.size_push]; exact Nat.lt_succ_of_lt hlt⟩
    rw [upd_ne (by rw [← hD]; exact Nat.ne_of_lt hlt)]
    exact (f2 b hb).1
  have st3 : tn 0 s3.heap := T.keep _ _ _ st2 fun b _ o e => by rw [h3]; exact Heap.get?_push_of_some _ e
  have I4 := block_start I3 ok hN f3
  have pg := hg s3 (upd H2 D (.ext (dphi X.prog X.w D []))) s3.heap.objs.size (cellsFrom (s3.heap.objs.size + 1) scope.names (cloFrom X.env.cells scope.names [])) fp
  have pt := ht s3 (upd H2 D (.ext (dphi X.prog X.w D []))) s3.heap.objs.size (cellsFrom (s3.heap.objs.size + 1) scope.names (cloFrom X.env.cells scope.names [])) fp
  have pk := hk s3 (upd H2 D (.ext (dphi X.prog X.w D []))) s3.heap.objs.size (cellsFrom (s3.heap.objs.size + 1) scope.names (cloFrom X.env.cells scope.names [])) fp
  have pe := he s3 (upd H2 D (.ext (dphi X.prog X.w D []))) s3.heap.objs.size (cellsFrom (s3.heap.objs.size + 1) scope.names (cloFrom X.env.cells scope.names [])) fp
  show codeAny _ _ (.compStart (.DictComp kx vx [⟨tg, iter, ifs, 0⟩] scope pos) 0 (.ref it) (.ref D) (compEnvC scope (cellsFrom (s3.heap.objs.size + 1) scope.names (cloFrom X.env.cells scope.names [])) s3.heap.objs.size X.env)) (compPost (model X.prog X.w) X.A X.xe use Qf (.ref D) s3.heap.objs.size) { s3 with heap := pushCells (s3.heap.push { cls := .type "dict", data := .dict #[] }) scope.names }
  have nfp : ∀ b ∈ fp, (upd H2 D (.ext (dphi X.prog X.w D []))) b = none := fun b hb => (f3 b hb).1.1
  generalize hce : compEnvC scope (cellsFrom (s3.heap.objs.size + 1) scope.names (cloFrom X.env.cells scope.names [])) s3.heap.objs.size X.env = ce at I4 pg pt pk pe ⊢
  have cL : ce.locals = s3.heap.objs.size := by subst hce; rfl
  generalize hH3 : upd H2 D (.ext (dphi X.prog X.w D [])) = H3 at I3 I4 pg pt pk pe w0 nfp f3
  generalize hs4 : ({ s3 with heap := pushCells (s3.heap.push { cls := .type "dict", data := .dict #[] }) scope.names } : Shared) = s4 at I4 ⊢
  have st4 : tn 0 s4.heap := T.keep _ _ _ st3 fun b _ o e => by rw [← hs4]; exact pushCells_keeps _ _ _ _ (Heap.get?_push_of_some _ e)
  have stat : ∀ {σ' : L2.St} {H' : Hp} {s' : Shared}, Inv (X.blk s3 H3 scope ce fp) [] σ' H' s' → (∀ b ∈ fp, H' b = none) → ∀ b ∈ fp, FpOk (X.blk s3 H3 scope ce fp) [] H' b := fun {σ' H' s'} I' hn b hb =>
    ⟨hn b hb, (I'.ok.exf b hb).1, I'.ok.exfs b hb, .inl hb, fun x c e => (I'.ok.exf b hb).2 x c e, fun p hp => absurd (show p ∈ ([] : List (Addr × Obj)) ++ [] from hp) (by simp)⟩
  have loop : codeAny (model X.prog X.w) X.A (.compLoop (.DictComp kx vx [⟨tg, iter, ifs, 0⟩] scope pos) 0 (.ref it) (.ref D) ce) (compPost (model X.prog X.w) X.A X.xe use Qf (.ref D) s3.heap.objs.size) s4 := by
    refine compLoop_anyD (fun n s' => ∃ i H', Inv (X.blk s3 H3 scope ce fp) [] (wipe σ (own.map (·.2))) H' s' ∧ tn i s'.heap ∧ (∀ b ∈ fp, H' b = none) ∧ W i n H') ?_ m0 ⟨0, H3, I4, st4, nfp, w0⟩
    rintro n s5 ⟨i, H5, I5, st5, n5, w5⟩
    rcases turn i n H5 w5 with ⟨stop, qq⟩ | ⟨go, Nx, hNx, step⟩
    · have td := T.done (X.blk s3 H3 scope ce fp) rfl rfl rfl hc i [] s5 _ H5 (fun _ _ => False) I5 (stat I5 n5) st5 stop
      refine thnF td fun r s6 ⟨hr, I6⟩ => ?_
      subst hr
      -- back in the def's context
      have I7 : Inv X pins σ H5 s6 := I3.call' (ch := fp) I6.os I6.base I6.hok I6.bare fun b hb => ⟨(f3 b hb).1.2.2.2.1, (f3 b hb).1.2.1, (f3 b hb).1.2.2.2.2.1, (f3 b hb).1.2.2.2.2.2⟩
      have nC : H5 s3.heap.objs.size = none := by
        have z : H5 ce.locals = none := I6.free
        rw [cL] at z
        exact z
      obtain ⟨m, hn, _⟩ := I6.loc
      have hn : s6.heap.Ns ce.locals m := hn
      rw [cL] at hn
      exact hRR D s3.heap.objs.size s6 m H5 I7 qq hn (I3.fpOk (Nat.le_refl _) nC)
    · have ti := T.item (X.blk s3 H3 scope ce fp) rfl rfl rfl hc i [] s5 _ H5 (fun _ _ => False) I5 (stat I5 n5) st5 go
      refine thnF ti fun r s6 ⟨u, hr, h6⟩ => ?_
      subst hr
      refine thnF h6 fun _ s7 ⟨x, H7, I7, r7, y7, st7, n7⟩ => ?_
      have I7' := I7.pinned (stat I7 n7) (T.obj _ _ st7)
      refine thnF (pg.run _ s7 _ H7 x u _ I7' r7 (step x H7 y7)) fun _ s8 ⟨σ8, H8, I8, hw8, q8⟩ => ?_
      refine thnF (pt.run _ s8 σ8 H8 _ I8 q8) fun b s9 ⟨H9, I9, q9⟩ => ?_
      -- the turn's end
      have fin : ∀ {s' : Shared} {H' : Hp}, Inv (X.blk s3 H3 scope ce fp) ([] ++ pinsAt fp s7.heap) σ8 H' s' → Nx H' → ∃ m, m < n ∧ ∃ i H', Inv (X.blk s3 H3 scope ce fp) [] (wipe σ (own.map (·.2))) H' s' ∧ tn i s'.heap ∧ (∀ b ∈ fp, H' b = none) ∧ W i m H' := fun {s' H'} I' nx => by
        obtain ⟨m', hm, w'⟩ := hNx H' nx
        have pin' : ∀ b ∈ fp, ∀ o, s7.heap.get? b = some o → s'.heap.get? b = some o ∧ H' b = none := fun b hb o e =>
          let z := I'.pin (b, o) (List.mem_append_right _ (List.mem_append_right _ (mem_pinsAt hb e)))
          ⟨z.1, z.2.1⟩
        have hl : (wipe σ (own.map (·.2))).length = σ8.length := by rw [← hw8, wipe_length]
        refine ⟨m', hm, i + 1, H', (I'.unpinned (pins := [])).weak hl (fun j v e => ?_), T.keep _ _ _ st7 fun b hb o e => (pin' b hb o e).1, fun b hb => ?_, w'⟩
        · rw [← hw8] at e
          exact (wipe_some e).1
        · obtain ⟨o, e, _⟩ := T.obj _ _ st7 b hb
          exact (pin' b hb o e).2
      cases b with
      | false =>
        simp only [Bool.false_eq_true, if_false] at q9 ⊢
        exact fin I9 q9
      | true =>
        simp only [if_true] at q9 ⊢
        refine thnF (pk.run _ s9 σ8 H9 _ I9 q9) fun z s10 ⟨yk, H10, I10, r10, q10⟩ => ?_
        refine thnF (pe.run _ s10 σ8 H10 _ I10 q10) fun z2 s11 ⟨yv, H11, I11, r11, es, ks, ka, ek, hka, hD11, hz11, nx⟩ => ?_
        subst ek
        cases (show z = Value.ref ka from r10)
        obtain ⟨⟨o, es', ep, h1, h2, h3, h4, h5⟩, _⟩ := I11.hok D _ hD11
        have hks := key_sq (X := X.blk s3 H3 scope ce fp) I11 hka
        obtain ⟨hall, nx⟩ := nx
        have dd : s11.heap.DictOfH (tupleKind (mixKind X.prog X.w)) D es := ⟨o, es', ep, h1, h2, h3, h4, fun x hx => key_sq (X := X.blk s3 H3 scope ce fp) I11 (hall x hx), h5⟩
        refine wpAny_dictSet_heap (hsz := Nat.le_of_lt hz11) (show (tupleKind (mixKind X.prog X.w)).room X.A from hu) hks dd fun h' dd' hs' => ?_
        obtain ⟨q, es2, ep2, hq, _⟩ := id dd'
        exact fin (d_write (X := X.blk s3 H3 scope ce fp) I11 (by rw [hD11]; exact True.intro) hs' ⟨q, hq⟩ (ext_ok dd')) (nx z2 r11)
  exact codeAny_compStart_dict loop (T.self X.A 0 _ _ _ st4 loop)

theorem pe_dcT {kx vx tg iter : Expr} {ifs : List Expr} {scope : Scope} {own : List (Str × Nat)} {pos : Pos} {wi : TI} {g : TG} {tt : TT} {tk tv : TE} (hc : X.calm = true) (hu : X.A.units < cLine) (hN : X.N.Nodup) (hi : PI X tg iter wi) (ok : BlkOk X.N X.env.scope scope own)
    (hg : ∀ (s : Shared) (H : Hp) (C : Addr) (cl : List (Str × Addr)) (fp : List Addr), PG (X.blk s H scope (compEnvC scope cl C X.env) fp) tg g) (ht : ∀ (s : Shared) (H : Hp) (C : Addr) (cl : List (Str × Addr)) (fp : List Addr), PTs (X.blk s H scope (compEnvC scope cl C X.env) fp) ifs tt)
    (hk : ∀ (s : Shared) (H : Hp) (C : Addr) (cl : List (Str × Addr)) (fp : List Addr), PE (X.blk s H scope (compEnvC scope cl C X.env) fp) kx tk)
    (he : ∀ (s : Shared) (H : Hp) (C : Addr) (cl : List (Str × Addr)) (fp : List Addr), PE (X.blk s H scope (compEnvC scope cl C X.env) fp) vx tv) (hs : ∀ x, foldedSetIterable iter X.env x = pure x := by intro _; rfl) :
    PE X (.DictComp kx vx [⟨tg, iter, ifs, 0⟩] scope pos) (tDcT X.K X.prog X.w wi g tt tk tv (own.map (·.2))) := by
  refine ⟨fun pins s σ H Q I h => ?_⟩
  rw [arm_eval_DictComp]
  refine dcT_core hc hu hN I hi ok hg ht hk he hs h fun D C s' m H' I' q hn f => ⟨m, hn, fun h'' sb => ?_⟩
  obtain ⟨f0, f1, f2, f3, f4, f5⟩ := f
  exact ⟨.ref D, H', I'.turned (t' := s'.toks) (fun b o hb e => (sb.2 b hb).trans e) f0 f1 f3 f4 f5, rfl, q⟩
/-- name = {..} on one line, the name a local -/
theorem ps_setDcT {i : Nat} {y : Str} {py : Pos} {kx vx tg iter : Expr} {ifs : List Expr} {scope : Scope} {own : List (Str × Nat)} {pos spos : Pos} {wi : TI} {g : TG} {tt : TT} {tk tv : TE} (hc : X.calm = true) (hu : X.A.units < cLine) (hN : X.N.Nodup) (hy : X.N[i]? = some y) (hyl : X.env.scope.names.lookup y = some .local)
    (hsw : swapsWith (.DictComp kx vx [⟨tg, iter, ifs, 0⟩] scope pos) (some (.Name y py)) spos.line X.env = pure true) (hi : PI X tg iter wi) (ok : BlkOk X.N X.env.scope scope own)
    (hg : ∀ (s : Shared) (H : Hp) (C : Addr) (cl : List (Str × Addr)) (fp : List Addr), PG (X.blk s H scope (compEnvC scope cl C X.env) fp) tg g) (ht : ∀ (s : Shared) (H : Hp) (C : Addr) (cl : List (Str × Addr)) (fp : List Addr), PTs (X.blk s H scope (compEnvC scope cl C X.env) fp) ifs tt)
    (hk : ∀ (s : Shared) (H : Hp) (C : Addr) (cl : List (Str × Addr)) (fp : List Addr), PE (X.blk s H scope (compEnvC scope cl C X.env) fp) kx tk)
    (he : ∀ (s : Shared) (H : Hp) (C : Addr) (cl : List (Str × Addr)) (fp : List Addr), PE (X.blk s H scope (compEnvC scope cl C X.env) fp) vx tv) (hs : ∀ x, foldedSetIterable iter X.env x = pure x := by intro _; rfl) :
    PS X (.Assign [.Name y py] (.DictComp kx vx [⟨tg, iter, ifs, 0⟩] scope pos) spos) (tAsg (tDcT X.K X.prog X.w wi g tt tk tv (own.map (·.2))) (gName i)) := by
  refine ⟨fun pins s σ H D I h => ?_⟩
  rw [exec_Assign_Name_used _ _ _ _ hsw]
  refine wpAny_bind (wpAny_standAt (wpAny_bind ?_))
  show wpAny _ X.A (do let _ ← comprehension (.DictComp kx vx [⟨tg, iter, ifs, 0⟩] scope pos) scope X.env (firstIterPos [⟨tg, iter, ifs, 0⟩] pos) newDict false (eval iter X.env) (some (assign (.Name y py) X.env))) _ _ s
  have h : tDcT X.K X.prog X.w wi g tt tk tv (own.map (·.2)) σ H (fun x H1 => gName i x σ H1 D.nx) := h
  refine wpAny_bind (thn (dcT_core (Qf := fun _ s' => SP X pins D .next s') hc hu hN I hi ok hg ht hk he hs h fun L C s' m H' I' q hn f => ?_) fun _ s' hq => wpAny_pure (wpAny_pure hq))
  show wpAny _ _ (assign (.Name y py) X.env (.ref L)) _ _ _
  refine wpAny_assign_Name (store_ok2 (v := V.ref L) I' hN hy (.inl hyl) rfl (fun s2 I2 ⟨a, sb, ha⟩ => ?_) (.inr hyl))
  obtain ⟨f0, f1, f2, f3, f4, f5⟩ := f
  have haC : C ≠ a := by
    rcases ha with z | z
    · rw [z]; exact f1
    · exact fun e => f4 y a z e.symm
  refine ⟨m, hn.sameBut sb haC, fun h3 sb3 => ?_⟩
  exact ⟨_, H', I2.turned (t' := s2.toks) (fun b o hb e => (sb3.2 b hb).trans e) f0 f1 f3 f4 f5, q⟩
end

section
variable {X : Cx} {M : Mo} {G : Gam} {W : WX}
theorem qe_lc {elt tg iter : Expr} {ifs : List Expr} {scope : Scope} {own : List (Str × Nat)} {pos : Pos} {wi : WI} {p : Pat} {t : WT} {we : WE} (hc : X.calm = true) (hN : X.N.Nodup) (hi : PI X tg iter (tI (cq X M G W) wi)) (ok : BlkOk X.N X.env.scope scope own) (hp : ∀ i ∈ slotsP p, i ∈ own.map (·.2))
    (hg : ∀ (s : Shared) (H : Hp) (C : Addr) (cl : List (Str × Addr)) (fp : List Addr), PG (X.blk s H scope (compEnvC scope cl C X.env) fp) tg (tgP X.K p)) (ht : ∀ (s : Shared) (H : Hp) (C : Addr) (cl : List (Str × Addr)) (fp : List Addr), PTs (X.blk s H scope (compEnvC scope cl C X.env) fp) ifs (tT (cq (X.blk s H scope (compEnvC scope cl C X.env) fp) M G W0) t))
    (he : ∀ (s : Shared) (H : Hp) (C : Addr) (cl : List (Str × Addr)) (fp : List Addr), PE (X.blk s H scope (compEnvC scope cl C X.env) fp) elt (tE (cq (X.blk s H scope (compEnvC scope cl C X.env) fp) M G W0) we)) (hs : ∀ x, foldedSetIterable iter X.env x = pure x := by intro _; rfl) :
    PE X (.ListComp elt [⟨tg, iter, ifs, 0⟩] scope pos) (tE (cq X M G W) (wComp wi p t we (own.map (·.2)))) := PE.imp (pe_lc hc hN hi ok hg ht he hs) fun σ H Q h => comp_rd hp h
theorem qs_setLc {i : Nat} {y : Str} {py : Pos} {elt tg iter : Expr} {ifs : List Expr} {scope : Scope} {own : List (Str × Nat)} {pos spos : Pos} {wi : WI} {p : Pat} {t : WT} {we : WE} (hc : X.calm = true) (hN : X.N.Nodup) (hy : X.N[i]? = some y) (hyl : X.env.scope.names.lookup y = some .local)
    (hsw : swapsWith (.ListComp elt [⟨tg, iter, ifs, 0⟩] scope pos) (some (.Name y py)) spos.line X.env = pure true) (hi : PI X tg iter (tI (cq X M G W) wi)) (ok : BlkOk X.N X.env.scope scope own) (hp : ∀ i ∈ slotsP p, i ∈ own.map (·.2))
    (hg : ∀ (s : Shared) (H : Hp) (C : Addr) (cl : List (Str × Addr)) (fp : List Addr), PG (X.blk s H scope (compEnvC scope cl C X.env) fp) tg (tgP X.K p)) (ht : ∀ (s : Shared) (H : Hp) (C : Addr) (cl : List (Str × Addr)) (fp : List Addr), PTs (X.blk s H scope (compEnvC scope cl C X.env) fp) ifs (tT (cq (X.blk s H scope (compEnvC scope cl C X.env) fp) M G W0) t))
    (he : ∀ (s : Shared) (H : Hp) (C : Addr) (cl : List (Str × Addr)) (fp : List Addr), PE (X.blk s H scope (compEnvC scope cl C X.env) fp) elt (tE (cq (X.blk s H scope (compEnvC scope cl C X.env) fp) M G W0) we)) (hs : ∀ x, foldedSetIterable iter X.env x = pure x := by intro _; rfl) :
    PS X (.Assign [.Name y py] (.ListComp elt [⟨tg, iter, ifs, 0⟩] scope pos) spos) (tS (cq X M G W) (wAsg (wComp wi p t we (own.map (·.2))) (gNm i))) :=
  PS.imp (ps_setLc hc hN hy hyl hsw hi ok hg ht he hs) fun E σ H ⟨ρ, m, P, re, rm, h, kp⟩ => comp_rd hp ⟨ρ, m, _, _, re, rm, h, fun d m1 v H1 rd rm1 s1 h1 => kp.1 _ m1 _ H1 (by rw [sto_eq]; exact (re.mono (s1.tups rm)).set rd i) rm1 s1 h1, kp.2.2.2.2.at re rm⟩
/-- {k: v for p in wi if t}, keys tuples -/
def wDCT (wi : WI) (p : Pat) (t : WT) (k v : WE) (own : List Nat) : WE := fun G ρ m Z P => wi G ρ m Z fun wk m1 => ∃ I : Nat → List (List Key × D) → Mm → Prop, I 0 [] m1 ∧ ∀ i acc m, I i acc m → wk.ok m ∧
  ((wk.its.length ≤ i ∧ ∀ a, Fr m a → P (.ref a) (m.set a (.dT acc))) ∨ ∃ x ρ', wk.its[i]? = some x ∧ bindP p x (wip ρ own) = some ρ' ∧ t G ρ' m Z0 fun b m2 =>
    (b = true → k G ρ' m2 Z0 fun dk m3 => v G ρ' m3 Z0 fun dv m4 => ∃ ks : List Key, dk = .tup (ks.map keyD) ∧ acc.length < sizeLine ∧ I (i + 1) (putD acc ks dv) m4) ∧ (b = false → I (i + 1) acc m2))
theorem RKT.addr {K : PySem.W.Frag} {H : Hp} : ∀ {ds : List (List Key × D)} {xs : List (List Key × Addr × Value)}, RKT K H ds xs → ∀ x ∈ xs, SqT K H x.2.1 (x.1.map kV)
  | [], _, h, x, hx => by simp only [RKT] at h; subst h; cases hx
  | p :: ps, _, h, x, hx => by
    simp only [RKT] at h
    obtain ⟨q, qs, rfl, e, a, b, r⟩ := h
    rcases List.mem_cons.mp hx with z | hx
    · subst z; rw [← e]; exact a
    · exact RKT.addr r x hx
theorem dcT_rd (hP : M.P = X.prog) (hw : M.w = X.w) {wi : WI} {p : Pat} {t : WT} {k v : WE} {own : List Nat} (hp : ∀ i ∈ slotsP p, i ∈ own) {σ : L2.St} {H : Hp} {Q : VK} (h : tE (cq X M G W) (wDCT wi p t k v own) σ H Q) :
    tDcT X.K X.prog X.w (tI (cq X M G W) wi) (tgP X.K p) (tT (cq X M G W0) t) (tE (cq X M G W0) k) (tE (cq X M G W0) v) own σ H Q := by
  obtain ⟨ρ, m, Z, P, re, rm, h, kq, kx⟩ := h
  refine ⟨ρ, m, Z, _, re, rm, h, fun wk m1 J H1 rm1 s1 ⟨I, i0, turn⟩ ok => ?_, kx⟩
  intro D hD hs0
  have hD1 : m1 D = none := rm1.fr hD
  refine ⟨fun i n H' => n = wk.its.length - i ∧ ∃ acc m' xs, RM X.K H' M m' ∧ Stp m1 H1 m' H' ∧ m' D = none ∧ H' D = some (.ext (dphi X.prog X.w D xs)) ∧ acc.length ≤ sizeLine ∧ RKT X.K H' acc xs ∧ I i acc m', ⟨_, rfl, [], m1, [], rm1.grow hD, .grow hD, hD1, upd_same, Nat.zero_le _, by simp only [RKT], i0⟩, ?_⟩
  rintro i n H2 ⟨rfl, acc, m2, xs, rm2, s2, nD2, eD2, hz2, ra, i2⟩
  obtain ⟨k1, z⟩ := turn i acc m2 i2
  obtain ⟨ok1, ok2⟩ := ok i m2 H2 rm2 s2 k1
  rcases z with ⟨hl, hQ⟩ | ⟨x, ρ', hx, hb, ht⟩
  · refine .inl ⟨ok1 hl, kq (.ref D) (m2.set D (.dT acc)) (.ref D) H2 (by simp only [RD]) (rm2.set ⟨xs, by rw [hP, hw]; exact eD2, hz2, hs0, ra⟩) (fun a o e k n => ?_) (hQ D nD2)⟩
    obtain ⟨e2, k2⟩ := (s1.trans s2) a o e k n
    refine ⟨e2, ?_⟩
    by_cases ha : a = D
    · subst ha
      have := (s1 a o e k n).1
      rw [hD] at this; cases this
    · rw [Mm.set_ne ha]; exact k2
  · obtain ⟨go, yl⟩ := ok2 x hx
    have hlt : i < wk.its.length := (List.getElem?_eq_some_iff.mp hx).1
    refine .inr ⟨go, fun H' => ∃ acc m' xs, RM X.K H' M m' ∧ Stp m1 H1 m' H' ∧ m' D = none ∧ H' D = some (.ext (dphi X.prog X.w D xs)) ∧ acc.length ≤ sizeLine ∧ RKT X.K H' acc xs ∧ I (i + 1) acc m', fun H' a => ⟨wk.its.length - (i + 1), by omega, rfl, a⟩, fun y H3 hy => ?_⟩
    obtain ⟨rx, rm3, s3⟩ := yl y H3 hy
    have re3 : RE X.K H3 (wip ρ own) (wipe σ own) := ((re.mono (s1.tups rm)).mono ((s2.trans s3).tups rm1)).wip own
    refine pat_run (vs := own) rx re3 hb hp fun σ' re' hw' => ⟨by rw [hw']; exact wipe_wipe σ own own (fun _ z => z), ρ', m2, _, _, re', rm3, ht, fun kk m4 H4 rm4 s4 h4 => ?_, KX.zero _⟩
    have s34 := s3.trans s4
    obtain ⟨eD4, nD4⟩ := s34 D _ eD2 nD2 (fun _ z => by cases z)
    have ra4 := ra.mono (s34.tups rm2)
    cases kk with
    | false => exact iteF ⟨acc, m4, xs, rm4, s2.trans s34, nD4, eD4, hz2, ra4, h4.2 rfl⟩
    | true =>
      refine iteT ⟨ρ', m4, _, _, re'.mono (s4.tups rm3), rm4, h4.1 rfl, fun dk m5 vk H5 rdk rm5 s5 h5 => ⟨ρ', m5, _, _, (re'.mono (s4.tups rm3)).mono (s5.tups rm4), rm5, h5, fun dv m6 vv H6 rdv rm6 s6 ⟨ks, ek, hz, h6⟩ => ?_, KX.zero _⟩, KX.zero _⟩
      subst ek
      have s56 := s5.trans s6
      obtain ⟨eD6, nD6⟩ := s56 D _ eD4 nD4 (fun _ z => by cases z)
      have ra6 := ra4.mono (s56.tups rm4)
      have rdk6 := rdk.mono (s6.tups rm5)
      simp only [RD] at rdk6
      obtain ⟨ka, vs, rfl, qk, rk⟩ := rdk6
      have qk' := qk
      rw [rk.keys] at qk'
      refine ⟨xs, ks, ka, rfl, qk', eD6, by rw [← ra6.length]; exact hz, ra6.addr, fun u ru => ?_⟩
      have t6 : TupLe X.K H6 (upd H6 D (.ext (dphi X.prog X.w D (storedH xs ks ka u)))) := upd_le eD6 ⟨fun _ z => (by cases z), fun _ _ z => (by cases z)⟩
      have s16 := s2.trans (s34.trans s56)
      have hl6 := length_putD acc ks dv
      refine ⟨putD acc ks dv, m6, storedH xs ks ka u, ⟨fun a w e => ?_, tabs_upd rm6.tabs eD6 .dphi⟩, fun a o e k n => ?_, nD6, upd_same, by omega, (ra6.put rdv ru qk').mono t6, h6⟩
      · have ha : a ≠ D := fun z => by subst z; rw [nD6] at e; cases e
        have q := rm6 a w e
        cases w with
        | lst xs => obtain ⟨us, z, r⟩ := q; exact ⟨us, by rw [upd_ne ha]; exact z, r.mono t6⟩
        | dK xs => obtain ⟨us, z, r⟩ := q; exact ⟨us, by rw [upd_ne ha]; exact z, r.mono t6⟩
        | dT xs => obtain ⟨us, z, z1, z2, r⟩ := q; exact ⟨us, by rw [upd_ne ha]; exact z, z1, z2, r.mono t6⟩
        | ins c fs => obtain ⟨dx, us, z, r⟩ := q; exact ⟨dx, us, by rw [upd_ne ha]; exact z, r.mono t6⟩
      · have ha : a ≠ D := ne_of_none e hD
        obtain ⟨q1, q2⟩ := s16 a o e k n
        exact ⟨by rw [upd_ne ha]; exact q1, q2⟩
theorem qe_dcT {kx vx tg iter : Expr} {ifs : List Expr} {scope : Scope} {own : List (Str × Nat)} {pos : Pos} {wi : WI} {p : Pat} {t : WT} {k v : WE} (hP : M.P = X.prog) (hw : M.w = X.w) (hc : X.calm = true) (hu : X.A.units + 64 < cLine) (hN : X.N.Nodup) (hi : PI X tg iter (tI (cq X M G W) wi)) (ok : BlkOk X.N X.env.scope scope own) (hp : ∀ i ∈ slotsP p, i ∈ own.map (·.2))
    (hg : ∀ (s : Shared) (H : Hp) (C : Addr) (cl : List (Str × Addr)) (fp : List Addr), PG (X.blk s H scope (compEnvC scope cl C X.env) fp) tg (tgP X.K p)) (ht : ∀ (s : Shared) (H : Hp) (C : Addr) (cl : List (Str × Addr)) (fp : List Addr), PTs (X.blk s H scope (compEnvC scope cl C X.env) fp) ifs (tT (cq (X.blk s H scope (compEnvC scope cl C X.env) fp) M G W0) t))
    (hk : ∀ (s : Shared) (H : Hp) (C : Addr) (cl : List (Str × Addr)) (fp : List Addr), PE (X.blk s H scope (compEnvC scope cl C X.env) fp) kx (tE (cq (X.blk s H scope (compEnvC scope cl C X.env) fp) M G W0) k))
    (he : ∀ (s : Shared) (H : Hp) (C : Addr) (cl : List (Str × Addr)) (fp : List Addr), PE (X.blk s H scope (compEnvC scope cl C X.env) fp) vx (tE (cq (X.blk s H scope (compEnvC scope cl C X.env) fp) M G W0) v)) (hs : ∀ x, foldedSetIterable iter X.env x = pure x := by intro _; rfl) :
    PE X (.DictComp kx vx [⟨tg, iter, ifs, 0⟩] scope pos) (tE (cq X M G W) (wDCT wi p t k v (own.map (·.2)))) := PE.imp (pe_dcT hc (by omega) hN hi ok hg ht hk he hs) fun σ H Q h => dcT_rd hP hw hp h

theorem qs_setDcT {i : Nat} {y : Str} {py : Pos} {kx vx tg iter : Expr} {ifs : List Expr} {scope : Scope} {own : List (Str × Nat)} {pos spos : Pos} {wi : WI} {p : Pat} {t : WT} {k v : WE} (hP : M.P = X.prog) (hw : M.w = X.w) (hc : X.calm = true) (hu : X.A.units + 64 < cLine) (hN : X.N.Nodup) (hy : X.N[i]? = some y) (hyl : X.env.scope.names.lookup y = some .local)
    (hsw : swapsWith (.DictComp kx vx [⟨tg, iter, ifs, 0⟩] scope pos) (some (.Name y py)) spos.line X.env = pure true) (hi : PI X tg iter (tI (cq X M G W) wi)) (ok : BlkOk X.N X.env.scope scope own) (hp : ∀ i ∈ slotsP p, i ∈ own.map (·.2))
    (hg : ∀ (s : Shared) (H : Hp) (C : Addr) (cl : List (Str × Addr)) (fp : List Addr), PG (X.blk s H scope (compEnvC scope cl C X.env) fp) tg (tgP X.K p)) (ht : ∀ (s : Shared) (H : Hp) (C : Addr) (cl : List (Str × Addr)) (fp : List Addr), PTs (X.blk s H scope (compEnvC scope cl C X.env) fp) ifs (tT (cq (X.blk s H scope (compEnvC scope cl C X.env) fp) M G W0) t))
    (hk : ∀ (s : Shared) (H : Hp) (C : Addr) (cl : List (Str × Addr)) (fp : List Addr), PE (X.blk s H scope (compEnvC scope cl C X.env) fp) kx (tE (cq (X.blk s H scope (compEnvC scope cl C X.env) fp) M G W0) k))
    (he : ∀ (s : Shared) (H : Hp) (C : Addr) (cl : List (Str × Addr)) (fp : List Addr), PE (X.blk s H scope (compEnvC scope cl C X.env) fp) vx (tE (cq (X.blk s H scope (compEnvC scope cl C X.env) fp) M G W0) v)) (hs : ∀ x, foldedSetIterable iter X.env x = pure x := by intro _; rfl) :
    PS X (.Assign [.Name y py] (.DictComp kx vx [⟨tg, iter, ifs, 0⟩] scope pos) spos) (tS (cq X M G W) (wAsg (wDCT wi p t k v (own.map (·.2))) (gNm i))) :=
  PS.imp (ps_setDcT hc (by omega) hN hy hyl hsw hi ok hg ht hk he hs) fun E σ H ⟨ρ, m, P, re, rm, h, kp⟩ => dcT_rd hP hw hp ⟨ρ, m, _, _, re, rm, h, fun d m1 v H1 rd rm1 s1 h1 => kp.1 _ m1 _ H1 (by rw [sto_eq]; exact (re.mono (s1.tups rm)).set rd i) rm1 s1 h1, kp.2.2.2.2.at re rm⟩

/-- the pairs, one by one: their values, from the left -/
def wKVs : List (WE × WE) → Gam → Ev → Mm → PX → (List (D × D) → Mm → Prop) → Prop
  | [], _, _, m, _, P => P [] m
  | (k, v) :: r, G, ρ, m, Z, P => k G ρ m Z fun x m1 => v G ρ m1 Z fun y m2 => wKVs r G ρ m2 Z fun ps m3 => P ((x, y) :: ps) m3
def mergeD {κ : Type} [DecidableEq κ] (kvs more : List (κ × D)) : List (κ × D) := more.foldl (fun acc kv => putD acc kv.1 kv.2) kvs
def wDisp (l : List (WE × WE)) : WE := fun G ρ m Z P => wKVs l G ρ m Z fun ps m1 => (∃ kvs : List (Key × D), ps = kvs.map (fun kv => (keyD kv.1, kv.2)) ∧ ∀ p, Fr m1 p → P (.ref p) (m1.set p (.dK (mergeD [] kvs)))) ∨
  ∃ kvs : List (List Key × D), ps = kvs.map (fun kv => (.tup (kv.1.map keyD), kv.2)) ∧ ∀ p, Fr m1 p → P (.ref p) (m1.set p (.dT (mergeD [] kvs)))
/-- the pairs' run -/
structure QPs (X : Cx) (c : Cq) (pos : Pos) (keys : List (Option Expr)) (values : List Expr) (l : List (WE × WE)) : Prop where
  run : ∀ (pins : List (Addr × Obj)) (s : Shared) (σ : L2.St) (H : Hp) (ρ : Ev) (m : Mm) (Z : PX) (P : List (D × D) → Mm → Prop), Inv X pins σ H s → RE c.K H ρ σ → RM c.K H c.M m → wKVs l c.G ρ m Z P → KX c m H Z σ →
    wpAny (model X.prog X.w) X.A (evalPairs (pairTrees keys values X.env pos)) (fun vs s' => ∃ ds m' ps H', Inv X pins σ H' s' ∧ L2.VV ps vs ∧ RDs c.K H' (ds.map (·.1)) (ps.map (·.1)) ∧ RDs c.K H' (ds.map (·.2)) (ps.map (·.2)) ∧ RM c.K H' c.M m' ∧ Stp m H m' H' ∧ P ds m') X.xe s
theorem qps_nil {c : Cq} {pos : Pos} : QPs X c pos [] [] [] := ⟨fun pins s σ H ρ m Z P I re rm h kx => pairTrees_nil_walk ⟨[], m, [], H, I, .nil, .nil, .nil, rm, .refl _ _, h⟩⟩
theorem qps_cons {c : Cq} {pos : Pos} {k v : Expr} {ks : List (Option Expr)} {vs : List Expr} {wk wv : WE} {l : List (WE × WE)} (hk : PE X k (tE c wk)) (hv : PE X v (tE c wv)) (hr : QPs X c pos ks vs l) : QPs X c pos (some k :: ks) (v :: vs) ((wk, wv) :: l) :=
  ⟨fun pins s σ H ρ m Z P I re rm h kx => pairTrees_cons_walk (thn (hk.run pins s σ H (fun x H1 => ∃ d m1, RD c.K H1 d x ∧ RM c.K H1 c.M m1 ∧ Stp m H m1 H1 ∧ wv c.G ρ m1 Z fun y m2 => wKVs l c.G ρ m2 Z fun ps m3 => P ((d, y) :: ps) m3) I ⟨ρ, m, Z, _, re, rm, h, fun d m1 x H1 r1 rm1 s1 h1 => ⟨d, m1, r1, rm1, s1, h1⟩, kx⟩)
    fun u s1 ⟨x, H1, I1, rx, d, m1, rd, rm1, st1, q1⟩ => thn (hv.run pins s1 σ H1 (fun y H2 => ∃ e m2, RD c.K H2 e y ∧ RM c.K H2 c.M m2 ∧ Stp m1 H1 m2 H2 ∧ wKVs l c.G ρ m2 Z fun ps m3 => P ((d, e) :: ps) m3) I1 ⟨ρ, m1, Z, _, re.mono (st1.tups rm), rm1, q1, fun e m2 y H2 r2 rm2 s2 h2 => ⟨e, m2, r2, rm2, s2, h2⟩, kx.mono st1⟩)
      fun w2 s2 ⟨y, H2, I2, ry, e, m2, rde, rm2, st2, q2⟩ => thn (hr.run pins s2 σ H2 ρ m2 Z _ I2 (re.mono ((st1.trans st2).tups rm)) rm2 q2 (kx.mono (st1.trans st2)))
        fun ws s3 ⟨ds, m3, ps, H3, I3, rel, r1, r2, rm3, st3, q3⟩ => ⟨(d, e) :: ds, m3, (x, y) :: ps, H3, I3, .cons ⟨rx, ry⟩ rel, .cons (rd.mono ((st2.trans st3).tups rm1)) r1, .cons (rde.mono (st3.tups rm2)) r2, rm3, (st1.trans st2).trans st3, q3⟩)⟩
theorem RKV.merge {K : PySem.W.Frag} {H : Hp} : ∀ {more : List (Key × D)} {ms : List (Key × V)} {kvs : List (Key × D)} {us : List (Key × V)}, RKV K H more ms → RKV K H kvs us → RKV K H (mergeD kvs more) (mergeK us ms)
  | [], ms, kvs, us, h, r => by simp only [RKV] at h; subst h; exact r
  | p :: ps, ms, kvs, us, h, r => by
    simp only [RKV] at h
    obtain ⟨v, ms', rfl, h1, h2⟩ := h
    show RKV K H (mergeD (putD kvs p.1 p.2) ps) (mergeK (putK us p.1 v) ms')
    exact RKV.merge h2 (r.put h1)
theorem length_mergeD {κ : Type} [DecidableEq κ] : ∀ (more kvs : List (κ × D)), (mergeD kvs more).length ≤ kvs.length + more.length
  | [], kvs => Nat.le_refl _
  | p :: r, kvs => by
    have h1 := length_mergeD r (putD kvs p.1 p.2)
    have h2 := length_putD kvs p.1 p.2
    show (mergeD (putD kvs p.1 p.2) r).length ≤ _
    rw [List.length_cons]; omega
theorem kv_of {K : PySem.W.Frag} {H : Hp} : ∀ {kvs : List (Key × D)} {ps : List (V × V)}, RDs K H ((kvs.map fun kv => (keyD kv.1, kv.2)).map (·.1)) (ps.map (·.1)) → RDs K H ((kvs.map fun kv => (keyD kv.1, kv.2)).map (·.2)) (ps.map (·.2)) → ∃ us : List (Key × V), ps = us.map (fun kv => (kV kv.1, kv.2)) ∧ RKV K H kvs us
  | [], ps, h1, h2 => by
    simp only [List.map_nil, RDs] at h1
    have e : ps = [] := by cases ps with | nil => rfl | cons _ _ => simp at h1
    subst e
    exact ⟨[], rfl, by simp only [RKV]⟩
  | p :: kvs, ps, h1, h2 => by
    cases ps with
    | nil => have := h1.length; simp at this
    | cons q ps =>
      simp only [List.map_cons, RDs] at h1 h2
      obtain ⟨v1, r1, e1, a1, b1⟩ := h1
      obtain ⟨v2, r2, e2, a2, b2⟩ := h2
      injection e1 with e11 e12
      injection e2 with e21 e22
      subst e11 e12 e21 e22
      obtain ⟨us, eu, ru⟩ := kv_of b1 b2
      refine ⟨(p.1, q.2) :: us, ?_, ?_⟩
      · rw [List.map_cons, eu, ← a1.key]
      · simp only [RKV]; exact ⟨q.2, us, rfl, a2, ru⟩
theorem kt_of {K : PySem.W.Frag} {H : Hp} : ∀ {kvs : List (List Key × D)} {ps : List (V × V)} {ws : List (Value × Value)}, L2.VV ps ws → RDs K H ((kvs.map fun kv => (D.tup (kv.1.map keyD), kv.2)).map (·.1)) (ps.map (·.1)) → RDs K H ((kvs.map fun kv => (D.tup (kv.1.map keyD), kv.2)).map (·.2)) (ps.map (·.2)) →
    ∃ xs : List (List Key × Addr × Value), ws = xs.map (fun x => (Value.ref x.2.1, x.2.2)) ∧ RKT K H kvs xs
  | [], ps, ws, hv, h1, h2 => by
    simp only [List.map_nil, RDs] at h1
    have e : ps = [] := by cases ps with | nil => rfl | cons _ _ => simp at h1
    subst e
    cases hv
    exact ⟨[], rfl, by simp only [RKT]⟩
  | p :: kvs, ps, ws, hv, h1, h2 => by
    cases ps with
    | nil => have := h1.length; simp at this
    | cons q ps =>
      cases hv with
      | @cons _ z _ zs hq hv =>
        simp only [List.map_cons, RDs] at h1 h2
        obtain ⟨v1, r1, e1, a1, b1⟩ := h1
        obtain ⟨v2, r2, e2, a2, b2⟩ := h2
        injection e1 with e11 e12
        injection e2 with e21 e22
        subst e11 e12 e21 e22
        obtain ⟨xs, eu, ru⟩ := kt_of hv b1 b2
        simp only [RD] at a1
        obtain ⟨a, vs, ea, qa, ra⟩ := a1
        obtain ⟨hq1, hq2⟩ := hq
        rw [ea] at hq1
        have ez : z.1 = Value.ref a := hq1
        rw [ra.keys] at qa
        refine ⟨(p.1, a, z.2) :: xs, ?_, ?_⟩
        · rw [List.map_cons, eu, ← ez]
        · simp only [RKT]; exact ⟨_, xs, rfl, rfl, qa, ⟨q.2, a2, hq2⟩, ru⟩
theorem carriesH_of {K : PySem.W.Frag} {P : Program} {w : World} {h : Heap} {H : Hp} : ∀ {kvs : List (List Key × D)} {xs : List (List Key × Addr × Value)}, RKT K H kvs xs → (∀ b (ks : List Key), SqT K H b (ks.map kV) → (tupleKind (mixKind P w)).is h ks b) → CarriesH (tupleKind (mixKind P w)) h (xs.map fun x => (Value.ref x.2.1, x.2.2)) xs
  | [], xs, r, _ => by simp only [RKT] at r; subst r; trivial
  | p :: ps, xs, r, k => by
    simp only [RKT] at r
    obtain ⟨q, qs, rfl, e, a, b, r⟩ := r
    exact ⟨rfl, rfl, by rw [← e]; exact k _ _ a, carriesH_of r k⟩
theorem RKT.merge {K : PySem.W.Frag} {H : Hp} : ∀ {more : List (List Key × D)} {ms : List (List Key × Addr × Value)} {kvs : List (List Key × D)} {us : List (List Key × Addr × Value)}, RKT K H more ms → RKT K H kvs us → RKT K H (mergeD kvs more) (storedAllH us ms)
  | [], ms, kvs, us, h, r => by simp only [RKT] at h; subst h; exact r
  | p :: ps, ms, kvs, us, h, r => by
    simp only [RKT] at h
    obtain ⟨q, qs, rfl, e, a, ⟨v, b1, b2⟩, h2⟩ := h
    obtain ⟨q1, q2, q3⟩ := q
    have e' : p.1 = q1 := e
    subst e'
    show RKT K H (mergeD (putD kvs p.1 p.2) ps) (storedAllH (storedH us p.1 q2 q3) qs)
    exact RKT.merge h2 (r.put b1 b2 a)
theorem qe_disp {keys : List (Option Expr)} {values : List Expr} {pos : Pos} {l : List (WE × WE)} (hP : M.P = X.prog) (hw : M.w = X.w) (hu : X.A.units + 64 < cLine) (h : QPs X (cq X M G W) pos keys values l) (hall : keys.all (·.isSome) = true) (hl : keys.length = values.length) (h0 : keys ≠ []) (h15 : keys.length ≤ 15) :
    PE X (.Dict keys values pos) (tE (cq X M G W) (wDisp l)) := by
  refine ⟨fun pins s σ H Q I ⟨ρ, m, Z, P, re, rm, hq, kq, kx⟩ => ?_⟩
  have hn := I.hok.fresh (Nat.le_refl s.heap.objs.size)
  have hsys : (s.heap.objs.size == sysModules) = false := beq_eq_false_iff_ne.mpr (Ne.symm (Nat.ne_of_lt I.big))
  have hlen := pairTrees_length keys values X.env pos hall hl
  -- the empty dict stands aside while the pairs are made
  have I1 := I.laid (a := s.heap.objs.size) (o := .ext fun h => h.get? s.heap.objs.size = some { cls := .type "dict", data := .dict #[] }) (h' := s.heap.push { cls := .type "dict", data := .dict #[] }) (t' := s.toks) (fun _ _ q => Heap.get?_push_of_some _ q) (Nat.le_refl _)
    ⟨Heap.get?_push_size _ rfl, ⟨_, Heap.get?_push_size _ rfl⟩, fun h1 h2 e k => k _ e⟩
  have t1 : TupLe X.K H (upd H s.heap.objs.size (.ext fun h => h.get? s.heap.objs.size = some { cls := .type "dict", data := .dict #[] })) := tup_le hn
  have hm0 : m s.heap.objs.size = none := rm.fr hn
  have st0 : Stp m H m (upd H s.heap.objs.size (.ext fun h => h.get? s.heap.objs.size = some { cls := .type "dict", data := .dict #[] })) := .grow hn
  have main := h.run pins _ σ _ ρ m Z _ I1 (re.mono t1) (rm.grow hn) hq (kx.mono st0)
  have split : ∀ {vs : List (Value × Value)} {s' : Shared}, (∃ ds m' ps H', Inv X pins σ H' s' ∧ L2.VV ps vs ∧ RDs X.K H' (ds.map (·.1)) (ps.map (·.1)) ∧ RDs X.K H' (ds.map (·.2)) (ps.map (·.2)) ∧ RM X.K H' M m' ∧ Stp m (upd H s.heap.objs.size (.ext fun h => h.get? s.heap.objs.size = some { cls := .type "dict", data := .dict #[] })) m' H' ∧
      ((∃ kvs : List (Key × D), ds = kvs.map (fun kv => (keyD kv.1, kv.2)) ∧ ∀ p, Fr m' p → P (.ref p) (m'.set p (.dK (mergeD [] kvs)))) ∨ ∃ kvs : List (List Key × D), ds = kvs.map (fun kv => (.tup (kv.1.map keyD), kv.2)) ∧ ∀ p, Fr m' p → P (.ref p) (m'.set p (.dT (mergeD [] kvs))))) →
      (∃ m' kvs us H', Inv X pins σ H' s' ∧ L2.VV (us.map fun kv : Key × V => (kV kv.1, kv.2)) vs ∧ RKV X.K H' kvs us ∧ RM X.K H' M m' ∧ Stp m H m' H' ∧ H' s.heap.objs.size = some (.ext fun h => h.get? s.heap.objs.size = some { cls := .type "dict", data := .dict #[] }) ∧ m' s.heap.objs.size = none ∧ P (.ref s.heap.objs.size) (m'.set s.heap.objs.size (.dK (mergeD [] kvs)))) ∨
      (∃ m' kvs xs H', Inv X pins σ H' s' ∧ vs = xs.map (fun x : List Key × Addr × Value => (Value.ref x.2.1, x.2.2)) ∧ RKT X.K H' kvs xs ∧ RM X.K H' M m' ∧ Stp m H m' H' ∧ H' s.heap.objs.size = some (.ext fun h => h.get? s.heap.objs.size = some { cls := .type "dict", data := .dict #[] }) ∧ m' s.heap.objs.size = none ∧ P (.ref s.heap.objs.size) (m'.set s.heap.objs.size (.dT (mergeD [] kvs)))) := by
    rintro vs s' ⟨ds, m', ps, H', I', rel, r1, r2, rm', st, hp⟩
    obtain ⟨e1, e2⟩ := st _ _ upd_same hm0 (fun _ z => by cases z)
    have st' := st0.trans st
    rcases hp with ⟨kvs, rfl, hp⟩ | ⟨kvs, rfl, hp⟩
    · obtain ⟨us, rfl, rk⟩ := kv_of r1 r2
      exact .inl ⟨m', kvs, us, H', I', rel, rk, rm', st', e1, e2, hp _ e2⟩
    · obtain ⟨xs, ew, rk⟩ := kt_of rel r1 r2
      exact .inr ⟨m', kvs, xs, H', I', ew, rk, rm', st', e1, e2, hp _ e2⟩
  rw [arm_eval_Dict, zip_pairTrees keys values X.env pos hall hl, dictDisplay_pairs (pairTrees keys values X.env pos) (fun e => h0 (List.length_eq_zero_iff.mp (by rw [← hlen, e]; rfl))) (by omega)]
  refine wpAny_bind (wpAny_standAt (wpAny_bind ?_))
  unfold subDict
  refine wpAny_bind (wpAny_alloc ?_)
  refine wpAny_bind (wpAny_holding ?_)
  rw [if_pos (show (pairTrees keys values X.env pos).length ≤ 15 by omega)]
  refine wpAny_bind (wpAny_mono (wpAny_evalPairs_len main) (fun vs s₁ ⟨hvl, h₁⟩ => ?_) fun _ _ e => e)
  rcases split h₁ with ⟨m', kvs, us, H', I', rel, rk, rm', st, eD, eM, hp⟩ | ⟨m', kvs, xs, H', I', ew, rk, rm', st, eD, eM, hp⟩
  · have het := (I'.hok _ _ eD).1
    have hlen2 : vs.length ≤ 15 := by have e : vs.length = (pairTrees keys values X.env pos).length := hvl; omega
    have hlu : us.length = vs.length := by have e := Paired.length rel; rw [List.length_map] at e; exact e
    obtain ⟨rs, c, rkv⟩ := carries_of (P := X.prog) (w := X.w) rel
    have dd0 : s₁.heap.DictOf (mixKind X.prog X.w) s.heap.objs.size [] := by
      obtain ⟨o, es, ep, h1, h2, h3, r⟩ := Heap.DictOf.new (knd := mixKind X.prog X.w) s.heap
      rw [Heap.get?_push_size _ rfl] at h1
      cases h1
      exact ⟨_, es, ep, het, h2, h3, r⟩
    have hrs : rs.length = us.length := (Paired.length rkv).symm
    refine wpAny_holding (wpAny_bind (wpAny_storeAll (knd := mixKind X.prog X.w) vs rs [] s₁ _ c dd0 (by rw [sizeLine_eq, List.length_nil]; omega) fun h' dd' hs => wpAny_pure (wpAny_pure (wpAny_pure ?_))))
    have he : ∃ q, h'.get? s.heap.objs.size = some q := let ⟨q, _, _, hq, _⟩ := dd'; ⟨q, hq⟩
    have hz : (mergeK [] us).length ≤ sizeLine := by
      have h1 := length_mergeK us []
      rw [List.length_nil] at h1
      rw [sizeLine_eq]; omega
    have t := upd_le (K := X.K) (o := .dK (mergeK [] us)) eD ⟨fun _ z => (by cases z), fun _ _ z => (by cases z)⟩
    refine ⟨.ref s.heap.objs.size, _, d_write (t' := s₁.toks + vs.length) I' (by rw [eD]; exact True.intro) hs he (dk_new hz hsys (rkv.merge .nil) dd'), rfl, ?_⟩
    refine kq (.ref s.heap.objs.size) (m'.set s.heap.objs.size (.dK (mergeD [] kvs))) _ _ (by simp only [RD]) (rm'.write eD .dict0 ⟨_, upd_same, (RKV.merge rk (by simp only [RKV])).mono t⟩) (fun b o e1 e2 n => ?_) hp
    obtain ⟨e3, e4⟩ := st b o e1 e2 n
    have nb : b ≠ s.heap.objs.size := ne_of_none e1 hn
    exact ⟨by rw [upd_ne nb]; exact e3, by rw [Mm.set_ne nb]; exact e4⟩
  · have het := (I'.hok _ _ eD).1
    have hlen2 : vs.length ≤ 15 := by have e : vs.length = (pairTrees keys values X.env pos).length := hvl; omega
    have hlu : xs.length = vs.length := by rw [ew, List.length_map]
    subst ew
    have dd0 : s₁.heap.DictOfH (tupleKind (mixKind X.prog X.w)) s.heap.objs.size [] := ⟨_, #[], 0, het, ⟨rfl, rfl, rfl⟩, rfl, rfl, (fun x hx => by cases hx), List.nodup_nil⟩
    refine wpAny_holding (wpAny_bind (wpAny_storeAllH (knd := tupleKind (mixKind X.prog X.w)) (show (tupleKind (mixKind X.prog X.w)).room X.A from (by show X.A.units < cLine; omega)) _ xs [] s₁ _ (carriesH_of (P := X.prog) (w := X.w) rk fun b ks q => key_sq I' q) dd0 (by rw [sizeLine_eq, List.length_nil]; omega) fun h' tk dd' hs => wpAny_pure (wpAny_pure (wpAny_pure ?_))))
    obtain ⟨q, es, ep, hq, _⟩ := id dd'
    have t := upd_le (K := X.K) (o := .ext (dphi X.prog X.w s.heap.objs.size (storedAllH [] xs))) eD ⟨fun _ z => (by cases z), fun _ _ z => (by cases z)⟩
    refine ⟨.ref s.heap.objs.size, _, d_write (t' := tk) I' (by rw [eD]; exact True.intro) hs ⟨q, hq⟩ (ext_ok dd'), rfl, ?_⟩
    have hz : (mergeD [] kvs).length ≤ sizeLine := by
      have h1 := length_mergeD kvs []
      have h2 := rk.length
      rw [List.length_nil] at h1
      rw [sizeLine_eq]; omega
    refine kq (.ref s.heap.objs.size) (m'.set s.heap.objs.size (.dT (mergeD [] kvs))) _ _ (by simp only [RD]) (rm'.write eD .dict0 ⟨_, by rw [hP, hw]; exact upd_same, hz, hsys, (RKT.merge rk (by simp only [RKT])).mono t⟩) (fun b o e1 e2 n => ?_) hp
    obtain ⟨e3, e4⟩ := st b o e1 e2 n
    have nb : b ≠ s.heap.objs.size := ne_of_none e1 hn
    exact ⟨by rw [upd_ne nb]; exact e3, by rw [Mm.set_ne nb]; exact e4⟩
end
end Qz
set_option Elab.async false
set_option linter.all false
set_option maxRecDepth 100000
set_option maxHeartbeats 2000000
namespace Qz
open PySem PySem.Spec PyProof.Rows L2
open AutoSeq1 (wpAny_loadPart')

theorem meets_enum_newT (l : Addr) (items : Array Value) (n : Nat) (dct : Option Addr) (sl : Array (Option Value)) :
    Meets (Builtin.«enumerate.__new__» ⟨[.type "enumerate", .ref l], []⟩) (fun _ R s => s.heap.get? l = some { cls := .type "tuple", dict := dct, data := .seq items n, slots := sl } ∧
      R (.ok (.ret (.ref (s.heap.push { cls := .type "tuple_iterator", data := .fields #[.ref l, .int 0 0] }).objs.size)))
        { s with heap := (s.heap.push { cls := .type "tuple_iterator", data := .fields #[.ref l, .int 0 0] }).push { cls := .type "enumerate", data := .fields #[.none, .bool false, .ref s.heap.objs.size, rawInt 0, .none, .none] } }) :=
  .of_wp fun prog w A R s h => by
    obtain ⟨hp, g, d, tk, os⟩ := s; obtain ⟨hl, h⟩ := h
    have hsub := sub_enumerate
    have hL : Heap.IsTuple (Shared.heap ⟨hp, g, d, tk, os⟩) l items := ⟨_, hl, rfl, n, rfl⟩
    wp_walk using wpAny_loadPart' hl
    refine wpAny_stack_any fun st => wpAny_pure ?_
    split
    · rename_i c _ _ _ _ _
      cases (c == Value.type "enumerate")
      · wp_walk using wpAny_loadPart' hl, wpAny_pyIter_tuple hL
        exact ⟨_, rfl, h⟩
      · wp_walk using wpAny_loadPart' hl, wpAny_pyIter_tuple hL
        exact ⟨_, rfl, h⟩
    · wp_walk using wpAny_loadPart' hl, wpAny_pyIter_tuple hL
      exact ⟨_, rfl, h⟩
section
variable {prog : Program} {w : World} {A : Around} {E : Value → Shared → Prop} {s : Shared}
theorem call_enum_tuple {l : Addr} {items : Array Value} {Q : Value → Shared → Prop} (hL : s.heap.IsTuple l items)
    (h : ∀ h', IsEnum h' (s.heap.objs.size + 1) s.heap.objs.size 0 .none → h'.IsTupleIter s.heap.objs.size l 0 → h'.objs.size = s.heap.objs.size + 2 →
      (∀ b o, s.heap.get? b = some o → h'.get? b = some o) → Q (.ref (s.heap.objs.size + 1)) { s with heap := h' }) :
    wpAny (model prog w) A (call (.type "enumerate") [.ref l]) Q E s := by
  obtain ⟨⟨c, dct, dt, sl⟩, hl, hc, n, hd⟩ := hL
  replace hc : c = .type "tuple" := hc
  replace hd : dt = .seq items n := hd
  subst hc hd
  refine callType_new F.called_enumerate (by decide) (F.typeCall_enumerate_1 _) (F.newCall_enumerate_1 _) (fun obj => F.args_object_init_2 obj _) F.entry_enumerate_new
    (meets_enum_newT l items n dct sl) ⟨hl, ?_⟩
  have hz : (s.heap.push { cls := .type "tuple_iterator", data := .fields #[.ref l, .int 0 0] }).objs.size = s.heap.objs.size + 1 := Heap.size_push ..
  show _ ∧ _
  rw [hz]
  have he : IsEnum ((s.heap.push { cls := .type "tuple_iterator", data := .fields #[.ref l, .int 0 0] }).push
      { cls := .type "enumerate", data := .fields #[.none, .bool false, .ref s.heap.objs.size, rawInt 0, .none, .none] }) (s.heap.objs.size + 1) s.heap.objs.size 0 .none := by
    have := Heap.get?_push_size (s.heap.push { cls := .type "tuple_iterator", data := .fields #[.ref l, .int 0 0] })
      (o := { cls := .type "enumerate", data := .fields #[.none, .bool false, .ref s.heap.objs.size, rawInt 0, .none, .none] }) rfl
    rw [hz] at this; exact this
  exact ⟨⟨_, he, rfl⟩, h _ he ⟨_, Heap.get?_push_of_some _ (Heap.get?_push_size _ rfl), rfl, rfl⟩ (by rw [Heap.size_push, hz]) fun b o x => Heap.get?_push_of_some _ (Heap.get?_push_of_some _ x)⟩
end
/-- the tuple at a, each item in a new pair -/
def IteT (K : PySem.W.Frag) (a : Addr) : It :=
  ⟨fun i H => ∃ (xs : List V) (x : V), SqT K H a xs ∧ xs[i]? = some x, fun i H v H' => ∃ T x, v = .ref T ∧ H T = none ∧ H' = upd H T (.tup [.int (i : Nat), x]) ∧ ∀ xs, SqT K H a xs → xs[i]? = some x, fun i H => ∃ xs : List V, SqT K H a xs ∧ xs.length ≤ i⟩
theorem turn_enumT {P : Program} {w : World} {K : PySem.W.Frag} {elts : List Expr} {kk : Nat} {tpos : Pos} (a e it : Addr) (nt : a ≠ e ∧ a ≠ it) :
    Turn P w K (.Tuple elts kk tpos) (IteT K a) [e, it] e (fun i h => (∃ old, IsEnum h e it ((i : Nat) : Int) old) ∧ h.IsTupleIter it a i ∧ e ≠ it) where
  mem := by simp
  obj := fun i h st b hb => by
    obtain ⟨⟨old, he⟩, ⟨o, ho, hc, hd⟩, _⟩ := st
    have e' : b = e ∨ b = it := by simpa using hb
    rcases e' with z | z
    · rw [z]; exact ⟨_, he, fun v q => nomatch q⟩
    · rw [z]; exact ⟨o, ho, fun v q => by rw [hd] at q; cases q⟩
  keep := fun i h h' st k => let ⟨⟨old, he⟩, hi, hne⟩ := st; ⟨⟨old, k e (by simp) _ he⟩, hi.at fun o q => k it (by simp) o q, hne⟩
  item := by
    intro X hP hw hK hc i pins s σ H E I hf st hg
    subst hP hw hK
    obtain ⟨⟨old, he⟩, hit, hne⟩ := st
    obtain ⟨xs, x, hq, hx⟩ := hg
    obtain ⟨its, rv, p, hz⟩ := I.tuple hq
    obtain ⟨u, hu, ru⟩ := rv.get hx
    have hel : e < s.heap.objs.size := Heap.lt_size he
    have hil : it < s.heap.objs.size := by obtain ⟨_, q, _⟩ := hit; exact Heap.lt_size q
    have hlt : i < its.toArray.size := by
      have := (List.getElem?_eq_some_iff.mp hu).1
      simpa using this
    have Dr := Draws.tuple (prog := X.prog) (w := X.w) (A := X.A.in1) (I.ok.hd hc) it a nt.2 its.toArray
    refine wpAny_pyNext_enum_itemD Dr he ⟨hit, p⟩ hlt hne (fun z => by
      rcases List.mem_cons.mp z with z | z
      · exact hne z
      · exact nt.1 (List.mem_singleton.mp z).symm) fun u' h' tk hP' ho hit' hT hsz hk => ?_
    have eu : u' = u := by
      have : its.toArray[i]? = some u' := hP'
      rw [List.getElem?_toArray, hu] at this
      exact (Option.some.inj this).symm
    subst eu
    refine ⟨_, rfl, wpAny_letOwnedTupleGo_enum (s := { s with heap := h', toks := tk + 1 }) ho fun h'' he' sb => ?_⟩
    have hT2 : h''.get? s.heap.objs.size = some { cls := .type "tuple", data := .seq #[.int i tk, u'] } := (sb.2 _ (Nat.ne_of_gt hel)).trans hT
    have new : ObjOk X.prog X.w (upd H s.heap.objs.size (.tup [.int (i : Nat), x])) h'' s.heap.objs.size (.tup [.int (i : Nat), x]) :=
      ⟨by show 2 ≤ sizeLine; decide, [.int i tk, u'], .cons ⟨_, rfl⟩ (.cons ru .nil), ⟨_, hT2, rfl, _, rfl⟩⟩
    have I1 : Inv X pins σ (upd H s.heap.objs.size (.tup [.int (i : Nat), x])) { s with heap := h'', toks := tk + 1 } :=
      I.turnedNew (ch := [e, it]) (fun b ob hb q => (sb.2 b (fun z => hb (by simp [z]))).trans (hk b ob (fun z => hb (by simp [z])) (fun z => hb (by simp [z])) q)) hf (Nat.le_refl _) new
    refine ⟨.ref s.heap.objs.size, _, I1, rfl, ⟨_, x, rfl, I.hok.fresh (Nat.le_refl _), rfl, fun ys hy => by rw [I.tuple_inj hy hq]; exact hx⟩, ⟨⟨u', ?_⟩, hit'.1.at fun o q => (sb.2 it (Ne.symm hne)).trans q, hne⟩, fun b hb => ?_⟩
    · have e1 : ((i + 1 : Nat) : Int) = (i : Int) + 1 := by omega
      rw [e1]; exact he'
    · have hb' : b < s.heap.objs.size := by
        have e' : b = e ∨ b = it := by simpa using hb
        rcases e' with z | z
        · rw [z]; exact hel
        · rw [z]; exact hil
      rw [upd_ne (Nat.ne_of_lt hb')]
      exact (hf b hb).1
  done := by
    intro X hP hw hK hc i pins s σ H E I hf st hg
    subst hP hw hK
    obtain ⟨⟨old, he⟩, hit, hne⟩ := st
    obtain ⟨xs, hq, hx⟩ := hg
    obtain ⟨its, rv, p, hz⟩ := I.tuple hq
    obtain ⟨f0, f1, f2, f3, f4, f5⟩ := hf it (by simp)
    have hl := rv.length
    have Dr : Draws X.prog X.w X.A.in1 it [it, a] i (fun _ _ => True) (fun j h => j = i ∧ h.IsTupleIter it a i ∧ h.IsTuple a its.toArray) :=
      { live := fun _ _ st => let ⟨o, ho, _⟩ := st.2.1; ⟨o, ho⟩
        frame := fun _ _ _ st hk => ⟨st.1, st.2.1.at fun o e => hk it (by simp) o e, st.2.2.at fun o e => hk a (by simp) o e⟩
        item := fun j s Q E hj st hQ => absurd hj (by rw [st.1]; exact Nat.lt_irrefl _)
        done := fun s Q E st hE => wpAny_nextOf_tuple_end (I.ok.hd hc) st.2.1 st.2.2 (by rw [List.getElem?_toArray]; exact List.getElem?_eq_none (by omega)) hE }
    exact wpAny_pyNext_enum_endD Dr he ⟨rfl, hit, p⟩ fun h' eb => ⟨rfl, I.turned (t' := s.toks) (fun b o hb q => eb b o hb q) f0 f1 f3 f4 f5⟩
  self := fun A i s Q E st h => let ⟨⟨_, he⟩, _⟩ := st; wpAny_pyIter_enum he h

def enumD (xs : List D) : List D := xs.zipIdx.map fun p => .tup [.int (p.2 : Nat), p.1]
theorem enum_at {xs : List D} (i : Nat) : (enumD xs)[i]? = (xs[i]?).map fun x => D.tup [.int (i : Nat), x] := by
  unfold enumD
  rw [List.getElem?_map, List.getElem?_zipIdx, Option.map_map]
  cases xs[i]? <;> simp
def wEnum (a : WA) : WI := fun G ρ m Z P => a G ρ m Z fun ds m1 => match ds with
  | [.tup xs] => P ⟨enumD xs, fun _ => True⟩ m1
  | [.ref a] => ∃ xs, okL a xs m1 ∧ P ⟨enumD xs, okL a xs⟩ m1
  | _ => False
section
variable {X : Cx} {M : Mo} {G : Gam} {W : WX} {e : Expr}
theorem qi_enum {wa : WA} {p pos tpos : Pos} {elts : List Expr} {kk : Nat} (hg : Gl X "enumerate") (hm : X.mg "enumerate" = none) (ha : PA X [e] (tA (cq X M G W) wa)) (hs : starEach [e] X.env = [(false, eval e X.env)]) : PI X (.Tuple elts kk tpos) (.Call (.Name "enumerate" p) [e] [] pos) (tI (cq X M G W) (wEnum wa)) := by
  refine ⟨fun pins s σ H R I ⟨ρ, m, Z, P, re, rm, h, k, kx⟩ => ?_⟩
  refine Call_ (ld_blt I hg hm boot_enumerate (PyProof.Rows.callWith_type1 (thn (ha.run pos pins s σ H (fun vs H1 => ∃ ds m1, RDs X.K H1 ds vs ∧ RM X.K H1 M m1 ∧ Stp m H m1 H1 ∧ (match ds with
    | [.tup xs] => P ⟨enumD xs, fun _ => True⟩ m1
    | [.ref a] => ∃ xs, okL a xs m1 ∧ P ⟨enumD xs, okL a xs⟩ m1
    | _ => False)) I ⟨ρ, m, Z, _, re, rm, h, fun ds m1 vs H1 r1 rm1 s1 h1 => ⟨ds, m1, r1, rm1, s1, h1⟩, kx⟩) fun us s1 ⟨vs, H1, I1, r1, ds, m1, rd, rm1, st1, q1⟩ => ?_) hs rfl))
  split at q1
  · rename_i xs
    obtain ⟨v, rfl, rv⟩ := rd.one_inv
    simp only [RD] at rv
    obtain ⟨a, ws, rfl, qa, ra⟩ := rv
    obtain ⟨u, rfl, ru⟩ := vals1 r1
    cases (show u = Value.ref a from ru)
    obtain ⟨its, rvs, p', hz⟩ := I1.tuple qa
    have hlt : a < s1.heap.objs.size := by obtain ⟨_, q, _⟩ := p'; exact Heap.lt_size q
    refine call_enum_tuple (show s1.heap.IsTuple a its.toArray from p') fun h' he hit hsz hk => wpAny_pyIter_enum he ?_
    have I2 : Inv X pins σ H1 { s1 with heap := h' } := I1.kept (t' := s1.toks) hk
    refine ⟨s1.heap.objs.size + 1, [s1.heap.objs.size + 1, s1.heap.objs.size], _, _, H1, rfl, I2, turn_enumT a (s1.heap.objs.size + 1) s1.heap.objs.size ⟨Nat.ne_of_lt (Nat.lt_succ_of_lt hlt), Nat.ne_of_lt hlt⟩, ⟨⟨.none, he⟩, hit, Nat.succ_ne_self _⟩, fun b hb => ?_, k _ m1 _ H1 rm1 st1 q1 ?_⟩
    · have e' : b = s1.heap.objs.size + 1 ∨ b = s1.heap.objs.size := by simpa using hb
      have hle : s1.heap.objs.size ≤ b := by
        rcases e' with z | z
        · rw [z]; exact Nat.le_add_right _ _
        · rw [z]; exact Nat.le_refl _
      exact I1.fpOk hle (I1.hok.fresh hle)
    · intro i m2 H2 rm2 st2 _
      have t := st2.tups rm1
      have qa2 := t.1 a ws qa
      have ra2 := ra.mono t
      refine ⟨fun hl => ⟨ws, qa2, by rw [← ra2.length]; simpa [enumD] using hl⟩, fun x hx => ?_⟩
      have hx' : (enumD xs)[i]? = some x := hx
      rw [enum_at] at hx'
      cases q : xs[i]? with
      | none => rw [q] at hx'; cases hx'
      | some y =>
        rw [q] at hx'
        obtain rfl := Option.some.inj hx'
        obtain ⟨w, hw, rw'⟩ := ra2.at q
        refine ⟨⟨ws, w, qa2, hw⟩, fun v H' hy => ?_⟩
        obtain ⟨T, z, rfl, hT, rfl, hz'⟩ := hy
        have := hz' ws qa2
        rw [hw] at this; cases this
        exact ⟨by simp only [RD]; exact ⟨T, _, rfl, .of upd_same, .cons (by simp only [RD]) (.one (rw'.mono (tup_le hT)))⟩, rm2.grow hT, .grow hT⟩
  · rename_i a
    obtain ⟨xs, ka, q1⟩ := q1
    obtain ⟨v, rfl, rv⟩ := rd.one_inv
    simp only [RD] at rv
    subst rv
    obtain ⟨u, rfl, ru⟩ := vals1 r1
    cases (show u = Value.ref a from ru)
    obtain ⟨ws, qa, ra⟩ := okL.sq ka rm1
    obtain ⟨its, rvs, p', hz⟩ := I1.list qa
    refine call_enumerate_list p'.isList fun h' he hit hsz hk => wpAny_pyIter_enum he ?_
    have I2 : Inv X pins σ H1 { s1 with heap := h' } := I1.kept (t' := s1.toks) hk
    refine ⟨s1.heap.objs.size + 1, [s1.heap.objs.size + 1, s1.heap.objs.size], _, _, H1, rfl, I2, turn_enum a (s1.heap.objs.size + 1) s1.heap.objs.size, ⟨⟨.none, he⟩, hit, Nat.succ_ne_self _⟩, fun b hb => ?_, k _ m1 _ H1 rm1 st1 q1 ?_⟩
    · have e' : b = s1.heap.objs.size + 1 ∨ b = s1.heap.objs.size := by simpa using hb
      have hle : s1.heap.objs.size ≤ b := by
        rcases e' with z | z
        · rw [z]; exact Nat.le_add_right _ _
        · rw [z]; exact Nat.le_refl _
      exact I1.fpOk hle (I1.hok.fresh hle)
    · intro i m2 H2 rm2 st2 k2
      obtain ⟨ws2, qa2, ra2⟩ := okL.sq k2 rm2
      refine ⟨fun hl => ⟨ws2, qa2, by rw [← ra2.length]; simpa [enumD] using hl⟩, fun x hx => ?_⟩
      have hx' : (enumD xs)[i]? = some x := hx
      rw [enum_at] at hx'
      cases q : xs[i]? with
      | none => rw [q] at hx'; cases hx'
      | some y =>
        rw [q] at hx'
        obtain rfl := Option.some.inj hx'
        obtain ⟨w, hw, rw'⟩ := ra2.at q
        refine ⟨⟨ws2, w, qa2, hw⟩, fun v H' hy => ?_⟩
        obtain ⟨T, z, rfl, hT, rfl, hz'⟩ := hy
        have := hz' ws2 qa2
        rw [hw] at this; cases this
        exact ⟨by simp only [RD]; exact ⟨T, _, rfl, .of upd_same, .cons (by simp only [RD]) (.one (rw'.mono (tup_le hT)))⟩, rm2.grow hT, .grow hT⟩
  · exact q1.elim
def wChn (f f' : F2) (a b c : WE) : WE := fun G ρ m Z P => a G ρ m Z fun x m1 => b G ρ m1 Z fun y m2 => f x y m2 fun d m3 => ∃ k, d = .bl k ∧ (k = true → c G ρ m3 Z fun z m4 => f' y z m4 (fgt P)) ∧ (k = false → P (.bl false) m3)
theorem qe_chain {a b c : Expr} {pos : Pos} {op op' : CmpOp} {f f' : F2} {wa wb wc : WE} (ho : OpR X (compareOp op) (r2 (cq X M G W) f)) (ho' : OpR X (compareOp op') (r2 (cq X M G W) f')) (ha : PE X a (tE (cq X M G W) wa)) (hb : PE X b (tE (cq X M G W) wb)) (hc : PE X c (tE (cq X M G W) wc))
    (hm : lastMarks [op, op'] [b, c] = false := by with_unfolding_all rfl) : PE X (.Compare a [op, op'] [b, c] pos) (tE (cq X M G W) (wChn f f' wa wb wc)) :=
  PE.imp (pe_chain ho ho' ha hb hc hm) fun σ H Q ⟨ρ, m, Z, P, re, rm, h, kq, kx⟩ =>
    ⟨ρ, m, Z, _, re, rm, h, fun x m1 vx H1 rx rm1 s1 h1 => ⟨ρ, m1, Z, _, re.mono (s1.tups rm), rm1, h1, fun y m2 vy H2 ry rm2 s2 h2 => ⟨x, y, m2, _, rx.mono (s2.tups rm1), ry, rm2, h2, fun d m3 vd H3 rd rm3 s3 ⟨k, ek, h3⟩ => by
      subst ek
      simp only [RD] at rd
      have st := (s1.trans s2).trans s3
      refine ⟨k, rd, ?_⟩
      cases k with
      | true => exact iteT ⟨ρ, m3, Z, _, re.mono (st.tups rm), rm3, h3.1 rfl, fun z m4 vz H4 rz rm4 s4 h4 => ⟨y, z, m4, _, ry.mono ((s3.trans s4).tups rm2), rz, rm4, h4, (kq.mono (st.trans s4)).fgt⟩, kx.mono st⟩
      | false => exact iteF ((kq.mono st).now rm3 (by simp only [RD]) (h3.2 rfl))⟩, kx.mono s1⟩, kx⟩
theorem qt_chain {a b c : Expr} {pos : Pos} {op op' : CmpOp} {f f' : F2} {wa wb wc : WE} (ho : OpR X (compareOp op) (r2 (cq X M G W) f)) (ho' : OpR X (compareOp op') (r2 (cq X M G W) f')) (ha : PE X a (tE (cq X M G W) wa)) (hb : PE X b (tE (cq X M G W) wb)) (hc : PE X c (tE (cq X M G W) wc))
    (hm : lastMarks [op, op'] [b, c] = false := by with_unfolding_all rfl) : PT X (.Compare a [op, op'] [b, c] pos) (tT (cq X M G W) (wTst (wChn f f' wa wb wc))) :=
  PT.imp (pt_chain ho ho' ha hb hc hm) fun σ H Q ⟨ρ, m, Z, P, re, rm, h, kq, kx⟩ =>
    ⟨ρ, m, Z, _, re, rm, h, fun x m1 vx H1 rx rm1 s1 h1 => ⟨ρ, m1, Z, _, re.mono (s1.tups rm), rm1, h1, fun y m2 vy H2 ry rm2 s2 h2 => ⟨x, y, m2, _, rx.mono (s2.tups rm1), ry, rm2, h2, fun d m3 vd H3 rd rm3 s3 ⟨k, ek, h3⟩ => by
      subst ek
      simp only [RD] at rd
      have st := (s1.trans s2).trans s3
      refine ⟨k, rd, ?_⟩
      cases k with
      | true =>
        refine iteT ⟨ρ, m3, Z, _, re.mono (st.tups rm), rm3, h3.1 rfl, fun z m4 vz H4 rz rm4 s4 h4 => ⟨y, z, m4, _, ry.mono ((s3.trans s4).tups rm2), rz, rm4, h4, fun e m5 ve H5 re5 rm5 s5 ⟨m6, k6, h5⟩ => ?_⟩, kx.mono st⟩
        cases e with
        | bl kk => simp only [RD] at re5; exact ⟨kk, re5, kq kk m6 H5 (rm5.sub k6) ((st.trans (s4.trans s5)).sub k6) h5⟩
        | _ => exact h5.elim
      | false => exact iteF ⟨false, rfl, kq false m3 H3 rm3 st (h3.2 rfl)⟩⟩, kx.mono s1⟩, kx⟩
def wAndV (a b : WE) : WE := fun G ρ m Z P => a G ρ m Z fun x m1 => truD m1 x fun k => (k = true → b G ρ m1 Z P) ∧ (k = false → P x m1)
def wOrV (a b : WE) : WE := fun G ρ m Z P => a G ρ m Z fun x m1 => truD m1 x fun k => (k = true → P x m1) ∧ (k = false → b G ρ m1 Z P)
def wNotV (a : WE) : WE := fun G ρ m Z P => a G ρ m Z fun x m1 => truD m1 x fun k => P (.bl (!k)) m1
theorem qe_andV {a b : Expr} {rest : List Expr} {pos : Pos} {wa wb : WE} (ha : PE X a (tE (cq X M G W) wa)) (hb : PE X (.BoolOp .And (b :: rest) pos) (tE (cq X M G W) wb)) : PE X (.BoolOp .And (a :: b :: rest) pos) (tE (cq X M G W) (wAndV wa wb)) :=
  PE.imp (pe_andT ha hb) fun σ H Q ⟨ρ, m, Z, P, re, rm, h, kq, kx⟩ =>
    ⟨ρ, m, Z, _, re, rm, h, fun x m1 vx H1 rx rm1 s1 h1 => truD_ok (X := X) (Q := fun k => if k = true then tE (cq X M G W) wb σ H1 Q else Q vx H1) rx rm1 h1 fun k hk => by
      cases k with
      | true => exact iteT ⟨ρ, m1, Z, P, re.mono (s1.tups rm), rm1, hk.1 rfl, kq.mono s1, kx.mono s1⟩
      | false => exact iteF ((kq.mono s1).now rm1 rx (hk.2 rfl)), kx⟩
theorem qe_orV {a b : Expr} {rest : List Expr} {pos : Pos} {wa wb : WE} (ha : PE X a (tE (cq X M G W) wa)) (hb : PE X (.BoolOp .Or (b :: rest) pos) (tE (cq X M G W) wb)) : PE X (.BoolOp .Or (a :: b :: rest) pos) (tE (cq X M G W) (wOrV wa wb)) :=
  PE.imp (pe_orT ha hb) fun σ H Q ⟨ρ, m, Z, P, re, rm, h, kq, kx⟩ =>
    ⟨ρ, m, Z, _, re, rm, h, fun x m1 vx H1 rx rm1 s1 h1 => truD_ok (X := X) (Q := fun k => if k = true then Q vx H1 else tE (cq X M G W) wb σ H1 Q) rx rm1 h1 fun k hk => by
      cases k with
      | true => exact iteT ((kq.mono s1).now rm1 rx (hk.1 rfl))
      | false => exact iteF ⟨ρ, m1, Z, P, re.mono (s1.tups rm), rm1, hk.2 rfl, kq.mono s1, kx.mono s1⟩, kx⟩
theorem qe_notV {a : Expr} {pos : Pos} {wa : WE} (ha : PE X a (tE (cq X M G W) wa)) : PE X (.UnaryOp .Not a pos) (tE (cq X M G W) (wNotV wa)) :=
  PE.imp (pe_notT ha) fun σ H Q ⟨ρ, m, Z, P, re, rm, h, kq, kx⟩ =>
    ⟨ρ, m, Z, _, re, rm, h, fun x m1 vx H1 rx rm1 s1 h1 => truD_ok (X := X) (Q := fun k => Q (.bl (!k)) H1) rx rm1 h1 fun k hk => (kq.mono s1).now rm1 (by simp only [RD]) hk, kx⟩
theorem qe_and1 {a : Expr} {pos : Pos} {wa : WE} (ha : PE X a (tE (cq X M G W) wa)) : PE X (.BoolOp .And [a] pos) (tE (cq X M G W) wa) := pe_one ha
theorem qe_or1 {a : Expr} {pos : Pos} {wa : WE} (ha : PE X a (tE (cq X M G W) wa)) : PE X (.BoolOp .Or [a] pos) (tE (cq X M G W) wa) := pe_one ha
/-- any PT of a boolean operation -/
theorem qt_and {a b : Expr} {rest : List Expr} {pos : Pos} {w : WT} (h : PW X (.BoolOp .And (a :: b :: rest) pos) (tT (cq X M G W) w)) : PT X (.BoolOp .And (a :: b :: rest) pos) (tT (cq X M G W) w) := h.pt
theorem qt_or {a b : Expr} {rest : List Expr} {pos : Pos} {w : WT} (h : PW X (.BoolOp .Or (a :: b :: rest) pos) (tT (cq X M G W) w)) : PT X (.BoolOp .Or (a :: b :: rest) pos) (tT (cq X M G W) w) := h.pt
def wNev : WE := fun _ _ _ _ _ => False
def wNevS : WS := fun _ _ _ _ => False
def wNevI : WI := fun _ _ _ _ _ => False
theorem qe_nev {e : Expr} : PE X e (tE (cq X M G W) wNev) := ⟨fun pins s σ H Q I ⟨ρ, m, Z, P, re, rm, h, kq, kx⟩ => h.elim⟩
theorem qs_nev {e : Stmt} : PS X e (tS (cq X M G W) wNevS) := ⟨fun pins s σ H Q I ⟨ρ, m, P, re, rm, h, kp⟩ => h.elim⟩
end
end Qz
set_option Elab.async false
set_option linter.all false
set_option maxRecDepth 100000
set_option maxHeartbeats 2000000
namespace Qz
open PySem PySem.Spec PyProof.Rows L2
section
variable {Lw : Law} {X : Cx} {M : Mo} {G : Gam} {W : WX} {pos p : Pos} {a b c e : Expr} {es : List Expr} {wa wb wc we : WE} {ra : WA}
abbrev cQ (X : Cx) (M : Mo) (G : Gam) (W : WX) : Cq := cq X M G W
theorem x_v (i : Nat) {x : Str} (hN : X.N[i]? = some x := by rfl) (hv : Vis X.env.scope x := by first | exact Or.inl rfl | exact Or.inr (Or.inl rfl) | exact Or.inr (Or.inr rfl)) (hd : (x == ("__debug__" : Str)) = false := by decide)
    (hcd : (x == ("__classdict__" : Str)) = false := by decide) : PE X (.Name x pos) (tE (cq X M G W) (wVar i)) := qe_var hN hv hd hcd
theorem x_i {i : Int} {k : Nat} : PE X (.Constant (.int i) k pos) (tE (cq X M G W) (wC (.int i))) := qe_c pe_int fun H => by simp only [RD]
theorem x_s {i : Str} {k : Nat} : PE X (.Constant (.str i) k pos) (tE (cq X M G W) (wC (.str i))) := qe_c pe_str fun H => by simp only [RD]
theorem x_b {i : Bool} {k : Nat} : PE X (.Constant (.bool i) k pos) (tE (cq X M G W) (wC (.bl i))) := qe_c pe_bl fun H => by simp only [RD]
theorem x_n {k : Nat} : PE X (.Constant .none k pos) (tE (cq X M G W) (wC .non)) := qe_c pe_non fun H => by simp only [RD]
theorem x_ty (C : Ctx Lw X M G) (j : Nat) {x : Str} {n : String} (hv : bootBuiltins x = some (.type n)) (hj : Lw.fa[j]? = some (.free x) := by rfl) (hg : Gl X x := by rfl) (hn : x ≠ "__name__" := by decide) (hd : (x == ("__debug__" : Str)) = false := by decide) : PE X (.Name x pos) (tE (cq X M G W) (wC (.ty n))) :=
  qe_c (pe_bltn hg (He.free_ok C.kin C.ns (C.says.d.fact j hj)) hv (v := .ty n) rfl hn hd) fun H => by simp only [RD]
theorem x_con (C : Ctx Lw X M G) (i : Nat) {x : Str} {d : D} (hi : Lw.cs[i]? = some (x, d) := by rfl) (hg : Gl X x := by rfl) (hd : (x == ("__debug__" : Str)) = false := by decide) : PE X (.Name x pos) (tE (cq X M G W) (wC d)) := qe_con C hi hg hd
theorem x_add (ha : PE X a (tE (cq X M G W) wa)) (hb : PE X b (tE (cq X M G W) wb)) : PE X (.BinOp a .Add b pos) (tE (cq X M G W) (wBin fAdd wa wb)) := qe_bin qo_add ha hb
theorem x_sub (ha : PE X a (tE (cq X M G W) wa)) (hb : PE X b (tE (cq X M G W) wb)) : PE X (.BinOp a .Sub b pos) (tE (cq X M G W) (wBin fSub wa wb)) := qe_bin qo_sub ha hb
theorem x_mul (ha : PE X a (tE (cq X M G W) wa)) (hb : PE X b (tE (cq X M G W) wb)) : PE X (.BinOp a .Mult b pos) (tE (cq X M G W) (wBin fMul wa wb)) := qe_bin qo_mul ha hb
theorem x_div (ha : PE X a (tE (cq X M G W) wa)) (hb : PE X b (tE (cq X M G W) wb)) : PE X (.BinOp a .FloorDiv b pos) (tE (cq X M G W) (wBin fDiv wa wb)) := qe_bin qo_div ha hb
theorem x_mod (ha : PE X a (tE (cq X M G W) wa)) (hb : PE X b (tE (cq X M G W) wb)) : PE X (.BinOp a .Mod b pos) (tE (cq X M G W) (wBin fMod wa wb)) := qe_bin qo_mod ha hb
theorem x_pow (ha : PE X a (tE (cq X M G W) wa)) (hb : PE X b (tE (cq X M G W) wb)) : PE X (.BinOp a .Pow b pos) (tE (cq X M G W) (wBin fPow wa wb)) := qe_bin qo_pow ha hb
theorem x_neg (ha : PE X a (tE (cq X M G W) wa)) : PE X (.UnaryOp .USub a pos) (tE (cq X M G W) (wUn fNeg wa)) := qe_un qo_neg ha
theorem o_eq (C : Ctx Lw X M G) : OpR X (compareOp .Eq) (r2 (cq X M G W) fEq) := qo_eq C.hu
theorem o_ne (C : Ctx Lw X M G) : OpR X (compareOp .NotEq) (r2 (cq X M G W) fNe) := qo_ne C.hu
theorem o_lt (C : Ctx Lw X M G) : OpR X (compareOp .Lt) (r2 (cq X M G W) gLt) := qo_gLt C.hu
theorem o_le (C : Ctx Lw X M G) : OpR X (compareOp .LtE) (r2 (cq X M G W) gLe) := qo_gLe C.hu
theorem o_gt (C : Ctx Lw X M G) : OpR X (compareOp .Gt) (r2 (cq X M G W) gGt) := qo_gGt C.hu
theorem o_ge (C : Ctx Lw X M G) : OpR X (compareOp .GtE) (r2 (cq X M G W) gGe) := qo_gGe C.hu
theorem o_in (C : Ctx Lw X M G) : OpR X (compareOp .In) (r2 (cq X M G W) (fInG false)) := qo_in C.hu5 C.hP C.hw
theorem o_nin (C : Ctx Lw X M G) : OpR X (compareOp .NotIn) (r2 (cq X M G W) (fInG true)) := qo_notin C.hu5 C.hP C.hw
theorem o_is (C : Ctx Lw X M G) : OpR X (compareOp .Is) (r2 (cq X M G W) fIs) := qo_is
theorem o_isn (C : Ctx Lw X M G) : OpR X (compareOp .IsNot) (r2 (cq X M G W) fIsNot) := qo_isnot
theorem x_cmp {op : CmpOp} {f : F2} (ho : OpR X (compareOp op) (r2 (cq X M G W) f)) (ha : PE X a (tE (cq X M G W) wa)) (hb : PE X b (tE (cq X M G W) wb)) (hm : behindInMarks op b = false := by rfl) : PE X (.Compare a [op] [b] pos) (tE (cq X M G W) (wBin f wa wb)) := qe_cmp ho ha hb hm
theorem t_cmp {op : CmpOp} {f : F2} (ho : OpR X (compareOp op) (r2 (cq X M G W) f)) (ha : PE X a (tE (cq X M G W) wa)) (hb : PE X b (tE (cq X M G W) wb)) (hm : behindInMarks op b = false := by rfl) : PT X (.Compare a [op] [b] pos) (tT (cq X M G W) (wTst (wBin f wa wb))) := qt_cmp ho ha hb hm
theorem x_ix (C : Ctx Lw X M G) (ha : PE X a (tE (cq X M G W) wa)) (hb : PE X b (tE (cq X M G W) wb)) (hs : PlainIx b := by intro _ _; rfl) : PE X (.Subscript a b pos) (tE (cq X M G W) (wBin fIx wa wb)) := qe_ix C.hu C.hP C.hw ha hb hs
theorem a_n : PA X [] (tA (cq X M G W) wNil) := qa_nil
theorem a_c (ha : PE X e (tE (cq X M G W) wa)) (hr : PA X es (tA (cq X M G W) ra)) (hs : starEach (e :: es) X.env = (false, eval e X.env) :: starEach es X.env := by rfl) : PA X (e :: es) (tA (cq X M G W) (wCons wa ra)) := qa_cons ha hr hs
theorem x_cb (C : Ctx Lw X M G) (j : Nat) {f : FA} {x : Str} {id : String} (hc : CallR X (.builtin id) (rA (cq X M G W) f)) (hv : bootBuiltins x = some (.builtin id)) (ha : PA X (e :: es) (tA (cq X M G W) ra)) (hj : Lw.fa[j]? = some (.free x) := by rfl) (hg : Gl X x := by rfl) (hn : x ≠ "__name__" := by decide) (hdb : (x == ("__debug__" : Str)) = false := by decide)
    (he : starEach (e :: es) X.env = (false, eval e X.env) :: starEach es X.env := by rfl) (hpl : (backTo pos (starEach es X.env)).any (·.1) = false := by rfl) : PE X (.Call (.Name x p) (e :: es) [] pos) (tE (cq X M G W) (wCB f ra)) :=
  qe_callB hc hg (He.free_ok C.kin C.ns (C.says.d.fact j hj)) hv ha hn hdb he hpl
theorem x_ct (C : Ctx Lw X M G) (j : Nat) {f : FA} {x : Str} {id : String} (hc : CallR X (.type id) (rA (cq X M G W) f)) (hv : bootBuiltins x = some (.type id)) (ha : PA X (e :: es) (tA (cq X M G W) ra)) (hj : Lw.fa[j]? = some (.free x) := by rfl) (hg : Gl X x := by rfl) (hn : x ≠ "__name__" := by decide) (hdb : (x == ("__debug__" : Str)) = false := by decide)
    (he : starEach (e :: es) X.env = (false, eval e X.env) :: starEach es X.env := by rfl) (hpl : (backTo pos (starEach es X.env)).any (·.1) = false := by rfl) : PE X (.Call (.Name x p) (e :: es) [] pos) (tE (cq X M G W) (wCB f ra)) :=
  qe_callTy hc hg (He.free_ok C.kin C.ns (C.says.d.fact j hj)) hv ha hn hdb he hpl
theorem x_f (C : Ctx Lw X M G) (tk : Takes X W) (n ar j : Nat) {d : He.DefD} {x : Str} (ha : PA X (e :: es) (tA (cq X M G W) ra)) (hn : Lw.fn[n]? = some d := by rfl) (hx : d.at_ = (x, none) := by rfl) (har : (psOf d).length = ar := by rfl) (hj : Lw.fa[j]? = some (.glo x) := by rfl) (hg : Gl X x := by rfl)
    (hdb : (x == ("__debug__" : Str)) = false := by decide) (he : starEach (e :: es) X.env = (false, eval e X.env) :: starEach es X.env := by rfl) (hpl : (backTo pos (starEach es X.env)).any (·.1) = false := by rfl) :
    PE X (.Call (.Name x p) (e :: es) [] pos) (tE (cq X M G W) (wCallN n ar ra)) := qe_call C tk hn hx har hj hg ha hdb he hpl
theorem x_f0 (C : Ctx Lw X M G) (tk : Takes X W) (n j : Nat) {d : He.DefD} {x : Str} (hn : Lw.fn[n]? = some d := by rfl) (hx : d.at_ = (x, none) := by rfl) (har : (psOf d).length = 0 := by rfl) (hj : Lw.fa[j]? = some (.glo x) := by rfl) (hg : Gl X x := by rfl)
    (hdb : (x == ("__debug__" : Str)) = false := by decide) : PE X (.Call (.Name x p) [] [] pos) (tE (cq X M G W) (wCallN n 0 wNil)) := qe_call0 C tk hn hx har hj hg hdb
theorem x_m (C : Ctx Lw X M G) (tk : Takes X W) (n ar c j jc : Nat) {d : He.DefD} {x nm : Str} {o : Expr} {wo : WE} {pl : Sem Bool} {apos : Pos} (ho : PE X o (tE (cq X M G W) wo)) (ha : PA X (e :: es) (tA (cq X M G W) ra)) (hn : Lw.fn[n]? = some d := by rfl) (hx : d.at_ = (x, some nm) := by rfl) (har : (psOf d).length = ar := by rfl) (hj : Lw.fa[j]? = some (.meth x nm) := by rfl) (hjc : Lw.fa[jc]? = some (.cls x) := by rfl) (hc : Lw.cl[c]? = some x := by rfl)
    (hst : starEach (e :: es) X.env = (false, eval e X.env) :: starEach es X.env := by rfl) (hpl : (backTo pos (starEach es X.env)).any (·.1) = false := by rfl)
    (ht : eval (.Call (.Attribute o nm apos) (e :: es) [] pos) X.env = (do
      let ov ← eval o X.env
      standAt apos.atName
      let (f, first) ← holding [ov] (getMethod ov nm pl)
      callWith pos f first (backTo pos (starEach (e :: es) X.env)) (backToKw pos (keywordEach [] X.env))) := by rfl) :
    PE X (.Call (.Attribute o nm apos) (e :: es) [] pos) (tE (cq X M G W) (wMeth n ar c nm wo ra)) := qe_meth C tk hn hx har hj hjc hc ho ha hst hpl ht
theorem x_m0 (C : Ctx Lw X M G) (tk : Takes X W) (n ar c j jc : Nat) {d : He.DefD} {x nm : Str} {o : Expr} {wo : WE} {pl : Sem Bool} {apos : Pos} (ho : PE X o (tE (cq X M G W) wo)) (hn : Lw.fn[n]? = some d := by rfl) (hx : d.at_ = (x, some nm) := by rfl) (har : (psOf d).length = ar := by rfl) (hj : Lw.fa[j]? = some (.meth x nm) := by rfl) (hjc : Lw.fa[jc]? = some (.cls x) := by rfl) (hc : Lw.cl[c]? = some x := by rfl)
    (ht : eval (.Call (.Attribute o nm apos) [] [] pos) X.env = (do
      let ov ← eval o X.env
      standAt apos.atName
      let (f, first) ← holding [ov] (getMethod ov nm pl)
      callWith pos f first (backTo pos (starEach [] X.env)) (backToKw pos (keywordEach [] X.env))) := by rfl) :
    PE X (.Call (.Attribute o nm apos) [] [] pos) (tE (cq X M G W) (wMeth n ar c nm wo wNil)) := qe_meth0 C tk hn hx har hj hjc hc ho ht
theorem x_mk (C : Ctx Lw X M G) (tk : Takes X W) (n ar c j jm : Nat) {d : He.DefD} {x : Str} (ha : PA X (e :: es) (tA (cq X M G W) ra)) (hn : Lw.fn[n]? = some d := by rfl) (hx : d.at_ = (x, some ("__init__" : Str)) := by rfl) (har : (psOf d).length = ar := by rfl) (hj : Lw.fa[j]? = some (.glo x) := by rfl) (hjm : Lw.fa[jm]? = some (.mkr x) := by rfl) (hc : Lw.cl[c]? = some x := by rfl) (hg : Gl X x := by rfl)
    (hdb : (x == ("__debug__" : Str)) = false := by decide) (he : starEach (e :: es) X.env = (false, eval e X.env) :: starEach es X.env := by rfl) (hpl : (backTo pos (starEach es X.env)).any (·.1) = false := by rfl) :
    PE X (.Call (.Name x p) (e :: es) [] pos) (tE (cq X M G W) (wMake n ar c ra)) := qe_make C tk hn hx har hj hjm hc hg ha hdb he hpl
theorem x_fl (C : Ctx Lw X M G) (c jc jn : Nat) {x f : Str} (he : PE X e (tE (cq X M G W) we)) (hjc : Lw.fa[jc]? = some (.cls x) := by rfl) (hjn : Lw.fa[jn]? = some (.noat x f) := by rfl) (hc : Lw.cl[c]? = some x := by rfl) (hb : attributeBase e f X.env (eval e X.env) = eval e X.env := by rfl) :
    PE X (.Attribute e f pos) (tE (cq X M G W) (wFld c f we)) := qe_fld C hjc hjn hc he hb
theorem z_set (C : Ctx Lw X M G) (i : Nat) {x : Str} {pos' : Pos} (he : PE X e (tE (cq X M G W) we)) (hi : X.N[i]? = some x := by rfl) (hx : Loc X.env.scope x := by first | exact Or.inl rfl | exact Or.inr rfl) (hs : swapsWith e (some (.Name x pos')) pos.line X.env = pure false := by rfl)
    (hf : X.fn x = true ∨ X.env.scope.names.lookup x = some .local := by first | exact Or.inl rfl | exact Or.inr rfl) : PS X (.Assign [.Name x pos'] e pos) (tS (cq X M G W) (wAsg we (gNm i))) := qs_set C.nd hi hx he hs hf
theorem z_asg {tg : Expr} {g : WG} (he : PE X e (tE (cq X M G W) we)) (hg : PG X tg (tG (cq X M G W) g)) (hs : swapsWithSole [tg] e pos.line X.env = pure false := by rfl) (hw : swappedStores [tg] e X.env = pure none := by rfl)
    (h1 : (assignEach [tg] X.env).map (·.2) = [assign tg X.env] := by rfl) : PS X (.Assign [tg] e pos) (tS (cq X M G W) (wAsg we g)) := qs_asg he hg hs hw h1
theorem g_nm (C : Ctx Lw X M G) (i : Nat) {x : Str} (hi : X.N[i]? = some x := by rfl) (hx : Loc X.env.scope x := by first | exact Or.inl rfl | exact Or.inr rfl) (hf : X.fn x = true ∨ X.env.scope.names.lookup x = some .local := by first | exact Or.inl rfl | exact Or.inr rfl) : PG X (.Name x pos) (tG (cq X M G W) (gNm i)) := qg_name C.nd hi hx hf
theorem g_n : PGs X [] (tGs (cq X M G W) gNl) := qgs_nil
theorem g_c {g : WG} {r : WGs} (h1 : PG X e (tG (cq X M G W) g)) (h2 : PGs X es (tGs (cq X M G W) r)) (hs : (assignEach (e :: es) X.env).map (·.2) = assign e X.env :: (assignEach es X.env).map (·.2) := by rfl) : PGs X (e :: es) (tGs (cq X M G W) (gCns g r)) := qgs_cons h1 h2 hs
theorem g_t (C : Ctx Lw X M G) (n : Nat) {k : Nat} {r : WGs} (h : PGs X es (tGs (cq X M G W) r)) (hn : (assignEach es X.env).length = n := by rfl) (hst : (assignEach es X.env).findIdx? (·.1) = none := by rfl) : PG X (.Tuple es k pos) (tG (cq X M G W) (gTp n r)) := qg_tup C.calm h hn hst
theorem g_sb (C : Ctx Lw X M G) (tk : Takes X W) {o i : Expr} {wo wi : WE} (ho : PE X o (tE (cq X M G W) wo)) (hi : PE X i (tE (cq X M G W) wi))
    (ha : ∀ v, assign (.Subscript o i pos) X.env v = (do
      let ov ← holding [v] (eval o X.env)
      let iv ← holding [v, ov] (eval i X.env)
      standAt pos
      holding [v, ov, iv] (setItem ov iv v)
      release [v, ov, iv] []) := by intro _; rfl) : PG X (.Subscript o i pos) (tG (cq X M G W) (gSb fSet wo wi)) := qg_sub tk ho hi (qz_set C.hu C.hP C.hw) ha
/-- o.f = .. as a target -/
def gFl (c : Nat) (f : Str) (o : WE) : WG := fun G d ρ m P => o G ρ m Z0 fun x m1 => ∃ p fs, x = .ref p ∧ m1 p = some (.ins c fs) ∧ fs.length < 1000 ∧ P ρ (m1.set p (.ins c (putN f d fs)))
theorem g_fl (C : Ctx Lw X M G) (c jc jn : Nat) {x f : Str} {o : Expr} {wo : WE} (ho : PE X o (tE (cq X M G W) wo)) (hjc : Lw.fa[jc]? = some (.cls x) := by rfl) (hjn : Lw.fa[jn]? = some (.noat x f) := by rfl) (hc : Lw.cl[c]? = some x := by rfl)
    (ha : ∀ v, assign (.Attribute o f pos) X.env v = (do
      let ov ← holding [v] (eval o X.env)
      standAt pos.atName
      holding [v, ov] (setAttr ov f v)
      release [v, ov] []) := by intro _; rfl) : PG X (.Attribute o f pos) (tG (cq X M G W) (gFl c f wo)) := by
  refine ⟨fun pins s σ H v u Q I r ⟨d, ρ, m, P, rd, re, rm, h, ks⟩ => ?_⟩
  rw [ha]
  refine wpAny_bind (wpAny_holding (thn (ho.run pins s σ H (fun y H1 => ∃ z m1, RD X.K H1 z y ∧ RM X.K H1 M m1 ∧ Stp m H m1 H1 ∧ ∃ p fs, z = .ref p ∧ m1 p = some (.ins c fs) ∧ fs.length < 1000 ∧ P ρ (m1.set p (.ins c (putN f d fs)))) I ⟨ρ, m, Z0, _, re, rm, h, fun z m1 y H1 r1 rm1 s1 h1 => ⟨z, m1, r1, rm1, s1, h1⟩, KX.zero _⟩) fun ov s1 ⟨y, H1, I1, ry, z, m1, rz, rm1, st1, p, fs, ez, em, hl, hp⟩ => ?_))
  subst ez
  simp only [RD] at rz
  subst rz
  cases (show ov = Value.ref p from ry)
  obtain ⟨dx, us, eH, rk⟩ := rm1 p _ em
  have eC : M.cA c = He.ga X.K x := C.hA c x hc
  have rd1 := rd.mono (st1.tups rm)
  refine wpAny_bind (wpAny_standAt (wpAny_bind (wpAny_holding ?_)))
  have t := upd_le (K := X.K) (o := .ins (M.cA c) dx (putF f v us)) eH ⟨fun _ z => (by cases z), fun _ _ z => (by cases z)⟩
  refine setattr_ok (y := v) I1 eH (by show Cls X.K (M.cA c); rw [eC]; exact He.cls_ok (C.says.d.fact jc hjc)) (by show NoAttr X.K (M.cA c) f; rw [eC]; exact He.noat_ok (C.says.d.fact jn hjn)) (by rw [← rk.length]; exact hl) r fun s2 I2 => ?_
  refine wpAny_release ⟨σ, _, I2, ?_⟩
  exact ks ρ (m1.set p (.ins c (putN f d fs))) σ _ ((re.mono (st1.tups rm)).mono t) (rm1.write eH .ins ⟨dx, _, upd_same, (rk.putN rd1).mono t⟩) (st1.trans (.write em)) hp
/-- a, b = x, y of plain names -/
theorem z_par (C : Ctx Lw X M G) (i j : Nat) {x y : Str} {px py pt : Pos} {kt k2 : Nat} {pt2 : Pos} (ha : PA X [a, b] (tA (cq X M G W) ra)) (hi : X.N[i]? = some x := by rfl) (hj : X.N[j]? = some y := by rfl) (hij : i ≠ j := by decide)
    (hx : X.env.scope.names.lookup x = some .local := by rfl) (hy : X.env.scope.names.lookup y = some .local := by rfl)
    (hw : swappedStores [.Tuple [.Name x px, .Name y py] kt pt] (.Tuple [a, b] k2 pt2) X.env = pure (some [x, y]) := by rfl)
    (hs : swapsWithSole [.Tuple [.Name x px, .Name y py] kt pt] (.Tuple [a, b] k2 pt2) pos.line X.env = pure false := by rfl) :
    PS X (.Assign [.Tuple [.Name x px, .Name y py] kt pt] (.Tuple [a, b] k2 pt2) pos) (tS (cq X M G W) (wAsg (wTup ra) (gTp 2 (gCns (gNm i) (gCns (gNm j) gNl))))) :=
  PS.imp (ps_par C.calm C.nd hi hj hij hx hy ha hw hs) fun E σ H ⟨ρ, m, P, re, rm, h, kp⟩ => by
    refine ⟨ρ, m, _, _, re, rm, h, fun ds m1 vs H1 rd rm1 s1 h1 => ?_, kp.2.2.2.2.at re rm⟩
    obtain ⟨_, hl, h1⟩ := h1
    match ds, hl, h1, rd with
    | [d, e], _, h1, rd =>
      obtain ⟨v, w, rfl, rv, rw'⟩ := rd.two_inv
      refine ⟨v, w, rfl, kp.1 _ m1 _ H1 ?_ rm1 s1 h1⟩
      rw [sto_eq, sto_eq]
      exact ((re.mono (s1.tups rm)).set rv i).set rw' j
theorem z_par3 (C : Ctx Lw X M G) (i j l : Nat) {x y z : Str} {px py pz pt : Pos} {kt k2 : Nat} {pt2 : Pos} (ha : PA X [a, b, c] (tA (cq X M G W) ra)) (hi : X.N[i]? = some x := by rfl) (hj : X.N[j]? = some y := by rfl) (hl : X.N[l]? = some z := by rfl) (hij : i ≠ j := by decide) (hil : i ≠ l := by decide) (hjl : j ≠ l := by decide)
    (hx : X.env.scope.names.lookup x = some .local := by rfl) (hy : X.env.scope.names.lookup y = some .local := by rfl) (hz : X.env.scope.names.lookup z = some .local := by rfl)
    (hw : swappedStores [.Tuple [.Name x px, .Name y py, .Name z pz] kt pt] (.Tuple [a, b, c] k2 pt2) X.env = pure (some [x, y, z]) := by rfl)
    (hs : swapsWithSole [.Tuple [.Name x px, .Name y py, .Name z pz] kt pt] (.Tuple [a, b, c] k2 pt2) pos.line X.env = pure false := by rfl) :
    PS X (.Assign [.Tuple [.Name x px, .Name y py, .Name z pz] kt pt] (.Tuple [a, b, c] k2 pt2) pos) (tS (cq X M G W) (wAsg (wTup ra) (gTp 3 (gCns (gNm i) (gCns (gNm j) (gCns (gNm l) gNl)))))) :=
  PS.imp (ps_par3 C.calm C.nd hi hj hl hij hil hjl hx hy hz ha hw hs) fun E σ H ⟨ρ, m, P, re, rm, h, kp⟩ => by
    refine ⟨ρ, m, _, _, re, rm, h, fun ds m1 vs H1 rd rm1 s1 h1 => ?_, kp.2.2.2.2.at re rm⟩
    obtain ⟨_, hl, h1⟩ := h1
    match ds, hl, h1, rd with
    | [d, e, f], _, h1, rd =>
      simp only [RDs] at rd
      obtain ⟨v, r1, rfl, rv, w, r2, rfl, rw', u, r3, rfl, ru, rfl⟩ := rd
      refine ⟨v, w, u, rfl, kp.1 _ m1 _ H1 ?_ rm1 s1 h1⟩
      rw [sto_eq, sto_eq, sto_eq]
      exact (((re.mono (s1.tups rm)).set rv i).set rw' j).set ru l
theorem z_lc (C : Ctx Lw X M G) (i : Nat) {y : Str} {py : Pos} {elt tg iter : Expr} {ifs : List Expr} {scope : Scope} (own : List (Str × Nat)) {spos : Pos} {wi : WI} {p : Pat} {t : WT} (hi : PI X tg iter (tI (cq X M G W) wi))
    (hg : ∀ (s : Shared) (H : Hp) (C : Addr) (cl : List (Str × Addr)) (fp : List Addr), PG (X.blk s H scope (compEnvC scope cl C X.env) fp) tg (tgP X.K p)) (ht : ∀ (s : Shared) (H : Hp) (C : Addr) (cl : List (Str × Addr)) (fp : List Addr), PTs (X.blk s H scope (compEnvC scope cl C X.env) fp) ifs (tT (cq (X.blk s H scope (compEnvC scope cl C X.env) fp) M G W0) t))
    (he : ∀ (s : Shared) (H : Hp) (C : Addr) (cl : List (Str × Addr)) (fp : List Addr), PE (X.blk s H scope (compEnvC scope cl C X.env) fp) elt (tE (cq (X.blk s H scope (compEnvC scope cl C X.env) fp) M G W0) we))
    (hy : X.N[i]? = some y := by rfl) (hyl : X.env.scope.names.lookup y = some .local := by rfl) (hsw : swapsWith (.ListComp elt [⟨tg, iter, ifs, 0⟩] scope pos) (some (.Name y py)) spos.line X.env = pure true := by rfl)
    (ok : blkC X.N X.env.scope scope own = true := by rfl) (hp : ∀ i ∈ slotsP p, i ∈ own.map (·.2) := by decide) (hs : ∀ x, foldedSetIterable iter X.env x = pure x := by intro _; rfl) :
    PS X (.Assign [.Name y py] (.ListComp elt [⟨tg, iter, ifs, 0⟩] scope pos) spos) (tS (cq X M G W) (wAsg (wComp wi p t we (own.map (·.2))) (gNm i))) := qs_setLc C.calm C.nd hy hyl hsw hi (blkOk_by ok) hp hg ht he hs
theorem x_lc (C : Ctx Lw X M G) {elt tg iter : Expr} {ifs : List Expr} {scope : Scope} (own : List (Str × Nat)) {wi : WI} {p : Pat} {t : WT} (hi : PI X tg iter (tI (cq X M G W) wi))
    (hg : ∀ (s : Shared) (H : Hp) (C : Addr) (cl : List (Str × Addr)) (fp : List Addr), PG (X.blk s H scope (compEnvC scope cl C X.env) fp) tg (tgP X.K p)) (ht : ∀ (s : Shared) (H : Hp) (C : Addr) (cl : List (Str × Addr)) (fp : List Addr), PTs (X.blk s H scope (compEnvC scope cl C X.env) fp) ifs (tT (cq (X.blk s H scope (compEnvC scope cl C X.env) fp) M G W0) t))
    (he : ∀ (s : Shared) (H : Hp) (C : Addr) (cl : List (Str × Addr)) (fp : List Addr), PE (X.blk s H scope (compEnvC scope cl C X.env) fp) elt (tE (cq (X.blk s H scope (compEnvC scope cl C X.env) fp) M G W0) we))
    (ok : blkC X.N X.env.scope scope own = true := by rfl) (hp : ∀ i ∈ slotsP p, i ∈ own.map (·.2) := by decide) (hs : ∀ x, foldedSetIterable iter X.env x = pure x := by intro _; rfl) :
    PE X (.ListComp elt [⟨tg, iter, ifs, 0⟩] scope pos) (tE (cq X M G W) (wComp wi p t we (own.map (·.2)))) := qe_lc C.calm C.nd hi (blkOk_by ok) hp hg ht he hs
theorem x_dc (C : Ctx Lw X M G) {kx vx tg iter : Expr} {ifs : List Expr} {scope : Scope} (own : List (Str × Nat)) {wi : WI} {p : Pat} {t : WT} {wk : WE} (hi : PI X tg iter (tI (cq X M G W) wi))
    (hg : ∀ (s : Shared) (H : Hp) (C : Addr) (cl : List (Str × Addr)) (fp : List Addr), PG (X.blk s H scope (compEnvC scope cl C X.env) fp) tg (tgP X.K p)) (ht : ∀ (s : Shared) (H : Hp) (C : Addr) (cl : List (Str × Addr)) (fp : List Addr), PTs (X.blk s H scope (compEnvC scope cl C X.env) fp) ifs (tT (cq (X.blk s H scope (compEnvC scope cl C X.env) fp) M G W0) t))
    (hk : ∀ (s : Shared) (H : Hp) (C : Addr) (cl : List (Str × Addr)) (fp : List Addr), PE (X.blk s H scope (compEnvC scope cl C X.env) fp) kx (tE (cq (X.blk s H scope (compEnvC scope cl C X.env) fp) M G W0) wk))
    (he : ∀ (s : Shared) (H : Hp) (C : Addr) (cl : List (Str × Addr)) (fp : List Addr), PE (X.blk s H scope (compEnvC scope cl C X.env) fp) vx (tE (cq (X.blk s H scope (compEnvC scope cl C X.env) fp) M G W0) we))
    (ok : blkC X.N X.env.scope scope own = true := by rfl) (hp : ∀ i ∈ slotsP p, i ∈ own.map (·.2) := by decide) (hs : ∀ x, foldedSetIterable iter X.env x = pure x := by intro _; rfl) :
    PE X (.DictComp kx vx [⟨tg, iter, ifs, 0⟩] scope pos) (tE (cq X M G W) (wDCT wi p t wk we (own.map (·.2)))) := qe_dcT C.hP C.hw C.calm C.hu C.nd hi (blkOk_by ok) hp hg ht hk he hs
theorem z_dc (C : Ctx Lw X M G) (i : Nat) {y : Str} {py : Pos} {kx vx tg iter : Expr} {ifs : List Expr} {scope : Scope} (own : List (Str × Nat)) {spos : Pos} {wi : WI} {p : Pat} {t : WT} {wk : WE} (hi : PI X tg iter (tI (cq X M G W) wi))
    (hg : ∀ (s : Shared) (H : Hp) (C : Addr) (cl : List (Str × Addr)) (fp : List Addr), PG (X.blk s H scope (compEnvC scope cl C X.env) fp) tg (tgP X.K p)) (ht : ∀ (s : Shared) (H : Hp) (C : Addr) (cl : List (Str × Addr)) (fp : List Addr), PTs (X.blk s H scope (compEnvC scope cl C X.env) fp) ifs (tT (cq (X.blk s H scope (compEnvC scope cl C X.env) fp) M G W0) t))
    (hk : ∀ (s : Shared) (H : Hp) (C : Addr) (cl : List (Str × Addr)) (fp : List Addr), PE (X.blk s H scope (compEnvC scope cl C X.env) fp) kx (tE (cq (X.blk s H scope (compEnvC scope cl C X.env) fp) M G W0) wk))
    (he : ∀ (s : Shared) (H : Hp) (C : Addr) (cl : List (Str × Addr)) (fp : List Addr), PE (X.blk s H scope (compEnvC scope cl C X.env) fp) vx (tE (cq (X.blk s H scope (compEnvC scope cl C X.env) fp) M G W0) we))
    (hy : X.N[i]? = some y := by rfl) (hyl : X.env.scope.names.lookup y = some .local := by rfl) (hsw : swapsWith (.DictComp kx vx [⟨tg, iter, ifs, 0⟩] scope pos) (some (.Name y py)) spos.line X.env = pure true := by rfl)
    (ok : blkC X.N X.env.scope scope own = true := by rfl) (hp : ∀ i ∈ slotsP p, i ∈ own.map (·.2) := by decide) (hs : ∀ x, foldedSetIterable iter X.env x = pure x := by intro _; rfl) :
    PS X (.Assign [.Name y py] (.DictComp kx vx [⟨tg, iter, ifs, 0⟩] scope pos) spos) (tS (cq X M G W) (wAsg (wDCT wi p t wk we (own.map (·.2))) (gNm i))) := qs_setDcT C.hP C.hw C.calm C.hu C.nd hy hyl hsw hi (blkOk_by ok) hp hg ht hk he hs
theorem p_nm (i : Nat) {K : PySem.W.Frag} {x : Str} (hN : X.N.Nodup) (hi : X.N[i]? = some x := by rfl) (hx : Loc X.env.scope x := by first | exact Or.inl rfl | exact Or.inr rfl) (hf : X.fn x = true ∨ X.env.scope.names.lookup x = some .local := by first | exact Or.inl rfl | exact Or.inr rfl) : PG X (.Name x pos) (tgP K (.nm i)) := pg_name hN hi hx hf
theorem p_n {K : PySem.W.Frag} : PGs X [] (tgPs K []) := pgs_nil
theorem p_c {K : PySem.W.Frag} {q : Pat} {qs : List Pat} (h1 : PG X e (tgP K q)) (h2 : PGs X es (tgPs K qs)) (hs : (assignEach (e :: es) X.env).map (·.2) = assign e X.env :: (assignEach es X.env).map (·.2) := by rfl) : PGs X (e :: es) (tgPs K (q :: qs)) := pgs_cons h1 h2 hs
theorem p_t {k : Nat} {qs : List Pat} (hc : X.calm = true) (h : PGs X es (tgPs X.K qs)) (hn : (assignEach es X.env).length = qs.length := by rfl) (hst : (assignEach es X.env).findIdx? (·.1) = none := by rfl) : PG X (.Tuple es k pos) (tgP X.K (.tp qs)) := pg_tup hc h hn hst
theorem g_p {q : Pat} (h : PG X e (tgP X.K q)) : PG X e (tG (cq X M G W) (gPt q)) := qg_pat (c := cq X M G W) h
theorem z_for (C : Ctx Lw X M G) (hp : PassesOwn (model X.prog X.w) X.A X.env X.xe) {tg iter : Expr} {body : List Stmt} {wi : WI} {q : Pat} {wb : WS} (hi : PI X tg iter (tI (cq X M G W) wi)) (hg : PG X tg (tgP X.K q)) (hb : PSs X body (tS (cq X M G W) wb))
    (hs : ∀ x, foldedSetIterable iter X.env x = pure x := by intro _; rfl) : PS X (.For tg iter body [] pos) (tS (cq X M G W) (wFor wi (gPt q) wb)) := qs_for hp C.calm hi (g_p hg) hb hs
theorem z_ret (he : PE X e (tE (cq X M G W) we)) : PS X (.Return (some e) pos) (tS (cq X M G W) (wRet we)) := qs_ret he
theorem z_ex (he : PE X e (tE (cq X M G W) we)) (hs : swapsWith e none pos.line X.env = pure false := by rfl) : PS X (.Expr e pos) (tS (cq X M G W) (wExpr we)) := qs_expr he hs
theorem z_aug (C : Ctx Lw X M G) (i : Nat) {x : Str} {op : Operator} {f : F2} {pos' : Pos} (he : PE X e (tE (cq X M G W) we)) (ho : PIp X op (tIp (cq X M G W) f)) (hi : X.N[i]? = some x := by rfl) (hx : Loc X.env.scope x := by first | exact Or.inl rfl | exact Or.inr rfl)
    (hf : X.fn x = true ∨ X.env.scope.names.lookup x = some .local := by first | exact Or.inl rfl | exact Or.inr rfl) : PS X (.AugAssign (.Name x pos') op e pos) (tS (cq X M G W) (wAug i f we)) := qs_aug C.nd hi hx he ho hf
theorem z_augS (C : Ctx Lw X M G) {o i : Expr} {wo wi : WE} {f : F2} {op : Operator} {tpos : Pos} (ho : PE X o (tE (cq X M G W) wo)) (hi : PE X i (tE (cq X M G W) wi)) (he : PE X e (tE (cq X M G W) we)) (hp : PIp X op (tIp (cq X M G W) f))
    (ha : ∀ ov iv new, augStore i ov iv new = (do holding [new, ov, iv] (setItem ov iv new); release [new, ov, iv] []; pure .next) := by intros; rfl) : PS X (.AugAssign (.Subscript o i tpos) op e pos) (tS (cq X M G W) (wAugS fGi f fSet wo wi we)) := qs_augS ho hi (qz_get C.hu C.hP C.hw) he hp (qz_set C.hu C.hP C.hw) ha
variable {tg : Expr}
theorem i_v (he : PE X e (tE (cq X M G W) we)) : PI X tg e (tI (cq X M G W) (wIter we)) := qi_val he
theorem i_r1 (C : Ctx Lw X M G) (j : Nat) (ha : PA X [a] (tA (cq X M G W) ra)) (hj : Lw.fa[j]? = some (.free "range") := by rfl) (hg : Gl X "range" := by rfl) (hs : starEach [a] X.env = [(false, eval a X.env)] := by rfl) : PI X tg (.Call (.Name "range" p) [a] [] pos) (tI (cq X M G W) (wRange1 ra)) :=
  qi_range1 hg (He.free_ok C.kin C.ns (C.says.d.fact j hj)) ha hs
theorem i_r2 (C : Ctx Lw X M G) (j : Nat) (ha : PA X [a, b] (tA (cq X M G W) ra)) (hj : Lw.fa[j]? = some (.free "range") := by rfl) (hg : Gl X "range" := by rfl) (hs : starEach [a, b] X.env = [(false, eval a X.env), (false, eval b X.env)] := by rfl) (hs2 : starEach [b] X.env = [(false, eval b X.env)] := by rfl) : PI X tg (.Call (.Name "range" p) [a, b] [] pos) (tI (cq X M G W) (wRange2 ra)) :=
  qi_range2 hg (He.free_ok C.kin C.ns (C.says.d.fact j hj)) ha hs hs2
theorem i_z (C : Ctx Lw X M G) (j : Nat) {elts : List Expr} {kk : Nat} {tpos : Pos} (ha : PA X [a, b] (tA (cq X M G W) ra)) (hj : Lw.fa[j]? = some (.free "zip") := by rfl) (hg : Gl X "zip" := by rfl) (hs : starEach [a, b] X.env = (false, eval a X.env) :: starEach [b] X.env := by rfl)
    (hpl : (backTo pos (starEach [b] X.env)).any (·.1) = false := by rfl) : PI X (.Tuple elts kk tpos) (.Call (.Name "zip" p) [a, b] [] pos) (tI (cq X M G W) (wZip ra)) :=
  qi_zip hg (He.free_ok C.kin C.ns (C.says.d.fact j hj)) ha hs hpl
theorem i_e (C : Ctx Lw X M G) (j : Nat) {elts : List Expr} {kk : Nat} {tpos : Pos} (ha : PA X [a] (tA (cq X M G W) ra)) (hj : Lw.fa[j]? = some (.free "enumerate") := by rfl) (hg : Gl X "enumerate" := by rfl) (hs : starEach [a] X.env = [(false, eval a X.env)] := by rfl) : PI X (.Tuple elts kk tpos) (.Call (.Name "enumerate" p) [a] [] pos) (tI (cq X M G W) (wEnum ra)) :=
  qi_enum hg (He.free_ok C.kin C.ns (C.says.d.fact j hj)) ha hs
theorem x_bm {f : FM} {o : Expr} {wo : WE} {name : Str} {apos : Pos} {T id : String} (pa : PlainAttrs T) (slot : Slot T name id) (hty : typeOf (.builtin id) = pure (.type "method_descriptor")) (hm : MtR X id (rM (cq X M G W) f)) (ho : PE X o (tE (cq X M G W) wo)) (ha : PA X (e :: es) (tA (cq X M G W) ra))
    (hbase : attributeBase o name X.env (eval o X.env) = eval o X.env := by rfl)
    (hfew : ((backTo pos (starEach (e :: es) X.env)).all (fun x => !x.1) && (backToKw pos (keywordEach [] X.env)).all (fun x => x.1.isSome)
      && decide ((e :: es).length + ([] : List Keyword).length + (if ([] : List Keyword).isEmpty then 0 else 1) < 30)) = true := by rfl)
    (hline : (apos.endLine == pos.line) = true := by rfl) (hs : starEach (e :: es) X.env = (false, eval e X.env) :: starEach es X.env := by rfl) (hplain : (backTo pos (starEach es X.env)).any (·.1) = false := by rfl) :
    PE X (.Call (.Attribute o name apos) (e :: es) [] pos) (tE (cq X M G W) (wBM T f wo ra)) := qe_bm rfl pa slot hty hm ho ha hbase hfew hline hs hplain
theorem x_bm0 {f : FM} {o : Expr} {wo : WE} {name : Str} {apos : Pos} {T id : String} (pa : PlainAttrs T) (slot : Slot T name id) (hty : typeOf (.builtin id) = pure (.type "method_descriptor")) (hm : MtR X id (rM (cq X M G W) f)) (ho : PE X o (tE (cq X M G W) wo))
    (hbase : attributeBase o name X.env (eval o X.env) = eval o X.env := by rfl) (hline : (apos.endLine == pos.line) = true := by rfl) : PE X (.Call (.Attribute o name apos) [] [] pos) (tE (cq X M G W) (wBM T f wo wNil)) := qe_bm0 rfl pa slot hty hm ho hbase hline
end
end Qz
set_option Elab.async false
set_option linter.all false
set_option maxRecDepth 100000
set_option maxHeartbeats 2000000
namespace Qz
open PySem PySem.Spec PyProof.Rows L2
section
variable {prog : Program} {w : World} {A : Around} {E : Value → Shared → Prop} {s : Shared} {z TI TO i1 i2 : Addr} {fp1 fp2 : List Addr} {n1 n2 i : Nat} {P1 P2 : Nat → Value → Prop} {St1 St2 : Nat → Heap → Prop}
/-- the next pair, the one ahead still out -/
theorem zipO_item {T : Addr} {f : Bool} {oT : Obj} {Q : Value → Shared → Prop} (S : ZipSep2 z TI TO i1 i2 fp1 fp2) (D1 : Draws prog w A i1 fp1 n1 P1 St1) (D2 : Draws prog w A i2 fp2 n2 P2 St2)
    (hz : IsZipHeld s.heap z TI TO T f) (hT : s.heap.get? T = some oT) (hTI : IsTupOf2 s.heap TI (.ref i1) (.ref i2)) (st1 : St1 i s.heap) (st2 : St2 i s.heap) (hlt1 : i < n1) (hlt2 : i < n2)
    (hQ : ∀ x1 x2 h' tk, P1 i x1 → P2 i x2 → IsZipHeld h' z TI TO T true → St1 (i + 1) h' → St2 (i + 1) h' → IsTupOf2 h' s.heap.objs.size x1 x2 → h'.objs.size = s.heap.objs.size + 1 →
      (∀ c o, c ≠ z → c ≠ i1 → c ≠ i2 → s.heap.get? c = some o → h'.get? c = some o) → Q (.ref s.heap.objs.size) { s with heap := h', toks := tk }) :
    wpAny (model prog w) A (Builtin.«zip.__next__» ⟨[.ref z], []⟩) (fun fin s' => ∃ v, fin = .done (.ret v) ∧ Q v s') E s := by
  show wpAny _ _ (field (.ref z) 2 >>= _) _ _ _
  refine wpAny_bind (wpAny_field hz rfl (x := .bool false) rfl ?_)
  show wpAny _ _ (field (.ref z) 3 >>= _) _ _ _
  refine wpAny_bind (wpAny_field hz rfl (x := .ref TI) rfl ?_)
  refine wpAny_bind (wpAny_seqItems hTI rfl ?_)
  show wpAny _ _ (Builtin.SmallTypes.ownedTupleIsFree (.ref z) >>= _) _ _ _
  refine wpAny_bind (wpAny_tupleHeld_zip hz hT fun h₁ hz₁ hs₁ => ?_)
  simp only [Bool.false_eq_true, if_false]
  refine wpAny_bind ?_
  rw [← Array.forIn_toList]
  simp only [List.forIn_cons, List.forIn_nil]
  refine wpAny_bind (wpAny_bind (wpAny_holding ?_))
  show wpAny _ _ (Builtin.SmallTypes.nextOf (.ref i1) >>= _) _ _ _
  refine wpAny_bind (D1.item i { s with heap := h₁ } _ _ hlt1 (D1.over st1 hs₁ S.zf1) fun x1 h₂ tk2 hx1 st1₂ hs₂ => wpAny_pure ?_)
  refine wpAny_pure ?_
  refine wpAny_bind (wpAny_bind (wpAny_holding ?_))
  show wpAny _ _ (Builtin.SmallTypes.nextOf (.ref i2) >>= _) _ _ _
  refine wpAny_bind (D2.item i { s with heap := h₂, toks := tk2 } _ _ hlt2 (D2.over (D2.over st2 hs₁ S.zf2) hs₂ S.sep1_2) fun x2 h₃ tk3 hx2 st2₃ hs₃ => wpAny_pure ?_)
  refine wpAny_pure (wpAny_pure ?_)
  show wpAny _ _ (newTuple [x1, x2] >>= _) _ _ _
  refine wpAny_bind (wpAny_newTuple ?_)
  have hsz : h₃.objs.size = s.heap.objs.size := by rw [hs₃.1, hs₂.1, hs₁.1]
  have hz₃ : IsZipHeld h₃ z TI TO T true := hs₃.extBut _ _ S.zi2 (hs₂.extBut _ _ S.zi1 hz₁)
  have hk : ∀ c o, c ≠ z → c ≠ i1 → c ≠ i2 → s.heap.get? c = some o → h₃.get? c = some o := fun c o c1 c2 c3 e => hs₃.extBut _ _ c3 (hs₂.extBut _ _ c2 (hs₁.extBut _ _ c1 e))
  have st1₃ := D1.over st1₂ hs₃ S.sep2_1
  refine wpAny_pure ⟨_, rfl, ?_⟩
  show Q (.ref h₃.objs.size) _
  have hp : IsTupOf2 (h₃.push { cls := .type "tuple", data := .seq #[x1, x2] }) h₃.objs.size x1 x2 := Heap.get?_push_size _ rfl
  have hz4 : (h₃.push { cls := .type "tuple", data := .seq #[x1, x2] }).objs.size = h₃.objs.size + 1 := Heap.size_push ..
  rw [hsz] at hp hz4 ⊢
  exact hQ x1 x2 _ tk3 hx1 hx2 (Heap.get?_push_of_some _ hz₃) (D1.frame _ _ _ st1₃ fun b _ o e => Heap.get?_push_of_some _ e) (D2.frame _ _ _ st2₃ fun b _ o e => Heap.get?_push_of_some _ e) hp hz4 fun c o c1 c2 c3 e => Heap.get?_push_of_some _ (hk c o c1 c2 c3 e)
theorem zipO_end {T : Addr} {f : Bool} {oT : Obj} {Q : Fin → Shared → Prop} (S : ZipSep2 z TI TO i1 i2 fp1 fp2) (D1 : Draws prog w A i1 fp1 n1 P1 St1) (D2 : Draws prog w A i2 fp2 n2 P2 St2)
    (hz : IsZipHeld s.heap z TI TO T f) (hT : s.heap.get? T = some oT) (hTI : IsTupOf2 s.heap TI (.ref i1) (.ref i2)) (st1 : St1 i s.heap) (st2 : St2 i s.heap) (hle1 : i ≤ n1) (hle2 : i ≤ n2) (hend : i = n1 ∨ i = n2)
    (hE : ∀ h' tk e, (∀ c o, c ≠ z → c ≠ i1 → c ≠ i2 → s.heap.get? c = some o → h'.get? c = some o) → (∃ o, h'.get? e = some o ∧ o.cls = .type "StopIteration") → E (.ref e) { s with heap := h', toks := tk }) :
    wpAny (model prog w) A (Builtin.«zip.__next__» ⟨[.ref z], []⟩) Q E s := by
  show wpAny _ _ (field (.ref z) 2 >>= _) _ _ _
  refine wpAny_bind (wpAny_field hz rfl (x := .bool false) rfl ?_)
  show wpAny _ _ (field (.ref z) 3 >>= _) _ _ _
  refine wpAny_bind (wpAny_field hz rfl (x := .ref TI) rfl ?_)
  refine wpAny_bind (wpAny_seqItems hTI rfl ?_)
  show wpAny _ _ (Builtin.SmallTypes.ownedTupleIsFree (.ref z) >>= _) _ _ _
  refine wpAny_bind (wpAny_tupleHeld_zip hz hT fun h₁ hz₁ hs₁ => ?_)
  simp only [Bool.false_eq_true, if_false]
  refine wpAny_bind ?_
  rw [← Array.forIn_toList]
  simp only [List.forIn_cons, List.forIn_nil]
  refine wpAny_bind (wpAny_bind (wpAny_holding ?_))
  show wpAny _ _ (Builtin.SmallTypes.nextOf (.ref i1) >>= _) _ _ _
  by_cases h1 : i = n1
  · subst h1
    refine wpAny_bind (D1.done { s with heap := h₁ } _ _ (D1.over st1 hs₁ S.zf1) fun h₂ e hs₂ he => ?_)
    exact hE h₂ s.toks e (fun c o c1 c2 _ x => hs₂ _ _ c2 (hs₁.extBut _ _ c1 x)) he
  · have h2 : i = n2 := by rcases hend with h | h; exact absurd h h1; exact h
    refine wpAny_bind (D1.item i { s with heap := h₁ } _ _ (by omega) (D1.over st1 hs₁ S.zf1) fun x1 h₂ tk2 hx1 st1₂ hs₂ => wpAny_pure ?_)
    refine wpAny_pure ?_
    refine wpAny_bind (wpAny_bind (wpAny_holding ?_))
    show wpAny _ _ (Builtin.SmallTypes.nextOf (.ref i2) >>= _) _ _ _
    subst h2
    refine wpAny_bind (D2.done { s with heap := h₂, toks := tk2 } _ _ (D2.over (D2.over st2 hs₁ S.zf2) hs₂ S.sep1_2) fun h₃ e hs₃ he => ?_)
    exact hE h₃ tk2 e (fun c o c1 c2 c3 x => hs₃ _ _ c3 (hs₂.extBut _ _ c2 (hs₁.extBut _ _ c1 x))) he
/-- where the zip stands -/
def ZSt (z TI TO i1 i2 lo : Addr) (St1 St2 : Nat → Heap → Prop) (i : Nat) (h : Heap) : Prop :=
  ((IsZip h z TI TO .none ∧ ∃ a1 a2, IsTupOf2 h TO a1 a2) ∨ ∃ T f oT, IsZipHeld h z TI TO T f ∧ h.get? T = some oT ∧ lo ≤ T) ∧ IsTupOf2 h TI (.ref i1) (.ref i2) ∧ St1 i h ∧ St2 i h
theorem zs_next {lo : Addr} {Q : Option Value → Shared → Prop} (S : ZipSep2 z TI TO i1 i2 fp1 fp2) (D1 : Draws prog w A.in1 i1 fp1 n1 P1 St1) (D2 : Draws prog w A.in1 i2 fp2 n2 P2 St2) (hlo : z < lo ∧ TO < lo ∧ i1 < lo ∧ i2 < lo) (hl : lo ≤ s.heap.objs.size)
    (st : ZSt z TI TO i1 i2 lo St1 St2 i s.heap) (hlt1 : i < n1) (hlt2 : i < n2)
    (hQ : ∀ x1 x2 h' tk, P1 i x1 → P2 i x2 → ZSt z TI TO i1 i2 lo St1 St2 (i + 1) h' → IsTupOf2 h' s.heap.objs.size x1 x2 → h'.objs.size = s.heap.objs.size + 1 →
      (∀ c o, c ≠ z → c ≠ TO → c ≠ i1 → c ≠ i2 → s.heap.get? c = some o → h'.get? c = some o) → Q (some (.ref s.heap.objs.size)) { s with heap := h', toks := tk }) :
    wpAny (model prog w) A (pyNext (.ref z)) Q E s := by
  obtain ⟨hzz, hTI, st1, st2⟩ := st
  rcases hzz with ⟨hz, a1, a2, hTO⟩ | ⟨T, f, oT, hz, hT, hlT⟩
  · have hTy : s.TypeIs (.ref z) "zip" := ⟨_, hz, rfl⟩
    unfold pyNext
    refine wpAny_bind (wpAny_attempt (wpAny_callSpecial?_slot (name := Str.ofString "__next__") hTy F.slot_zip_next
      (wpAny_call_entry F.slot_zip_next hTy F.entry_zip_next (zipD2_next_item S D1 D2 hz hTI hTO st1 st2 hlt1 hlt2 fun x1 x2 h' tk p1 p2 hz' hTO' s1 s2 hp hsz hk => wpAny_pure (hQ x1 x2 h' tk p1 p2 ⟨.inr ⟨_, false, _, hz', hp, hl⟩, ?_, s1, s2⟩ hp hsz hk)) (F.args_zip_next_1 _))))
    exact hk _ _ S.TIz S.TITO S.TIi1 S.TIi2 hTI
  · have hTy : s.TypeIs (.ref z) "zip" := ⟨_, hz, rfl⟩
    unfold pyNext
    refine wpAny_bind (wpAny_attempt (wpAny_callSpecial?_slot (name := Str.ofString "__next__") hTy F.slot_zip_next
      (wpAny_call_entry F.slot_zip_next hTy F.entry_zip_next (zipO_item S D1 D2 hz hT hTI st1 st2 hlt1 hlt2 fun x1 x2 h' tk p1 p2 hz' s1 s2 hp hsz hk => wpAny_pure (hQ x1 x2 h' tk p1 p2 ⟨.inr ⟨T, true, oT, hz', ?_, hlT⟩, ?_, s1, s2⟩ hp hsz fun c o c1 _ c3 c4 e => hk c o c1 c3 c4 e)) (F.args_zip_next_1 _))))
    · exact hk _ _ (Nat.ne_of_gt (Nat.lt_of_lt_of_le hlo.1 hlT)) (Nat.ne_of_gt (Nat.lt_of_lt_of_le hlo.2.2.1 hlT)) (Nat.ne_of_gt (Nat.lt_of_lt_of_le hlo.2.2.2 hlT)) hT
    · exact hk _ _ S.TIz S.TIi1 S.TIi2 hTI
theorem zs_end {lo : Addr} {Q : Option Value → Shared → Prop} (S : ZipSep2 z TI TO i1 i2 fp1 fp2) (D1 : Draws prog w A.in1 i1 fp1 n1 P1 St1) (D2 : Draws prog w A.in1 i2 fp2 n2 P2 St2)
    (st : ZSt z TI TO i1 i2 lo St1 St2 i s.heap) (hle1 : i ≤ n1) (hle2 : i ≤ n2) (hend : i = n1 ∨ i = n2)
    (hQ : ∀ h' tk, (∀ c o, c ≠ z → c ≠ TO → c ≠ i1 → c ≠ i2 → s.heap.get? c = some o → h'.get? c = some o) → Q none { s with heap := h', toks := tk }) :
    wpAny (model prog w) A (pyNext (.ref z)) Q E s := by
  obtain ⟨hzz, hTI, st1, st2⟩ := st
  have fin : ∀ {h' : Heap} {tk : Nat} {e : Addr}, (∀ c o, c ≠ z → c ≠ TO → c ≠ i1 → c ≠ i2 → s.heap.get? c = some o → h'.get? c = some o) → (∃ o, h'.get? e = some o ∧ o.cls = .type "StopIteration") →
      wpAny (model prog w) A (do if ← isInstance (.ref e) (.type "StopIteration") then pure (none : Option Value) else throw (.ref e)) Q E { s with heap := h', toks := tk } := fun {h' tk e} hk ⟨o, ho, hc⟩ =>
    wpAny_bind (wpAny_isInstance (T := "StopIteration") (b := true) ⟨o, ho, hc⟩ isSubtype_stop (wpAny_pure (hQ h' tk hk)))
  rcases hzz with ⟨hz, a1, a2, hTO⟩ | ⟨T, f, oT, hz, hT, hlT⟩
  · have hTy : s.TypeIs (.ref z) "zip" := ⟨_, hz, rfl⟩
    unfold pyNext
    refine wpAny_bind (wpAny_attempt (wpAny_callSpecial?_slot (name := Str.ofString "__next__") hTy F.slot_zip_next
      (wpAny_call_entry F.slot_zip_next hTy F.entry_zip_next (zipD2_next_end S D1 D2 hz hTI hTO st1 st2 hle1 hle2 hend fun h' tk e hk he => ?_) (F.args_zip_next_1 _))))
    obtain ⟨o, ho, hc⟩ := he
    exact wpAny_bind (wpAny_isInstance (T := "StopIteration") (b := true) ⟨o, ho, hc⟩ isSubtype_stop (wpAny_pure (hQ h' tk hk)))
  · have hTy : s.TypeIs (.ref z) "zip" := ⟨_, hz, rfl⟩
    unfold pyNext
    refine wpAny_bind (wpAny_attempt (wpAny_callSpecial?_slot (name := Str.ofString "__next__") hTy F.slot_zip_next
      (wpAny_call_entry F.slot_zip_next hTy F.entry_zip_next (zipO_end S D1 D2 hz hT hTI st1 st2 hle1 hle2 hend fun h' tk e hk he => ?_) (F.args_zip_next_1 _))))
    obtain ⟨o, ho, hc⟩ := he
    exact wpAny_bind (wpAny_isInstance (T := "StopIteration") (b := true) ⟨o, ho, hc⟩ isSubtype_stop (wpAny_pure (hQ h' tk fun c o c1 _ c3 c4 e => hk c o c1 c3 c4 e)))
/-- the pairs that were made -/
structure MadeZ (P1 P2 : Nat → Value → Prop) (lo : Addr) (h : Heap) (as : List Addr) : Prop where
  rise : as.Pairwise (· < ·)
  above : ∀ a ∈ as, lo ≤ a
  pairs : ∀ (j : Nat) (a : Addr), as[j]? = some a → ∃ x1 x2, P1 j x1 ∧ P2 j x2 ∧ IsTupOf2 h a x1 x2
theorem MadeZ.there {lo : Addr} {h : Heap} {as : List Addr} (g : MadeZ P1 P2 lo h as) {a : Addr} (ha : a ∈ as) : a < h.objs.size := by
  obtain ⟨j, hj⟩ := List.mem_iff_getElem?.mp ha
  obtain ⟨_, _, _, _, e⟩ := g.pairs j a hj
  exact Heap.lt_size e
theorem ZSt.keep {lo : Addr} {j : Nat} {h h' : Heap} {S0 : Addr} (D1 : Draws prog w A i1 fp1 n1 P1 St1) (D2 : Draws prog w A i2 fp2 n2 P2 St2) (st : ZSt z TI TO i1 i2 lo St1 St2 j h) (k : ∀ b o, b ≠ S0 → h.get? b = some o → h'.get? b = some o) (nS : S0 ≠ z ∧ S0 ≠ TI ∧ S0 ≠ TO ∧ S0 < lo) (f1 : S0 ∉ fp1) (f2 : S0 ∉ fp2) : ZSt z TI TO i1 i2 lo St1 St2 j h' := by
  obtain ⟨hzz, hTI, s1, s2⟩ := st
  refine ⟨?_, k _ _ (Ne.symm nS.2.1) hTI, D1.frame _ _ _ s1 fun b hb o e => k b o (fun q => f1 (q ▸ hb)) e, D2.frame _ _ _ s2 fun b hb o e => k b o (fun q => f2 (q ▸ hb)) e⟩
  rcases hzz with ⟨hz, a1, a2, hTO⟩ | ⟨T, f, oT, hz, hT, hlT⟩
  · exact .inl ⟨k _ _ (Ne.symm nS.1) hz, a1, a2, k _ _ (Ne.symm nS.2.2.1) hTO⟩
  · exact .inr ⟨T, f, oT, k _ _ (Ne.symm nS.1) hz, k _ _ (Nat.ne_of_gt (Nat.lt_of_lt_of_le nS.2.2.2 hlT)) hT, hlT⟩
theorem zs_loop {lo S0 : Addr} {R : Result → Shared → Prop} {n : Nat} (S : ZipSep2 z TI TO i1 i2 fp1 fp2) (D1 : Draws prog w A.in1.in1.in1 i1 fp1 n1 P1 St1) (D2 : Draws prog w A.in1.in1.in1 i2 fp2 n2 P2 St2) (hlo : z < lo ∧ TO < lo ∧ i1 < lo ∧ i2 < lo) (nS : S0 ≠ z ∧ S0 ≠ TI ∧ S0 ≠ TO ∧ S0 < lo) (nSi : S0 ≠ i1 ∧ S0 ≠ i2) (f1 : S0 ∉ fp1) (f2 : S0 ∉ fp2) (hn : n ≤ sizeLine) (hmin : n = min n1 n2) (res : Value) {h₁ : Heap}
    (hR : ∀ h' tk acc c as, (∀ b o, b ≠ S0 → b ≠ z → b ≠ TO → b ≠ i1 → b ≠ i2 → h₁.get? b = some o → h'.get? b = some o) → h'.get? S0 = some { cls := .type "list", dict := none, data := .seq acc c, slots := #[] } → as.length = n → MadeZ P1 P2 lo h' as →
      acc.toList = as.map Value.ref → R (.ok (.ret res)) { s with heap := h', toks := tk }) :
    ∀ (k i : Nat) (h : Heap) (tk c : Nat) (acc : Array Value) (as : List Addr), n - i = k → i ≤ n → ZSt z TI TO i1 i2 lo St1 St2 i h → (∀ b o, b ≠ S0 → b ≠ z → b ≠ TO → b ≠ i1 → b ≠ i2 → h₁.get? b = some o → h.get? b = some o) →
      h.get? S0 = some { cls := .type "list", dict := none, data := .seq acc c, slots := #[] } → acc.toList = as.map Value.ref → as.length = i → MadeZ P1 P2 lo h as → lo ≤ h.objs.size →
      codeAny (model prog w) A.in1 (.builtin "list.extend.loop" ⟨[.ref S0, .ref z, res], []⟩) R { s with heap := h, toks := tk } := by
  intro k
  induction k with
  | zero =>
    intro i h tk c acc as hk hi hst hkeep hS hacc hal hG hl
    refine codeAny_builtin PySem.F.entry_extend_loop ?_
    rw [Around.under_plainId PySem.F.plain_extend_loop _]
    show wpAny _ A.in1.in1 (pyNext (.ref z) >>= _) _ _ _
    refine wpAny_bind (zs_end (s := { s with heap := h, toks := tk }) (A := A.in1.in1) S D1 D2 hst (by omega) (by omega) (by omega) fun h' tk' he => ?_)
    refine wpAny_pure (hR h' tk' acc c as (fun b o h1 h2 h3 h4 h5 e => he b o h2 h3 h4 h5 (hkeep b o h1 h2 h3 h4 h5 e)) (he S0 _ nS.1 nS.2.2.1 nSi.1 nSi.2 hS) (by omega) ⟨hG.rise, hG.above, fun j a hj => ?_⟩ hacc)
    obtain ⟨x1, x2, p1, p2, e3⟩ := hG.pairs j a hj
    have ha := hG.above a (List.mem_of_getElem? hj)
    exact ⟨x1, x2, p1, p2, he a _ (Nat.ne_of_gt (Nat.lt_of_lt_of_le hlo.1 ha)) (Nat.ne_of_gt (Nat.lt_of_lt_of_le hlo.2.1 ha)) (Nat.ne_of_gt (Nat.lt_of_lt_of_le hlo.2.2.1 ha)) (Nat.ne_of_gt (Nat.lt_of_lt_of_le hlo.2.2.2 ha)) e3⟩
  | succ k ih =>
    intro i h tk c acc as hk hi hst hkeep hS hacc hal hG hl
    have hlt : i < n := by omega
    have hsz : acc.size = i := by rw [← Array.length_toList, hacc, List.length_map, hal]
    refine codeAny_builtin PySem.F.entry_extend_loop ?_
    rw [Around.under_plainId PySem.F.plain_extend_loop _]
    show wpAny _ A.in1.in1 (pyNext (.ref z) >>= _) _ _ _
    refine wpAny_bind (zs_next (s := { s with heap := h, toks := tk }) (A := A.in1.in1) S D1 D2 hlo hl hst (by omega) (by omega) fun x1 x2 h' tk' p1 p2 hst' ht hz hkp => ?_)
    dsimp only at ht hz hkp ⊢
    have hS' := hkp S0 _ nS.1 nS.2.2.1 nSi.1 nSi.2 hS
    have up : ∀ b o, b ≠ S0 → h'.get? b = some o → (h'.update S0 (Obj.mapSeq (·.push (Value.ref h.objs.size)))).get? b = some o := fun b o hb e => (Heap.get?_update_other _ _ (Ne.symm hb)).trans e
    have hSl : S0 < h.objs.size := Heap.lt_size hS
    show wpAny _ A.in1.in1 (updateSeq S0 (·.push (Value.ref h.objs.size)) >>= _) _ _ _
    refine wpAny_bind ?_
    refine wpAny_updateSeq hS' rfl (wpAny_pure ⟨plainId_quiet PySem.F.plain_extend_loop _, ih (i + 1) _ tk' _ (acc.push (Value.ref h.objs.size)) (as ++ [h.objs.size]) (by omega) hlt (hst'.keep D1 D2 up nS f1 f2)
      (fun b o h1 h2 h3 h4 h5 e => up b o h1 (hkp b o h2 h3 h4 h5 (hkeep b o h1 h2 h3 h4 h5 e))) (Heap.get?_update_self _ hS' rfl) (by rw [Array.toList_push, hacc, List.map_append]; rfl) (by rw [List.length_append, hal]; rfl) ⟨?_, ?_, ?_⟩ ?_⟩) (by rw [hsz]; omega) (by show (acc.push (Value.ref h.objs.size)).size ≤ sizeLine + 1; rw [Array.size_push, hsz]; omega)
    · refine List.pairwise_append.mpr ⟨hG.rise, List.pairwise_singleton _ _, fun a ha b hb => ?_⟩
      rw [List.mem_singleton.mp hb]
      exact hG.there ha
    · intro a ha
      rcases List.mem_append.mp ha with ha | ha
      · exact hG.above a ha
      · rw [List.mem_singleton.mp ha]; exact hl
    · intro j b hj
      rcases Nat.lt_trichotomy j as.length with h1 | h1 | h1
      · rw [List.getElem?_append_left h1] at hj
        obtain ⟨y1, y2, e1, e2, e3⟩ := hG.pairs j b hj
        have hb := hG.above b (List.mem_of_getElem? hj)
        exact ⟨y1, y2, e1, e2, up b _ (Nat.ne_of_gt (Nat.lt_of_lt_of_le nS.2.2.2 hb)) (hkp b _ (Nat.ne_of_gt (Nat.lt_of_lt_of_le hlo.1 hb)) (Nat.ne_of_gt (Nat.lt_of_lt_of_le hlo.2.1 hb)) (Nat.ne_of_gt (Nat.lt_of_lt_of_le hlo.2.2.1 hb)) (Nat.ne_of_gt (Nat.lt_of_lt_of_le hlo.2.2.2 hb)) e3)⟩
      · subst h1
        have hb : h.objs.size = b := by simpa using hj
        subst hb
        exact ⟨x1, x2, by rw [hal]; exact p1, by rw [hal]; exact p2, up _ _ (Nat.ne_of_gt hSl) ht⟩
      · have hnone : (as ++ [h.objs.size])[j]? = none := List.getElem?_eq_none (by rw [List.length_append, List.length_singleton]; omega)
        rw [hnone] at hj; cases hj
    · have e : (h'.update S0 (Obj.mapSeq (·.push (Value.ref h.objs.size)))).get? h.objs.size = _ := up _ _ (Nat.ne_of_gt hSl) ht
      exact Nat.le_of_lt (Nat.lt_of_le_of_lt hl (Heap.lt_size e))
theorem zip_no_len : typeLookup (.type "zip") "__len__" = pure none := by rw [typeLookup_type, builtinLookup_eq_fast]; kernel_rfl
theorem zip_no_hint : typeLookup (.type "zip") "__length_hint__" = pure none := by rw [typeLookup_type, builtinLookup_eq_fast]; kernel_rfl
theorem zs_ext {S0 : Addr} {R : Result → Shared → Prop} {n c₀ : Nat} (S : ZipSep2 z TI TO i1 i2 fp1 fp2) (D1 : Draws prog w A.in1.in1.in1 i1 fp1 n1 P1 St1) (D2 : Draws prog w A.in1.in1.in1 i2 fp2 n2 P2 St2) (hz : IsZip s.heap z TI TO .none) (hTI : IsTupOf2 s.heap TI (.ref i1) (.ref i2)) {a1 a2 : Value} (hTO : IsTupOf2 s.heap TO a1 a2) (st1 : St1 0 s.heap) (st2 : St2 0 s.heap)
    (hlo : z < s.heap.objs.size ∧ TO < s.heap.objs.size ∧ i1 < s.heap.objs.size ∧ i2 < s.heap.objs.size) (nS : S0 ≠ z ∧ S0 ≠ TI ∧ S0 ≠ TO) (nSi : S0 ≠ i1 ∧ S0 ≠ i2) (f1 : S0 ∉ fp1) (f2 : S0 ∉ fp2) (hn : n ≤ sizeLine) (hmin : n = min n1 n2) (res : Value)
    (hS : s.heap.get? S0 = some { cls := .type "list", data := .seq #[] c₀ })
    (hR : ∀ h' tk acc c as, (∀ b o, b ≠ S0 → b ≠ z → b ≠ TO → b ≠ i1 → b ≠ i2 → s.heap.get? b = some o → h'.get? b = some o) → h'.get? S0 = some { cls := .type "list", dict := none, data := .seq acc c, slots := #[] } → as.length = n → MadeZ P1 P2 s.heap.objs.size h' as →
      acc.toList = as.map Value.ref → R (.ok (.ret res)) { s with heap := h', toks := tk }) :
    wpAny (model prog w) A.in1.in1 (Builtin.List.listExtendWith (.ref S0) (.ref z) res)
      (fun fin s' => match fin with | .done f => R (.ok f) s' | .again c' => c'.quiet = true ∧ codeAny (model prog w) A.in1 c' R s') (fun e s' => R (.error e) s') s := by
  have hS0 : S0 < s.heap.objs.size := Heap.lt_size hS
  have hT : s.TypeIs (.ref z) "zip" := ⟨_, hz, rfl⟩
  have key : ∀ (h : Heap) (c₁ tk : Nat), (∀ b o, b ≠ S0 → s.heap.get? b = some o → h.get? b = some o) → s.heap.objs.size ≤ h.objs.size →
      h.get? S0 = some { cls := .type "list", data := .seq #[] c₁ } → codeAny (model prog w) A.in1 (.builtin "list.extend.loop" ⟨[.ref S0, .ref z, res], []⟩) R { s with heap := h, toks := tk } := by
    intro h c₁ tk hk hsz hS₁
    refine zs_loop (s := s) (h₁ := s.heap) S D1 D2 hlo ⟨nS.1, nS.2.1, nS.2.2, hS0⟩ nSi f1 f2 hn hmin res hR n 0 h tk c₁ #[] [] (Nat.sub_zero _) (Nat.zero_le _) ?_ (fun b o h1 _ _ _ _ e => hk b o h1 e) hS₁ rfl rfl ⟨List.Pairwise.nil, (fun _ ha => nomatch ha), (fun j a hj => by simp at hj)⟩ hsz
    exact ZSt.keep (lo := s.heap.objs.size) D1 D2 ⟨.inl ⟨hz, a1, a2, hTO⟩, hTI, st1, st2⟩ hk ⟨nS.1, nS.2.1, nS.2.2, hS0⟩ f1 f2
  unfold Builtin.List.listExtendWith
  refine wpAny_bind (wpAny_typeOf hT ?_)
  have h1 : Builtin.List.listSameRef (.ref S0) (.ref z) = false := by simp [Builtin.List.listSameRef, nS.1]
  have h2 : (Value.type "zip" == Value.type "list") = false := by decide
  have h3 : (Value.type "zip" == Value.type "tuple") = false := by decide
  simp only [h1, h2, h3, Bool.or_false, Bool.false_eq_true, if_false]
  refine wpAny_bind (wpAny_pyIter_zip hz ?_)
  refine wpAny_bind (wpAny_holding ?_)
  unfold Builtin.List.listLengthHint
  refine wpAny_bind (wpAny_specialOf hT zip_no_len ?_)
  show wpAny _ _ (specialOf (Value.ref z) (Str.ofString "__length_hint__") >>= _) _ _ _
  refine wpAny_bind (wpAny_specialOf hT zip_no_hint ?_)
  refine wpAny_pure ?_
  refine wpAny_ite_split (fun _ => ?_) (fun _ => wpAny_pure ⟨plainId_quiet PySem.F.plain_extend_loop _, key _ c₀ _ (fun b o _ e => e) (Nat.le_refl _) hS⟩)
  refine wpAny_bind (wpAny_rule ?_)
  refine wpAny_bind ?_
  show wpAny _ _ (updateSeq S0 (·.push .none) >>= fun _ => updateSeq S0 (·.pop)) _ _ _
  refine wpAny_bind (wpAny_updateSeq hS rfl ?_)
  have hS₂ := Heap.get?_update_self (Obj.mapSeq (·.push Value.none)) hS rfl
  refine wpAny_updateSeq (hz := by seq_fits) hS₂ rfl ?_
  have hS₃ := Heap.get?_update_self (Obj.mapSeq (·.pop)) hS₂ rfl
  refine wpAny_pure ⟨plainId_quiet PySem.F.plain_extend_loop _, key _ _ _ (fun b o hb e => ?_) ?_ hS₃⟩
  · exact (Heap.get?_update_other _ _ (Ne.symm hb)).trans ((Heap.get?_update_other _ _ (Ne.symm hb)).trans e)
  · rw [Heap.size_update, Heap.size_update]; exact Nat.le_refl _
theorem call_list_zip {n : Nat} {Q : Value → Shared → Prop} (S : ZipSep2 z TI TO i1 i2 fp1 fp2) (D1 : Draws prog w A.in1.in1.in1 i1 fp1 n1 P1 St1) (D2 : Draws prog w A.in1.in1.in1 i2 fp2 n2 P2 St2) (hz : IsZip s.heap z TI TO .none) (hTI : IsTupOf2 s.heap TI (.ref i1) (.ref i2)) {a1 a2 : Value} (hTO : IsTupOf2 s.heap TO a1 a2) (st1 : St1 0 s.heap) (st2 : St2 0 s.heap)
    (hi : i1 < s.heap.objs.size ∧ i2 < s.heap.objs.size) (f1 : ∀ b ∈ fp1, b < s.heap.objs.size) (f2 : ∀ b ∈ fp2, b < s.heap.objs.size) (hn : n ≤ sizeLine) (hmin : n = min n1 n2)
    (hQ : ∀ h' tk acc c as, (∀ b o, b ≠ z → b ≠ TO → b ≠ i1 → b ≠ i2 → s.heap.get? b = some o → h'.get? b = some o) → h'.get? s.heap.objs.size = some { cls := .type "list", dict := none, data := .seq acc c, slots := #[] } → as.length = n → MadeZ P1 P2 (s.heap.objs.size + 1) h' as →
      acc.toList = as.map Value.ref → Q (.ref s.heap.objs.size) { s with heap := h', toks := tk }) :
    wpAny (model prog w) A (call (.type "list") [.ref z]) Q E s := by
  have lz : z < s.heap.objs.size := Heap.lt_size hz
  have lTI : TI < s.heap.objs.size := Heap.lt_size hTI
  have lTO : TO < s.heap.objs.size := Heap.lt_size hTO
  refine callType_codes (Q₁ := fun obj s₁ => obj = .ref s.heap.objs.size ∧ s₁ = { s with heap := s.heap.push { cls := .type "list", data := .seq #[] } }) F.called_list (F.typeCall_list_1 _) F.entry_list_init
    (code_list_new _ ⟨rfl, rfl⟩) fun obj s₁ h₁ => ?_
  obtain ⟨rfl, rfl⟩ := h₁
  have hS : (s.heap.push { cls := .type "list", data := .seq #[] }).get? s.heap.objs.size = some { cls := .type "list", data := .seq #[] } := Heap.get?_push_size _ rfl
  refine ⟨⟨_, hS, rfl⟩, F.args_list_init_2 _ _, ?_⟩
  show wpAny (model prog w) A.in1.in1 (do let old ← Builtin.List.listItems (.ref s.heap.objs.size); Builtin.List.listUpdate (.ref s.heap.objs.size) (fun _ => #[]); letGo old.toList.reverse; Builtin.List.listExtendWith (.ref s.heap.objs.size) (.ref z) .none) _ _ _
  refine wpAny_bind ?_
  unfold Builtin.List.listItems
  refine wpAny_bind (wpAny_seqItems hS rfl (wpAny_pure ?_))
  show wpAny _ A.in1.in1 (updateSeq s.heap.objs.size (fun _ => #[]) >>= fun _ => letGo (#[] : Array Value).toList.reverse >>= fun _ => Builtin.List.listExtendWith (.ref s.heap.objs.size) (.ref z) .none) _ _ _
  refine wpAny_bind (wpAny_updateSeq hS rfl ?_)
  have hS₂ := Heap.get?_update_self (Obj.mapSeq (fun _ => (#[] : Array Value))) hS rfl
  have oth : ∀ b o, b ≠ s.heap.objs.size → s.heap.get? b = some o → ((s.heap.push { cls := .type "list", data := .seq #[] }).update s.heap.objs.size (Obj.mapSeq (fun _ => (#[] : Array Value)))).get? b = some o :=
    fun b o hb e => (Heap.get?_update_other _ _ (Ne.symm hb)).trans (Heap.get?_push_of_some _ e)
  have hsz : ((s.heap.push { cls := .type "list", data := .seq #[] }).update s.heap.objs.size (Obj.mapSeq (fun _ => (#[] : Array Value)))).objs.size = s.heap.objs.size + 1 := by rw [Heap.size_update, Heap.size_push]
  refine wpAny_bind (wpAny_letGo ?_)
  have ne : ∀ {b : Addr}, b < s.heap.objs.size → b ≠ s.heap.objs.size := fun h => Nat.ne_of_lt h
  refine zs_ext (A := A) (s := { s with heap := (s.heap.push { cls := .type "list", data := .seq #[] }).update s.heap.objs.size (Obj.mapSeq (fun _ => (#[] : Array Value))) }) (R := fun r s' => _) S D1 D2 (oth _ _ (ne lz) hz) (oth _ _ (ne lTI) hTI) (oth _ _ (ne lTO) hTO)
    (D1.frame _ _ _ st1 fun b hb o e => oth b o (ne (f1 b hb)) e) (D2.frame _ _ _ st2 fun b hb o e => oth b o (ne (f2 b hb)) e) (by exact ⟨Nat.lt_of_lt_of_le (Nat.lt_succ_of_lt lz) (Nat.le_of_eq hsz.symm), Nat.lt_of_lt_of_le (Nat.lt_succ_of_lt lTO) (Nat.le_of_eq hsz.symm), Nat.lt_of_lt_of_le (Nat.lt_succ_of_lt hi.1) (Nat.le_of_eq hsz.symm), Nat.lt_of_lt_of_le (Nat.lt_succ_of_lt hi.2) (Nat.le_of_eq hsz.symm)⟩) ⟨(ne lz).symm, (ne lTI).symm, (ne lTO).symm⟩ ⟨(ne hi.1).symm, (ne hi.2).symm⟩ (fun h => absurd (f1 _ h) (Nat.lt_irrefl _)) (fun h => absurd (f2 _ h) (Nat.lt_irrefl _)) hn hmin .none hS₂ ?_
  intro h' tk acc c as hk hS' hl hG hacc
  refine ⟨rfl, hQ h' tk acc c as (fun b o h1 h2 h3 h4 e => hk b o (Nat.ne_of_lt (Heap.lt_size e)) h1 h2 h3 h4 (oth b o (Nat.ne_of_lt (Heap.lt_size e)) e)) hS' hl ?_ hacc⟩
  rw [← hsz]; exact hG
end
theorem sep_of {n l1 l2 : Nat} (h1 : l1 < n) (h2 : l2 < n) : ZipSep2 (n + 4) (n + 2) (n + 3) n (n + 1) [n, l1] [n + 1, l2] where
  TIz := by intro e; exact absurd e (by show ¬ (n + 2 = n + 4); omega)
  TOz := by intro e; exact absurd e (by show ¬ (n + 3 = n + 4); omega)
  TITO := by intro e; exact absurd e (by show ¬ (n + 2 = n + 3); omega)
  TIi1 := by intro e; exact absurd e (by show ¬ (n + 2 = n); omega)
  mem1 := by simp
  zf1 := by
    intro e
    rcases List.mem_cons.mp e with e | e
    · exact absurd e (by show ¬ (n + 4 = n); omega)
    · exact absurd (List.mem_singleton.mp e) (by show ¬ (n + 4 = l1); omega)
  Tf1 := by
    intro e
    rcases List.mem_cons.mp e with e | e
    · exact absurd e (by show ¬ (n + 3 = n); omega)
    · exact absurd (List.mem_singleton.mp e) (by show ¬ (n + 3 = l1); omega)
  TIi2 := by intro e; exact absurd e (by show ¬ (n + 2 = n + 1); omega)
  mem2 := by simp
  zf2 := by
    intro e
    rcases List.mem_cons.mp e with e | e
    · exact absurd e (by show ¬ (n + 4 = n + 1); omega)
    · exact absurd (List.mem_singleton.mp e) (by show ¬ (n + 4 = l2); omega)
  Tf2 := by
    intro e
    rcases List.mem_cons.mp e with e | e
    · exact absurd e (by show ¬ (n + 3 = n + 1); omega)
    · exact absurd (List.mem_singleton.mp e) (by show ¬ (n + 3 = l2); omega)
  sep1_2 := by
    intro e
    rcases List.mem_cons.mp e with e | e
    · exact absurd e (by show ¬ (n = n + 1); omega)
    · exact absurd (List.mem_singleton.mp e) (by show ¬ (n = l2); omega)
  sep2_1 := by
    intro e
    rcases List.mem_cons.mp e with e | e
    · exact absurd e (by show ¬ (n + 1 = n); omega)
    · exact absurd (List.mem_singleton.mp e) (by show ¬ (n + 1 = l1); omega)
def zipD (xs ys : List D) : List D := (xs.zip ys).map fun p => .tup [p.1, p.2]
def wLZ (a : WA) : WE := fun G ρ m Z P => a G ρ m Z fun ds m1 => match ds with
  | [.tup xs, .tup ys] => ∀ p, Fr m1 p → P (.ref p) (m1.set p (.lst (zipD xs ys)))
  | [.ref a, .ref b] => ∃ xs ys, okL a xs m1 ∧ okL b ys m1 ∧ ∀ p, Fr m1 p → P (.ref p) (m1.set p (.lst (zipD xs ys)))
  | _ => False
theorem vals_refs : ∀ as : List Addr, Vals (as.map V.ref) (as.map Value.ref)
  | [] => .nil
  | _ :: as => .cons rfl (vals_refs as)
theorem tup_sup {K : PySem.W.Frag} {H H2 : Hp} (g : ∀ b o, H b = some o → H2 b = some o) : TupLe K H H2 := ⟨fun a xs h => by
  rcases h with (h | ⟨ob, h⟩) | h
  · exact .inl (.inl (g _ _ h))
  · exact .inl (.inr ⟨ob, g _ _ h⟩)
  · exact .inr h, fun a xs h => by
  rcases h with ⟨ob, h⟩ | h
  · exact .inl ⟨ob, g _ _ h⟩
  · exact .inr h⟩
theorem RO.sup {K : PySem.W.Frag} {H H2 : Hp} {M : Mo} {a : Addr} {u : O} (g : ∀ b o, H b = some o → H2 b = some o) (h : RO K H M a u) : RO K H2 M a u := by
  cases u with
  | lst xs => obtain ⟨vs, e, r⟩ := h; exact ⟨vs, g _ _ e, r.mono (tup_sup g)⟩
  | dK xs => obtain ⟨vs, e, r⟩ := h; exact ⟨vs, g _ _ e, r.mono (tup_sup g)⟩
  | dT xs => obtain ⟨vs, e, z1, z2, r⟩ := h; exact ⟨vs, g _ _ e, z1, z2, r.mono (tup_sup g)⟩
  | ins c fs => obtain ⟨dx, vs, e, r⟩ := h; exact ⟨dx, vs, g _ _ e, r.mono (tup_sup g)⟩
section
variable {X : Cx} {M : Mo} {G : Gam} {W : WX} {e e2 : Expr}
/-- the pairs are tracked, then the list -/
theorem zip_land {pins : List (Addr × Obj)} {σ : L2.St} {H : Hp} {s : Shared} {h' : Heap} {tk c : Nat} {L : Addr} {acc : Array Value} {as : List Addr} {xs ys : List D} {us ws : List V} {its1 its2 : List Value} {m : Mm} {Q : VK} {P : PQ}
    (I : Inv X pins σ H s) (rm : RM X.K H M m) (r1 : RDs X.K H xs us) (r2 : RDs X.K H ys ws) (v1 : Vals us its1) (v2 : Vals ws its2) (hk : ∀ b o, s.heap.get? b = some o → h'.get? b = some o) (hL : s.heap.objs.size ≤ L)
    (hl : h'.get? L = some { cls := .type "list", dict := none, data := .seq acc c, slots := #[] }) (hlen : as.length = min its1.length its2.length) (hz : as.length ≤ sizeLine)
    (mz : MadeZ (fun i v => its1.toArray[i]? = some v) (fun i v => its2.toArray[i]? = some v) (L + 1) h' as) (ha : acc.toList = as.map Value.ref) (kq : KQ (cq X M G W) m H P Q) (hp : ∀ p, Fr m p → P (.ref p) (m.set p (.lst (zipD xs ys)))) :
    EP X pins σ Q (.ref L) { s with heap := h', toks := tk } := by
  have nd : as.Nodup := List.Pairwise.imp (fun h => Nat.ne_of_lt h) mz.rise
  have hfr : ∀ a, s.heap.objs.size ≤ a → H a = none := fun a h => I.hok.fresh h
  have nL : ∀ a ∈ as, a ≠ L := fun a h => Nat.ne_of_gt (mz.above a h)
  have hLn : H L = none := hfr L hL
  have vacc : Vals (as.map V.ref) acc.toList := by
    rw [ha]
    exact vals_refs as
  have I1 : Inv X pins σ (upd H L (.lst (as.map V.ref))) { s with heap := h', toks := tk } := I.laid hk hL ⟨by rw [List.length_map]; exact hz, acc.toList, c, vacc, by rw [hl]⟩
  obtain ⟨H2, I2, g, q⟩ := L2.DX.takeT (P := fun (a : Addr) (vs : List V) => ∃ (j : Nat) (x y : V), as[j]? = some a ∧ us[j]? = some x ∧ ws[j]? = some y ∧ vs = [x, y]) I as _ I1 nd fun a haa => by
    have hab := mz.above a haa
    refine ⟨Nat.le_trans hL (Nat.le_of_succ_le hab), by rw [upd_ne (nL a haa)]; exact hfr a (Nat.le_trans hL (Nat.le_of_succ_le hab)), ?_⟩
    obtain ⟨j, hj⟩ := List.mem_iff_getElem?.mp haa
    obtain ⟨x1, x2, p1, p2, e3⟩ := mz.pairs j a hj
    have p1' : its1[j]? = some x1 := by simpa using p1
    have p2' : its2[j]? = some x2 := by simpa using p2
    have hj1 : j < us.length := by rw [v1.length]; exact (List.getElem?_eq_some_iff.mp p1').1
    have hj2 : j < ws.length := by rw [v2.length]; exact (List.getElem?_eq_some_iff.mp p2').1
    obtain ⟨y1, q1, z1⟩ := v1.get (List.getElem?_eq_getElem hj1)
    obtain ⟨y2, q2, z2⟩ := v2.get (List.getElem?_eq_getElem hj2)
    rw [p1'] at q1; cases q1
    rw [p2'] at q2; cases q2
    exact ⟨[us[j], ws[j]], ⟨j, _, _, hj, List.getElem?_eq_getElem hj1, List.getElem?_eq_getElem hj2, rfl⟩, fun H3 => ⟨by show 2 ≤ sizeLine; decide, [x1, x2], .cons z1 (.cons z2 .nil), ⟨_, e3, rfl, _, rfl⟩⟩⟩
  have zz : (zipD xs ys).length = as.length := by
    unfold zipD
    rw [List.length_map, List.length_zip, r1.length, r2.length, v1.length, v2.length, hlen]
  have rall : ∀ (H3 : Hp), (∀ a ∈ as, ∃ vs : List V, (∃ (j : Nat) (x y : V), as[j]? = some a ∧ us[j]? = some x ∧ ws[j]? = some y ∧ vs = [x, y]) ∧ H3 a = some (.tup vs)) → RDs X.K H3 xs us → RDs X.K H3 ys ws → RDs X.K H3 (zipD xs ys) (as.map V.ref) := by
    intro H3 hq r1 r2
    have gen : ∀ (k : Nat), k ≤ as.length → RDs X.K H3 ((zipD xs ys).take k) ((as.map V.ref).take k) := by
      intro k
      induction k with
      | zero => intro _; rw [List.take_zero, List.take_zero]; exact .nil
      | succ k ih =>
        intro hk'
        have hka : k < as.length := hk'
        obtain ⟨vs, ⟨j, x, y, e1, e2, e3, e4⟩, e5⟩ := hq as[k] (List.getElem_mem hka)
        have hj : j = k := by
          have hjl : j < as.length := (List.getElem?_eq_some_iff.mp e1).1
          have e6 : as[j] = as[k] := by
            have := List.getElem?_eq_getElem hjl
            rw [e1] at this
            exact (Option.some.inj this).symm
          have pw := List.pairwise_iff_getElem.mp nd
          rcases Nat.lt_trichotomy j k with hl | hl | hl
          · exact absurd e6 (pw j k hjl hka hl)
          · exact hl
          · exact absurd e6.symm (pw k j hka hjl hl)
        subst hj
        obtain ⟨dx, f1, f2⟩ := r1.get e2
        obtain ⟨dy, f3, f4⟩ := r2.get e3
        have ez : (zipD xs ys)[j]? = some (.tup [dx, dy]) := (zip_at j).1 dx dy f1 f3
        rw [List.take_add_one, List.take_add_one, ez, List.getElem?_map, List.getElem?_eq_getElem hka]
        refine (ih (Nat.le_of_lt hka)).append (.one ?_)
        simp only [RD]
        exact ⟨as[j], vs, rfl, .of e5, by rw [e4]; exact .cons f2 (.one f4)⟩
    have := gen as.length (Nat.le_refl _)
    rwa [List.take_of_length_le (by rw [zz]; exact Nat.le_refl _), List.take_of_length_le (by rw [List.length_map]; exact Nat.le_refl _)] at this
  have sup : ∀ b o, H b = some o → H2 b = some o := fun b o e => g b o (by rw [upd_ne (ne_of_none e hLn)]; exact e)
  have t : TupLe X.K H H2 := tup_sup sup
  refine ⟨.ref L, H2, I2, rfl, kq (.ref L) (m.set L (.lst (zipD xs ys))) (.ref L) H2 (by simp only [RD]) (RM.set ⟨fun a o e => (rm a o e).sup sup, rm.tabs.ext sup⟩ ⟨as.map V.ref, g L _ upd_same, rall H2 q (r1.mono t) (r2.mono t)⟩) (fun a o e k _ => ?_) (hp L (rm.fr hLn))⟩
  have ne : a ≠ L := ne_of_none e hLn
  exact ⟨sup a o e, by rw [Mm.set_ne ne]; exact k⟩
theorem qe_listzip {wa : WA} {p p2 pos pos2 : Pos} (hgl : Gl X "list") (hml : X.mg "list" = none) (hgz : Gl X "zip") (hmz : X.mg "zip" = none) (hc : X.calm = true) (ha : PA X [e, e2] (tA (cq X M G W) wa)) (hs : starEach [e, e2] X.env = (false, eval e X.env) :: starEach [e2] X.env) (hpl : (backTo pos2 (starEach [e2] X.env)).any (·.1) = false)
    (hs2 : starEach [.Call (.Name "zip" p2) [e, e2] [] pos2] X.env = (false, eval (.Call (.Name "zip" p2) [e, e2] [] pos2) X.env) :: starEach [] X.env) (hpl2 : (backTo pos (starEach [] X.env)).any (·.1) = false) :
    PE X (.Call (.Name "list" p) [.Call (.Name "zip" p2) [e, e2] [] pos2] [] pos) (tE (cq X M G W) (wLZ wa)) := by
  refine ⟨fun pins s σ H Q I ⟨ρ, m, Z, P, re, rm, h, kq, kx⟩ => ?_⟩
  refine wpAny_Call_Name_kw (ld_blt I hgl hml PyProof.Rows.boot_list ?_)
  refine PyProof.Rows.callWith_type1 ?_ hs2 hpl2
  rw [hs2]
  show wpAny _ _ (spliced ((false, eval (.Call (.Name "zip" p2) [e, e2] [] pos2) X.env) :: backTo pos (starEach [] X.env))) _ _ s
  refine Calls.spliced_cons ?_
  refine Call_ (ld_blt I hgz hmz PyProof.Rows.boot_zip (PyProof.Rows.callWith_type1 (thn (ha.run pos2 pins s σ H (fun vs H1 => ∃ ds m1, RDs X.K H1 ds vs ∧ RM X.K H1 M m1 ∧ Stp m H m1 H1 ∧ (match ds with
    | [.tup xs, .tup ys] => ∀ p, Fr m1 p → P (.ref p) (m1.set p (.lst (zipD xs ys)))
    | [.ref a, .ref b] => ∃ xs ys, okL a xs m1 ∧ okL b ys m1 ∧ ∀ p, Fr m1 p → P (.ref p) (m1.set p (.lst (zipD xs ys)))
    | _ => False)) I ⟨ρ, m, Z, _, re, rm, h, fun ds m1 vs H1 r1 rm1 s1 h1 => ⟨ds, m1, r1, rm1, s1, h1⟩, kx⟩) fun us s1 ⟨vs, H1, I1, r1, ds, m1, rd, rm1, st1, q1⟩ => ?_) hs hpl))
  have hh : X.A.handled = none := I.ok.hd hc
  split at q1
  · rename_i xs ys
    simp only [RDs, RD] at rd
    obtain ⟨v1, r2, e1, ⟨a, us1, ea, qa, ra⟩, v2, r3, e3, ⟨b, us2, eb, qb, rb⟩, e4⟩ := rd
    subst e1 e3 e4 ea eb
    cases r1 with
    | cons ru rr =>
      cases rr with
      | cons ru2 rr2 =>
        cases rr2
        cases ru
        cases ru2
        obtain ⟨its, rv, p1, z1⟩ := I1.tuple qa
        obtain ⟨its2, rv2, p2', z2⟩ := I1.tuple qb
        have la : a < s1.heap.objs.size := by obtain ⟨_, q, _⟩ := p1; exact Heap.lt_size q
        have lb : b < s1.heap.objs.size := by obtain ⟨_, q, _⟩ := p2'; exact Heap.lt_size q
        refine RZ.call_zipT (show s1.heap.IsTuple a its.toArray from p1) (show s1.heap.IsTuple b its2.toArray from p2') fun h' hz hTI hTO h1 h2 hsz hk => ?_
        refine Calls.spliced_nil ?_
        have t1 : h'.IsTuple a its.toArray := (show s1.heap.IsTuple a its.toArray from p1).at fun o e => hk a o e
        have t2 : h'.IsTuple b its2.toArray := (show s1.heap.IsTuple b its2.toArray from p2').at fun o e => hk b o e
        have D1 := Draws.tuple (prog := X.prog) (w := X.w) (A := X.A.in1.in1.in1) hh s1.heap.objs.size a (Nat.ne_of_lt la) its.toArray
        have D2 := Draws.tuple (prog := X.prog) (w := X.w) (A := X.A.in1.in1.in1) hh (s1.heap.objs.size + 1) b (Nat.ne_of_lt (Nat.lt_succ_of_lt lb)) its2.toArray
        refine call_list_zip (n := min its.toArray.size its2.toArray.size) (s := { s1 with heap := h' }) (sep_of la lb) D1 D2 hz hTI hTO ⟨h1, t1⟩ ⟨h2, t2⟩ ⟨by rw [hsz]; exact Nat.lt_add_of_pos_right (by decide), by rw [hsz]; exact Nat.add_lt_add_left (by decide) _⟩ (fun c hcm => ?_) (fun c hcm => ?_) ?_ rfl fun h'' tk acc c as hk2 hl hlen mz hacc => ?_
        · rw [hsz]
          rcases List.mem_cons.mp hcm with e | e
          · rw [e]; exact Nat.lt_add_of_pos_right (by decide)
          · rw [List.mem_singleton.mp e]; exact Nat.lt_of_lt_of_le la (Nat.le_add_right _ _)
        · rw [hsz]
          rcases List.mem_cons.mp hcm with e | e
          · rw [e]; exact Nat.add_lt_add_left (by decide) _
          · rw [List.mem_singleton.mp e]; exact Nat.lt_of_lt_of_le lb (Nat.le_add_right _ _)
        · have := rv.length
          rw [List.size_toArray, List.size_toArray]; omega
        · have big : s1.heap.objs.size ≤ h'.objs.size := by rw [hsz]; exact Nat.le_add_right _ _
          refine zip_land (s := s1) I1 rm1 ra rb rv rv2 (fun b o e => hk2 b o ?_ ?_ ?_ ?_ (hk b o e)) big hl (by simpa using hlen) ?_ mz hacc (kq.mono st1) q1
          · exact Nat.ne_of_lt (Nat.lt_of_lt_of_le (Heap.lt_size e) (Nat.le_add_right _ _))
          · exact Nat.ne_of_lt (Nat.lt_of_lt_of_le (Heap.lt_size e) (Nat.le_add_right _ _))
          · exact Nat.ne_of_lt (Heap.lt_size e)
          · exact Nat.ne_of_lt (Nat.lt_of_lt_of_le (Heap.lt_size e) (Nat.le_add_right _ _))
          · have := rv.length
            rw [hlen, List.size_toArray, List.size_toArray]; omega
  · rename_i a b
    obtain ⟨xs, ys, ka, kb, q1⟩ := q1
    obtain ⟨v1, v2, rfl, ea, eb⟩ := rd.two_inv
    simp only [RD] at ea eb
    subst ea eb
    obtain ⟨us1, qa, ra⟩ := okL.sq ka rm1
    obtain ⟨us2, qb, rb⟩ := okL.sq kb rm1
    cases r1 with
    | cons ru rr =>
      cases rr with
      | cons ru2 rr2 =>
        cases rr2
        cases ru
        cases ru2
        obtain ⟨its, rv, p1, z1⟩ := I1.list qa
        obtain ⟨its2, rv2, p2', z2⟩ := I1.list qb
        have la : a < s1.heap.objs.size := p1.lt
        have lb : b < s1.heap.objs.size := p2'.lt
        refine call_zip_2 p1.isList p2'.isList fun h' hz hTI hTO h1 h2 hsz hk => ?_
        refine Calls.spliced_nil ?_
        have t1 : h'.IsList a its.toArray := p1.isList.at fun o e => hk a o e
        have t2 : h'.IsList b its2.toArray := p2'.isList.at fun o e => hk b o e
        have D1 := Draws.list (prog := X.prog) (w := X.w) (A := X.A.in1.in1.in1) hh s1.heap.objs.size a (Nat.ne_of_lt la) its.toArray
        have D2 := Draws.list (prog := X.prog) (w := X.w) (A := X.A.in1.in1.in1) hh (s1.heap.objs.size + 1) b (Nat.ne_of_lt (Nat.lt_succ_of_lt lb)) its2.toArray
        refine call_list_zip (n := min its.toArray.size its2.toArray.size) (s := { s1 with heap := h' }) (sep_of la lb) D1 D2 hz hTI hTO ⟨h1, t1⟩ ⟨h2, t2⟩ ⟨by rw [hsz]; exact Nat.lt_add_of_pos_right (by decide), by rw [hsz]; exact Nat.add_lt_add_left (by decide) _⟩ (fun c hcm => ?_) (fun c hcm => ?_) ?_ rfl fun h'' tk acc c as hk2 hl hlen mz hacc => ?_
        · rw [hsz]
          rcases List.mem_cons.mp hcm with e | e
          · rw [e]; exact Nat.lt_add_of_pos_right (by decide)
          · rw [List.mem_singleton.mp e]; exact Nat.lt_of_lt_of_le la (Nat.le_add_right _ _)
        · rw [hsz]
          rcases List.mem_cons.mp hcm with e | e
          · rw [e]; exact Nat.add_lt_add_left (by decide) _
          · rw [List.mem_singleton.mp e]; exact Nat.lt_of_lt_of_le lb (Nat.le_add_right _ _)
        · have := rv.length
          rw [List.size_toArray, List.size_toArray]; omega
        · have big : s1.heap.objs.size ≤ h'.objs.size := by rw [hsz]; exact Nat.le_add_right _ _
          refine zip_land (s := s1) I1 rm1 ra rb rv rv2 (fun b o e => hk2 b o ?_ ?_ ?_ ?_ (hk b o e)) big hl (by simpa using hlen) ?_ mz hacc (kq.mono st1) q1
          · exact Nat.ne_of_lt (Nat.lt_of_lt_of_le (Heap.lt_size e) (Nat.le_add_right _ _))
          · exact Nat.ne_of_lt (Nat.lt_of_lt_of_le (Heap.lt_size e) (Nat.le_add_right _ _))
          · exact Nat.ne_of_lt (Heap.lt_size e)
          · exact Nat.ne_of_lt (Nat.lt_of_lt_of_le (Heap.lt_size e) (Nat.le_add_right _ _))
          · have := rv.length
            rw [hlen, List.size_toArray, List.size_toArray]; omega
  · exact q1.elim
theorem x_lz {Lw : Law} (C : Ctx Lw X M G) (j k : Nat) {wa : WA} {p p2 pos pos2 : Pos} (ha : PA X [e, e2] (tA (cq X M G W) wa)) (hj : Lw.fa[j]? = some (.free "list") := by rfl) (hk : Lw.fa[k]? = some (.free "zip") := by rfl) (hgl : Gl X "list" := by rfl) (hgz : Gl X "zip" := by rfl) (hs : starEach [e, e2] X.env = (false, eval e X.env) :: starEach [e2] X.env := by rfl) (hpl : (backTo pos2 (starEach [e2] X.env)).any (·.1) = false := by rfl)
    (hs2 : starEach [.Call (.Name "zip" p2) [e, e2] [] pos2] X.env = (false, eval (.Call (.Name "zip" p2) [e, e2] [] pos2) X.env) :: starEach [] X.env := by rfl) (hpl2 : (backTo pos (starEach [] X.env)).any (·.1) = false := by rfl) :
    PE X (.Call (.Name "list" p) [.Call (.Name "zip" p2) [e, e2] [] pos2] [] pos) (tE (cq X M G W) (wLZ wa)) :=
  qe_listzip hgl (He.free_ok C.kin C.ns (C.says.d.fact j hj)) hgz (He.free_ok C.kin C.ns (C.says.d.fact k hk)) C.calm ha hs hpl hs2 hpl2
end
end Qz
set_option Elab.async false
set_option linter.all false
set_option maxRecDepth 100000
set_option maxHeartbeats 2000000
namespace Qz
open PySem PySem.Spec PyProof.Rows L2

theorem excK_of {K : PySem.W.Frag} {C : Addr} {bmB : List Value} {newId : String} (q : PySem.W.excInitIn K C bmB newId = true) : ∃ nm N qn bs bm hdct sn sub ab col dd k0 k1 k2 k3 k5,
    K.lookup C = some (excClassObj nm qn C N bs bm hdct sn sub ab col dd k0 k1 k2 k3 k5 newId) ∧ ∀ X : String, bm.contains (.type X) = bmB.contains (.type X) := by
  unfold PySem.W.excInitIn at q
  split at q
  · rename_i dd cd sl ho
    split at q
    · rename_i C' bm k0 k1 k2 k3 n k5 hm hs
      simp only [Bool.and_eq_true, beq_iff_eq, Bool.not_eq_true'] at q
      obtain ⟨⟨⟨rfl, rfl⟩, hdel⟩, ht⟩ := q
      obtain ⟨nm, bs, mro, ns, qn, hd, sn, sub, ab, col, del⟩ := cd
      dsimp only at hm hdel
      subst hm hdel
      have hsl : sl = #[k0, k1, k2, k3, some (.builtin n), k5] := by
        obtain ⟨l⟩ := sl
        simp only at hs
        rw [hs]
      subst hsl
      exact ⟨nm, ns, qn, bs, bm, hd, sn, sub, ab, col, dd, k0, k1, k2, k3, k5, ho, fun T => PySem.W.excTail_contains T _ ht⟩
    · cases q
  · cases q

/-- what the written part says of the class at C with the field f -/
structure XC (K : PySem.W.Frag) (C : Addr) (f : Str) : Prop where
  ini : PySem.W.excInitIn K C HandSPX.veTail "ValueError.__new__" = true
  kC : PySem.W.keepIn K (.ref C) = true
  exC : PySem.W.subIn K (.ref C) (.type "BaseException") = some true
  veC : PySem.W.subIn K (.ref C) (.type "ValueError") = some true
  tyC : PySem.W.typeIn K (.ref C) = some (.type "type")
  hdC : PySem.W.hasDictIn K C = true
  sa : PySem.W.findIn K (.ref C) "__setattr__" = some (some (.builtin "object.__setattr__"))
  ga : PySem.W.findIn K (.ref C) "__getattribute__" = some (some (.builtin "BaseException.__getattribute__"))
  gg : PySem.W.findIn K (.ref C) "__getattr__" = some none
  noN : PySem.W.findIn K (.ref C) f = some none
  mro : PySem.W.mroIn K C (.ref C) = some true
  opq : PySem.W.nsIn K cStatics "thirdparty.any" = some none
  sup : PySem.W.ks_superIn K C C "__init__" = some (some (.builtin "ValueError.__init__"))
  rv : ∃ cd, PySem.W.clsIn K C = some cd ∧ HandSPX.refsVE cd.mro = true
theorem xCls_ok {K : PySem.W.Frag} {C : Addr} {f : Str} (h : xCls K C f = true) : XC K C f := by
  unfold xCls at h
  obtain ⟨h1, h⟩ := ba h
  obtain ⟨h2, h⟩ := ba h
  obtain ⟨h3, h⟩ := ba h
  obtain ⟨h4, h⟩ := ba h
  obtain ⟨h5, h⟩ := ba h
  obtain ⟨h6, h⟩ := ba h
  obtain ⟨h7, h⟩ := ba h
  obtain ⟨h8, h⟩ := ba h
  obtain ⟨h9, h⟩ := ba h
  obtain ⟨h10, h⟩ := ba h
  obtain ⟨h11, h⟩ := ba h
  obtain ⟨h12, h⟩ := ba h
  obtain ⟨h13, h14⟩ := ba h
  refine ⟨h1, h2, of_decide_eq_true h3, of_decide_eq_true h4, of_decide_eq_true h5, h6, of_decide_eq_true h7, of_decide_eq_true h8, of_decide_eq_true h9, of_decide_eq_true h10, of_decide_eq_true h11, of_decide_eq_true h12, of_decide_eq_true h13, ?_⟩
  split at h14
  · rename_i cd e
    exact ⟨cd, e, h14⟩
  · cases h14
/-- the function that is its __init__ -/
structure XF (K : PySem.W.Frag) (C fI : Addr) (d : He.DefD) (file : Str) : Prop where
  iC : PySem.W.findIn K (.ref C) "__init__" = some (some (.ref fI))
  tC : PySem.W.typeIn K (.ref fI) = some (.type "function")
  fn : ∃ (oc : Value) (od : Option Addr) (doc pm : Value) (an : Option Addr) (cda : Addr) (ct : Value) (osl : Array (Option Value)) (cc : Addr),
    K.lookup fI = some ⟨oc, od, .func ⟨d.name, d.qual, d.params, .stmts d.body, d.scope, mainGlobals, [(("__class__" : Str), cc)], .none, .none, doc, pm, an, .ref cda, ct, builtinsNs⟩, osl⟩ ∧ PySem.W.codeIn K (.ref cda) d.qual = true ∧
    (∃ ccl cdd csl, K.lookup cc = some ⟨ccl, cdd, .cell (some (.ref C)), csl⟩) ∧ ∃ ccl cdd vs ccs tf, K.lookup cda = some ⟨ccl, cdd, .fields vs, ccs⟩ ∧ vs[2]? = some (.str file tf)
theorem xFun_ok {K : PySem.W.Frag} {C fI : Addr} {d : He.DefD} {file : Str} {q : XD} (hf : fI = He.ma K (He.ga K q.x) "__init__") (hd : q.d = d) (h : xFun K C fI d.qual file = true) (v : xVal K q = XD.val q) : XF K C fI d file := by
  unfold xFun at h
  obtain ⟨h1, h⟩ := ba h
  obtain ⟨h2, h⟩ := ba h
  refine ⟨of_decide_eq_true h1, of_decide_eq_true h2, ?_⟩
  unfold xVal XD.val at v
  rw [← hf, hd] at v
  split at h
  · rename_i oc od fd osl lk
    rw [lk] at v
    obtain ⟨h3, h⟩ := ba h
    obtain ⟨h4, h5⟩ := ba h
    obtain ⟨n1, n2, n3, n4, n5, n6, n7, n8, n9, n10, n11, n12, n13, n14, n15⟩ := fd
    have e2 : (some (n1, n2, n3, n4, n5, n6, n8, n9, n15) : XO) = some (d.name, d.qual, d.params, .stmts d.body, d.scope, mainGlobals, .none, .none, builtinsNs) := v
    simp only [Option.some.injEq, Prod.mk.injEq] at e2
    obtain ⟨rfl, rfl, rfl, rfl, rfl, rfl, rfl, rfl, rfl⟩ := e2
    dsimp only at h3 h4 h5
    clear h
    split at h5
    · rename_i cda
      split at h5
      · rename_i ccl cdd vs ccs lk2
        split at h5
        · rename_i z tf hv
          have ez : z = file := of_decide_eq_true h5
          subst ez
          split at h4
          · rename_i y a
            obtain ⟨h6, h7⟩ := ba h4
            have ey : y = ("__class__" : Str) := of_decide_eq_true h6
            subst ey
            split at h7
            · rename_i ccl2 cdd2 c csl2 lk3
              have ec : c = C := of_decide_eq_true h7
              subst ec
              exact ⟨oc, od, n10, n11, n12, cda, n14, osl, a, lk, h3, ⟨_, _, _, lk3⟩, _, _, vs, _, tf, lk2, hv⟩
            · cases h7
          · cases h4
        · cases h5
      · cases h5
    · cases h5
  · cases h
/-- what the text of such an __init__ is -/
structure XT (P : Program) (d : He.DefD) (f file : Str) : Prop where
  bd : ∃ p0 p1 p2 p3 p4 p5 q1 q2 q3 q4 : Pos, d.body = [.Expr (.Call (.Attribute (.Call (.Name "super" p0) [] [] p1) "__init__" p2) [.Name f p3] [] p4) p5, .Assign [.Attribute (.Name "self" q1) f q2] (.Name f q3) q4] ∧
    ∀ env : Env, ∃ pl, eval (.Call (.Attribute (.Call (.Name "super" p0) [] [] p1) "__init__" p2) [.Name f p3] [] p4) env = (do
      let ov ← attributeBase (.Call (.Name "super" p0) [] [] p1) "__init__" env (eval (.Call (.Name "super" p0) [] [] p1) env)
      standAt p2.atName
      let (g, first) ← holding [ov] (getMethod ov "__init__" pl)
      callWith p4 g first (backTo p4 (starEach [.Name f p3] env)) [])
  bi : ∀ (fd : FuncData) (a v : Value), fd.params = d.params → fd.defaults = .none → fd.kwdefaults = .none → bindArgs fd ⟨[a, v], []⟩ = pure [(("self" : Str), a), (f, v)]
  hp : ∃ ar, (d.params.posonlyargs ++ d.params.args).head? = some ar ∧ ar.arg = ("self" : Str)
  k : d.scope.kind = .function
  co : d.scope.isCoroutine = false
  gen : d.scope.isGenerator = false
  cell : ∀ x ∈ d.scope.names, x.2 ≠ .cell
  ls : d.scope.names.lookup ("self" : Str) = some .local
  lf : d.scope.names.lookup f = some .local
  lp : d.scope.names.lookup ("super" : Str) = some .globalImplicit
  lc : d.scope.names.lookup ("__class__" : Str) = some .free
  ne : f ≠ ("self" : Str)
  db : (f == ("__debug__" : Str)) = false
  dc : (f == ("__classdict__" : Str)) = false
  fl : ((P.main.file : Str) == file) = true
  top : (P.main.scope.names.lookup ("super" : Str)).isSome = false
theorem one_size (v : Value) : [v].length ≤ sizeLine := by
  rw [sizeLine_eq]
  exact (by decide : 1 ≤ 16777216)
/-- what __init__ leaves of a fresh exception at x -/
structure InitEnd (h h' : Heap) (x C dx t1 : Addr) (f : Str) (v : Value) : Prop where
  keep : ∀ b o, b ≠ x → h.get? b = some o → h'.get? b = some o
  obj : h'.get? x = some { cls := .ref C, dict := some dx, data := .fields #[.ref t1, .none, .none, .none, .bool false, .none] }
  dbig : h.objs.size ≤ dx
  dne : dx ≠ x
  ns : h'.Ns1 dx (fun y => if y = f then some v else none)
/-- a made one -/
structure OwnMade (h h' : Heap) (e C d : Addr) (f : Str) (v : Value) : Prop where
  keep : ∀ b o, h.get? b = some o → h'.get? b = some o
  new : h.objs.size ≤ e
  obj : ∃ oe vs, h'.get? e = some oe ∧ oe.cls = .ref C ∧ oe.dict = some d ∧ oe.data = .fields vs ∧ vs[1]? = some .none
  dbig : h.objs.size ≤ d
  dne : d ≠ e
  ns : h'.Ns1 d (fun y => if y = f then some v else none)
section
open PySem.W PySem.Calls PySem.HandSPX
variable {prog : Program} {w : World} {A : Around} {E : Value → Shared → Prop} {h : Heap} {g : Array GenState} {d : Drawn} {t : Nat} {os : OsState}
variable {nm q : Str} {C N : Addr} {bs bm : List Value} {hdct : Bool} {sn : List Str} {sub : List Value} {ab : Bool} {col : Option Bool} {dd : Option Addr} {k0 k1 k2 k3 k5 : Option Value}
theorem call_mw {u e t0 : Addr} {rest : List Value} {Q : Value → Shared → Prop}
    (hC : h.get? C = some (excClassObj nm q C N bs bm hdct sn sub ab col dd k0 k1 k2 k3 k5 "ValueError.__new__")) (he : h.get? e = some (excO C t0)) (hu : h.get? u = some (kxs_mw "ValueError.__init__" e)) (hrest : rest.length ≤ sizeLine)
    (hq : ∀ h' t1, (∀ b o, b ≠ e → h.get? b = some o → h'.get? b = some o) → h'.get? e = some (excO C t1) → Q .none ⟨h', g, d, t, os⟩) :
    wpAny (model prog w) A (call (.ref u) rest) Q E ⟨h, g, d, t, os⟩ := by
  refine wpAny_call (codeAny_of_tree ?_)
  show wpAny _ A.in1 (callAny (.ref u) ⟨rest, []⟩) _ _ _
  simp only [callAny]
  refine wpAny_bind (wpAny_load hu ?_)
  simp only [kxs_mw, show (Value.type "method-wrapper" == Value.type "method" || Value.type "method-wrapper" == Value.type "builtin_function_or_method" || Value.type "method-wrapper" == Value.type "method-wrapper") = true by decide, if_true]
  refine KFB.if_so (by decide) ?_
  refine wpAny_bind (check_bound_init F.excBase_ValueError.toExcCallFacts hC he rfl ?_)
  refine wpAny_bind (wpAny_pure (wpAny_pure ?_))
  refine ⟨plainId_quiet F.excBase_ValueError.init.plain _, codeAny_builtin F.excBase_ValueError.initEntry ?_⟩
  rw [Around.under_plainId F.excBase_ValueError.init.plain _]
  refine exc_init_tree (cls := .ref C) (t0 := t0) (dv := none) (c2 := .none) (c3 := .none) (b4 := .bool false) he hrest fun h' k e' t' => ?_
  exact hq h' _ k e'
variable {R : Result → Shared → Prop} {s : Shared} {K : Frag} {mg : Str → Option Value} {fI : Addr} {df : He.DefD} {f file : Str}
theorem ldF {M : Model} {s : Shared} {env : Env} {A : Around} {E : Value → Shared → Prop} {m : Str → Option Value} {x : Str} {pos : Pos} {v : Value} {Q : Value → Shared → Prop} (hn : s.heap.Ns env.locals m) (hv : m x = some v) (hk : env.scope.kind = .function) (hl : env.kindOf x = some .local) (hd : (x == ("__debug__" : Str)) = false) (h : Q v s) :
    wpAny M A (eval (.Name x pos) env) Q E s := wpAny_Name (wpAny_loadName_local hk hl hn hv h) hd
theorem x_init (T : XC K C f) (F1 : XF K C fI df file) (D : XT prog df f file) {x t0 : Addr} {v : Value} (X : K.In s.heap) (hg : s.heap.Ns mainGlobals mg) (hsup : mg "super" = none) (hblt : ∃ mb, s.heap.Ns builtinsNs mb ∧ ∀ x : Str, x ≠ "__name__" → mb x = bootBuiltins x) (hlim : s.heap.NoLimit)
    (hx : s.heap.get? x = some (excO C t0)) (hnx : K.lookup x = none) (hroom : A.depth < recursionLimit) (hq : ∀ h' tk dx t1, InitEnd s.heap h' x C dx t1 f v → R (.ok (.ret .none)) { s with heap := h', toks := tk }) :
    codeAny (model prog w) A (.call (.ref fI) ⟨[.ref x, v], []⟩) R s := by
  obtain ⟨oc, od, doc, pm, an, cda, ct, osl, cc, ho, hcd, ⟨ccl, cdd, csl, hcc⟩, ccl2, cdd2, vs, ccs, tf, hcda, hvs⟩ := F1.fn
  obtain ⟨p0, p1, p2, p3, p4, p5, q1, q2, q3, q4, hb, hmc⟩ := D.bd
  obtain ⟨ar, har, hself⟩ := D.hp
  obtain ⟨nm, N, qn, bs, bm, hdct, sn, sub, ab, col, dd, k0, k1, k2, k3, k5, hC, hT⟩ := excK_of T.ini
  obtain ⟨cd, hcl, hrv⟩ := T.rv
  obtain ⟨mb, hbn, hbb⟩ := hblt
  have hxC : x ≠ C := fun z => by
    have := X _ _ hC
    rw [← z, hx] at this; cases this
  have hhd : cd.hasDict = true := by
    have z := T.hdC
    unfold hasDictIn at z
    rw [hcl] at z
    exact z
  obtain ⟨hp, g, dr, tk, os⟩ := s
  refine ks_codeAny_call_defAt (binds := [(("self" : Str), .ref x), (f, v)]) hroom (X _ _ ho) rfl hlim (codeRec_of X hcd) rfl (BindsTo.of_eq (D.bi _ _ _ rfl rfl rfl)) D.cell (fun y hy => ?_) (fun h₁ hns kp => ?_) D.co D.gen D.k
  · rcases List.mem_cons.mp hy with e | e
    · rw [e]; exact D.ls
    · rw [List.mem_singleton.mp e]; exact D.lf
  rw [hb]
  have X₁ : K.In h₁ := X.keeps kp
  have hx₁ := kp _ _ hx
  have hC₁ := X₁ _ _ hC
  have vself : (fun y : Str => List.lookup y (List.reverse [(("self" : Str), Value.ref x), (f, v)])) ("self" : Str) = some (.ref x) := by
    show List.lookup ("self" : Str) [(f, v), (("self" : Str), Value.ref x)] = some (.ref x)
    have e : (("self" : Str) == f) = false := by simpa using Ne.symm D.ne
    simp [List.lookup, e]
  have vf : (fun y : Str => List.lookup y (List.reverse [(("self" : Str), Value.ref x), (f, v)])) f = some v := by
    show List.lookup f [(f, v), (("self" : Str), Value.ref x)] = some v
    simp [List.lookup]
  have hint : ∀ env : Env, env.scope = df.scope → interactive env = false := fun env he => by
    unfold interactive
    rw [he, D.k]
    rfl
  obtain ⟨pl, hmc⟩ := hmc (callEnv ⟨df.name, df.qual, df.params, .stmts df.body, df.scope, mainGlobals, [(("__class__" : Str), cc)], .none, .none, doc, pm, an, .ref cda, ct, builtinsNs⟩ hp.objs.size fI)
  rw [hb] at hmc
  refine ks_wpAt_execs_cons (ks_wpAt_Expr_any (ks_wpAt_MethodCall (pl := pl) ?_ hmc) (hint _ rfl) rfl)
  refine ks_wpAt_super_base D.lp D.lc (by decide) rfl (X₁ _ _ ho) rfl har rfl (X₁ _ _ hcda) rfl hvs D.fl D.top ?_
  refine ks_loadName_global D.k D.lp (loadGlobal_builtin (hg.keeps kp) hsup (hbn.keeps kp) ((hbb _ (by decide +kernel)).trans (show bootBuiltins "super" = some (.type "super") by decide +kernel)) ⟨rfl, ?_⟩)
  refine wpAny_loadName_free D.k D.lc rfl ⟨_, X₁ _ _ hcc, rfl⟩ ?_
  rw [hself]
  refine wpAny_loadName_local D.k D.ls hns vself ?_
  refine ks_wpAny_isType_cls hC₁ rfl ⟨rfl, ?_⟩
  refine ks_wpAny_call_super hC₁ rfl hx₁ rfl (fun c z => by cases z) (looks_mroIn X₁ T.mro) (fun h₂ e₂ k₂ => ?_)
  have X₂ : K.In h₂ := X₁.keeps k₂
  have hx₂ := k₂ _ _ hx₁
  have hm := T.sup
  unfold ks_superIn at hm
  rw [hcl] at hm
  have I₂ : InstAt h₂ x (excO C t0) C none := ⟨hx₂, rfl, rfl, trivial⟩
  have hI : Looks (model prog w) h₂ (isInstance (.ref x) (.type "ValueError")) true := I₂.type.andThen (looks_subIn X₂ T.veC)
  refine kxs_getMethod kxs_ValueError e₂ (looks_opaque X₂ T.opq) (l₀ := cd.mro) ?_ rfl X₂ hm hI hxC rfl ?_
  · exact fun A Q E s k q => wpAny_bind ((looks_clsIn X₂ hcl) A _ E s k (wpAny_pure q))
  have k₃ : ∀ b o, h₂.get? b = some o → (h₂.push (kxs_mw "ValueError.__init__" x)).get? b = some o := fun b o e => Heap.get?_push_of_some _ e
  have hu : (h₂.push (kxs_mw "ValueError.__init__" x)).get? h₂.objs.size = some (kxs_mw "ValueError.__init__" x) := Heap.get?_push_size _ rfl
  have hn₃ := (hns.keeps k₂).keeps k₃
  show wpAny _ _ (callWith p4 (.ref h₂.objs.size) [] (backTo p4 (starEach [.Name f p3] _)) []) _ _ _
  refine kxs_callWith (i := "ValueError.__init__") (x := x) rfl (evalArgs_plain ?_)
  show wpAny _ _ (spliced ((false, eval (.Name f p3) _) :: backTo p4 (starEach [] _))) _ _ _
  refine Calls.spliced_cons (ldF hn₃ vf D.k D.lf D.db (Calls.spliced_nil ⟨hu, ?_⟩))
  refine call_mw (k₃ _ _ (k₂ _ _ hC₁)) (k₃ _ _ hx₂) hu (one_size v) fun h₄ t1 k₄ e₄ => ?_
  have hxL : hp.objs.size ≠ x := Nat.ne_of_gt (Heap.lt_size hx)
  have hn₄ : h₄.Ns hp.objs.size (fun y : Str => List.lookup y (List.reverse [(("self" : Str), Value.ref x), (f, v)])) := let ⟨o, es, ep, e, r⟩ := hn₃; ⟨o, es, ep, k₄ _ _ hxL e, r⟩
  have X₄ : K.In h₄ := fun a o e => k₄ a o (fun z => by rw [z, hnx] at e; cases e) (X₂.keeps k₃ a o e)
  refine wpAt_of_wpAny (wpAny_execs_cons (plainObj_wpAny_Assign_Attribute ?_))
  refine ldF hn₄ vf D.k D.lf D.db (ldF hn₄ vself D.k D.ls (by decide) ?_)
  refine set_plain X₄ (ox := excO C t1) (od := none) ⟨e₄, rfl, rfl, trivial⟩ T.sa ?_
  refine exc_osa X₄ e₄ hcl hrv hhd T.noN (fun h₅ tk₅ dx k₅ dn dne hx₅ hn₅ => ?_)
  show wpAny _ _ (execs [] _) _ _ _
  have old : ∀ b o, b ≠ x → hp.get? b = some o → h₅.get? b = some o := fun b o hb e => k₅ b o hb (k₄ b o hb (k₃ b o (k₂ b o (kp b o e))))
  have z4 : hp.objs.size < h₄.objs.size := by obtain ⟨o, es, ep, e, _⟩ := hn₄; exact Heap.lt_size e
  exact wpAny_execs_nil (hq h₅ tk₅ dx t1 ⟨old, hx₅, Nat.le_of_lt (Nat.lt_of_lt_of_le z4 dn), dne, hn₅⟩)
theorem x_made (T : XC K C f) (F1 : XF K C fI df file) (D : XT prog df f file) {v : Value} (X : K.In s.heap) (hg : s.heap.Ns mainGlobals mg) (hsup : mg "super" = none) (hblt : ∃ mb, s.heap.Ns builtinsNs mb ∧ ∀ x : Str, x ≠ "__name__" → mb x = bootBuiltins x) (hlim : s.heap.NoLimit) (hroom : A.depth + 1 < recursionLimit)
    (hq : ∀ h' tk e d, OwnMade s.heap h' e C d f v → R (.ok (.ret (.ref e))) { s with heap := h', toks := tk }) :
    codeAny (model prog w) A (.call (.ref C) ⟨[v], []⟩) R s := by
  obtain ⟨nm, N, qn, bs, bm, hdct, sn, sub, ab, col, dd, k0, k1, k2, k3, k5, hC, hT⟩ := excK_of T.ini
  obtain ⟨hp, g, dr, tk, os⟩ := s
  have k : ∀ b o, hp.get? b = some o → ((hp.push (kdv_tup [v])).push (excO C hp.objs.size)).get? b = some o := fun b o e => Heap.get?_push_of_some _ (Heap.get?_push_of_some _ e)
  have hget : ((hp.push (kdv_tup [v])).push (excO C hp.objs.size)).get? (hp.objs.size + 1) = some (excO C hp.objs.size) := by heap_get
  have hnx : K.lookup (hp.objs.size + 1) = none := by
    cases e : K.lookup (hp.objs.size + 1) with
    | none => rfl
    | some o =>
      have z : hp.get? (hp.objs.size + 1) = some o := X _ _ e
      exact absurd (Nat.lt_of_succ_lt (Heap.lt_size z)) (Nat.lt_irrefl _)
  refine call_own F.excBase_ValueError hT (X _ _ hC) (looks_findIn X F1.iC) (fun self => bind_fn X self F1.tC) (one_size v) ?_
  obtain ⟨mb, hb1, hb2⟩ := hblt
  refine x_init (s := ⟨(hp.push (kdv_tup [v])).push (excO C hp.objs.size), g, dr, tk, os⟩) T F1 D (X.keeps k) (hg.keeps k) hsup ⟨mb, hb1.keeps k, hb2⟩ (hlim.keeps k) hget hnx ?_ fun h' tk' dx t1 ⟨k', hx, dn, dne, hns⟩ => ?_
  · show A.depth + 1 < recursionLimit
    exact hroom
  · have old : ∀ b o, hp.get? b = some o → h'.get? b = some o := fun b o e => k' b o (Nat.ne_of_lt (Nat.lt_succ_of_lt (Heap.lt_size e))) (k b o e)
    have z : hp.objs.size + 1 + 1 ≤ dx := by
      first
        | (simpa only [Heap.size_push] using dn)
        | exact dn
        | (have q := dn; rw [Heap.size_push, Heap.size_push] at q; exact q)
    exact ⟨rfl, hq h' tk' (hp.objs.size + 1) dx ⟨old, Nat.le_succ _, ⟨_, _, hx, rfl, rfl, rfl, rfl⟩, Nat.le_trans (Nat.le_trans (Nat.le_succ _) (Nat.le_succ _)) z, dne, hns⟩⟩
end
end Qz
set_option Elab.async false
set_option linter.all false
set_option maxRecDepth 100000
set_option maxHeartbeats 2000000
namespace Qz
open PySem PySem.Spec PyProof.Rows L2
theorem relO_one {f : Str} {v : V} {v' : Value} (r : RelV v v') (y : Str) : RelO (List.lookup y [(f, v)]) (if y = f then some v' else none) := by
  by_cases hw : y = f
  · subst hw
    rw [if_pos rfl]
    have q : List.lookup y [(y, v)] = some v := by simp [List.lookup]
    rw [q]
    exact r
  · rw [if_neg hw]
    have qw : (y == f) = false := by simpa using hw
    have q2 : List.lookup y [(f, v)] = none := by simp [List.lookup, qw]
    rw [q2]
    trivial
section
variable {Lw : Law} {X : Cx} {M : Mo} {G : Gam} {W : WX}
/-- X(e) makes an exception -/
theorem pmk_x {q : XD} {a : Expr} {ta : TA} {p pos : Pos} {k : Nat} (T : XC X.K (He.ga X.K q.x) q.f) (F1 : XF X.K (He.ga X.K q.x) (He.ma X.K (He.ga X.K q.x) "__init__") q.d q.file) (D : XT X.prog q.d q.f q.file) (hgx : X.mg q.x = some (.ref (He.ga X.K q.x))) (hsup : X.mg "super" = none) (hr : Room k X.A)
    (ha : PA X [a] ta) (hg : Gl X q.x) (hdb : (q.x == ("__debug__" : Str)) = false) (he : starEach (a :: []) X.env = (false, eval a X.env) :: starEach [] X.env) (hpl : (backTo pos (starEach [] X.env)).any (·.1) = false) :
    PMk X (.Call (.Name q.x p) [a] [] pos) fun σ H Q => ta σ H fun vs H1 => ∃ v, vs = [v] ∧ ∀ d, H1 d = none → Q (.ref (He.ga X.K q.x)) (some d) (upd H1 d (.xd [(q.f, v)])) := by
  intro pins s σ H Q I h
  refine wpAny_Call_Name_kw (ld_glob I hg hgx ?_ hdb)
  refine PySem.W.callWith_K (h₀ := X.base) I.ok.mod.kin T.kC (thn (ha.run pos pins s σ H _ I h) fun us s1 hh => ?_) he hpl
  obtain ⟨vs, H1, I1, r1, v, ev, q1⟩ := hh
  subst ev
  refine ⟨I1.kIn, ?_⟩
  cases r1 with
  | cons rv rn =>
    rename_i v' us'
    cases rn
    show wpAny _ _ (call (.ref (He.ga X.K q.x)) [v']) _ _ _
    have hlim := I1.nolimit
    have hgl := I1.ok.mod.glob.keeps I1.bk
    obtain ⟨mb, hb1, hb2⟩ := I1.ok.mod.blt
    have hb1' := hb1.keeps I1.bk
    obtain ⟨hp, g, dr, tk, os⟩ := s1
    refine wpAny_call (x_made T F1 D I1.kIn hgl hsup ⟨mb, hb1', hb2⟩ hlim (by have := hr.dp; omega) fun h' tk' e d M => ?_)
    show MkP X pins σ Q (.ref e) ⟨h', g, dr, tk', os⟩
    obtain ⟨oe, fv, hoe, hc, hd, hdat, h1⟩ := M.obj
    have hns := M.ns
    obtain ⟨G', g1, g2⟩ := restrict h' fun b => decide (b ≠ e)
    have gk : ∀ b, b ≠ e → G'.get? b = h'.get? b := fun b hb => g1 b (decide_eq_true hb)
    have ge : G'.get? e = none := g2 e (by simp)
    have old : ∀ b o, hp.get? b = some o → G'.get? b = some o := fun b o q => (gk b (Nat.ne_of_lt (Nat.lt_of_lt_of_le (Heap.lt_size q) M.new))).trans (M.keep b o q)
    have ob : ObjOk X.prog X.w (upd H1 d (.xd [(q.f, v)])) G' d (.xd [(q.f, v)]) :=
      ⟨_, hns.at (fun o q => (gk d M.dne).trans q), fun f => relO_one rv f⟩
    have J : Inv X pins σ (upd H1 d (.xd [(q.f, v)])) ⟨G', g, dr, tk', os⟩ := I1.laid (t' := tk') old M.dbig ob
    refine ⟨e, oe, fv, ⟨G', g, dr, tk', os⟩, _, .ref (He.ga X.K q.x), some d, rfl, J, fun b o q => ?_, ge, hoe, ⟨hc, hd⟩, hdat, h1, ?_, rfl, I1.bare, raises_own T.exC T.tyC, q1 d (I1.hok.fresh M.dbig)⟩
    · by_cases hb : b = e
      · have q' : G'.get? b = some o := q
        rw [hb, ge] at q'; cases q'
      · exact (gk b hb).symm.trans q
    · rw [upd_ne (Ne.symm M.dne)]
      exact I1.hok.fresh M.new
/-- raise X(e) -/
def wRaise (c : Nat) (f : Str) (a : WA) : WS := fun G P ρ m => a G ρ m (fun x m' => P.xx x ρ m') fun xs m1 => ∃ v, xs = [v] ∧ P.xx ⟨c, [(f, v)]⟩ ρ m1
theorem Ctx.xc (C : Ctx Lw X M G) {i : Nat} {q : XD} (h : Lw.xs[i]? = some q) : XC X.K (He.ga X.K q.x) q.f ∧ XF X.K (He.ga X.K q.x) (He.ma X.K (He.ga X.K q.x) "__init__") q.d q.file := by
  obtain ⟨h1, h2⟩ := ba (C.says.exn i h)
  exact ⟨xCls_ok h1, xFun_ok rfl rfl h2 (C.says.exv i h)⟩
theorem qs_raise {q : XD} {c i j js : Nat} {a : Expr} {wa : WA} {p pos pos2 : Pos} (C : Ctx Lw X M G) (tk : Takes X W) (hi : Lw.xs[i]? = some q) (D : XT X.prog q.d q.f q.file) (hj : Lw.fa[j]? = some (.glo q.x)) (hjs : Lw.fa[js]? = some (.free "super")) (hc : Lw.cl[c]? = some q.x)
    (ha : PA X [a] (tA (cq X M G W) wa)) (hg : Gl X q.x) (hdb : (q.x == ("__debug__" : Str)) = false) (he : starEach (a :: []) X.env = (false, eval a X.env) :: starEach [] X.env) (hpl : (backTo pos (starEach [] X.env)).any (·.1) = false) :
    PS X (.Raise (some (.Call (.Name q.x p) [a] [] pos)) none pos2) (tS (cq X M G W) (wRaise c q.f wa)) := by
  obtain ⟨k, hr, _⟩ := C.lv
  obtain ⟨T, F1⟩ := C.xc hi
  refine PS.imp (ps_raise C.calm tk (pmk_x T F1 D (He.glo_ok C.kin C.ns (C.says.d.fact j hj)) (He.free_ok C.kin C.ns (C.says.d.fact js hjs)) hr ha hg hdb he hpl)) fun E σ H ⟨ρ, m, P, re, rm, h, kp⟩ => ?_
  refine ⟨ρ, m, _, _, re, rm, h, fun ds m1 vs H1 rds rm1 s1 ⟨v, ev, hp⟩ => ?_, kp.2.2.2.2.at re rm⟩
  subst ev
  obtain ⟨v', r', rfl, r1, r2⟩ := (show ∃ v' r', vs = v' :: r' ∧ RD X.K H1 v v' ∧ RDs X.K H1 [] r' by simpa only [RDs] using rds)
  simp only [RDs] at r2
  subst r2
  refine ⟨v', rfl, fun d hd => ?_⟩
  have t := tup_le (K := X.K) (o := .xd [(q.f, v')]) hd
  exact kp.2.2.2.2 ⟨c, [(q.f, v)]⟩ ρ m1 (.ref (He.ga X.K q.x)) (some d) σ _ ⟨by rw [show (cq X M G W).M.cA c = He.ga X.K q.x from C.hA c q.x hc], .inr ⟨d, [(q.f, v')], rfl, upd_same, by simp only [RKV]; exact ⟨v', [], rfl, r1.mono t, rfl⟩⟩⟩ ((re.mono (s1.tups rm)).mono t) (rm1.grow hd) (s1.trans (.grow hd)) hp
end
/-- what try: a() except X as e: return e.f; return None wishes of a() -/
def TWhy (CS : Addr) (f : Str) : (XK → Hp → VK → Prop) → Hp → VK → Prop := fun tl H Q =>
  tl (fun cls d H' => cls = .ref CS ∧ ∃ (dd : Addr) (fs : List (Str × V)) (v : V), d = some dd ∧ H' dd = some (.xd fs) ∧ fs.lookup f = some v ∧ Q v H') H fun _ H' => Q .non H'
theorem why_gives {X : Cx} {Ng : List Str} {x a e q f nm : Str} {sg : Scope} {g CS : Addr} {cdg : Value} {j : Nat} {p1 p2 p3 p4 p5 p6 p7 p8 p9 p10 p11 : Pos} (hNd : Ng.Nodup) (hN1 : Ng[1]? = some e) (hle : sg.names.lookup e = some .local) (hge : sg.names.lookup nm = some .globalImplicit) (hme : X.mg nm = some (.ref CS)) (hdn : (nm == ("__debug__" : Str)) = false)
    (hde : (e == ("__debug__" : Str)) = false) (hce : (e == ("__classdict__" : Str)) = false) (T : XC X.K CS f) (te : PySem.W.exmOne X.K (.ref CS) (.ref CS) = some true) (h0 : ∀ k : Addr, (L2.start Ng [V.ref k])[0]? = some (some (V.ref k))) :
    LamX.GivesTo X Ng x sg g cdg [.Try [.Expr (.Call (.Name a p1) [] [] p2) p3] [.ExceptHandler (some (.Name nm p4)) (some e) [.Return (some (.Attribute (.Name e p5) f p6)) p7] p8] [] [] p9, .Return (some (.Constant .none j p10)) p11] a q (TWhy CS f) := by
  intro k c' s H Q tl act hc h
  have hgl : Gl (cxOf C8.CX0 X.prog X.w X.K X.mg X.base Ng x sg g cdg X.A X.stack s H C8.E0).nox nm := hge
  have xf : XfC X.K CS := ⟨T.ga, T.gg, T.exC, T.hdC⟩
  have hv : ∀ (a : Addr) (oe : Obj) (pn : List (Addr × Obj)), PE ((cxOf C8.CX0 X.prog X.w X.K X.mg X.base Ng x sg g cdg X.A X.stack s H C8.E0).nox.suite a ((a, oe) :: pn)) (.Name e p5) (tVar 1) := fun a oe pn => pe_var (X := (cxOf C8.CX0 X.prog X.w X.K X.mg X.base Ng x sg g cdg X.A X.stack s H C8.E0).nox.suite a ((a, oe) :: pn)) (i := 1) hN1 (.inl hle) hde hce
  have hx : ∀ (a : Addr) (oe : Obj) (cls : Value) (d : Option Addr) (pn : List (Addr × Obj)), Zc cls d oe → (∃ vs, oe.data = .fields vs) → PE ((cxOf C8.CX0 X.prog X.w X.K X.mg X.base Ng x sg g cdg X.A X.stack s H C8.E0).nox.suite a ((a, oe) :: pn)) (.Attribute (.Name e p5) f p6) (tXf a cls d CS f (tVar 1)) := fun a oe cls d pn hz hf => pe_xf (X := (cxOf C8.CX0 X.prog X.w X.K X.mg X.base Ng x sg g cdg X.A X.stack s H C8.E0).nox) xf T.noN hz hf (hv a oe pn)
  refine ⟨_, pss_cons (ps_try_as (X := (cxOf C8.CX0 X.prog X.w X.K X.mg X.base Ng x sg g cdg X.A X.stack s H C8.E0).nox) (c := .ref CS) (i := 1)
      (tb := fun W D σ H => ∃ Ech : XK, (∀ cls d σ' H', Ech cls d H' → W cls d σ' H') ∧ σ[0]? = some (some (.ref k)) ∧ H c' = some (LamX.CodeO c' q) ∧ tl Ech H fun _ H' => D.nx σ H')
      rfl rfl hNd hN1 hle ⟨hgl, hdn, .inl hme⟩ LamX.takes0 (fun W pn xe tk _ => ?_) (ts := fun a cls d D σ H => σ.length = Ng.length → tRet (tXf a cls d CS f (tVar 1)) D σ H) (fun a oe cls d pn hz hf => ⟨fun pins s σ H D I h => (pss_one (ps_ret (hx a oe cls d pn hz hf))).run pins s σ H D I (h I.len)⟩)) (pss_one (ps_ret pe_non)), ?_⟩
  · refine ⟨fun pins s' σ H' D I h' => ?_⟩
    obtain ⟨Ech, hW, h1, h2, h3⟩ := h'
    have hp := act W pn xe Ech p1 p2 tk hW
    have hq := pss_one (ps_expr (pos := p3) hp)
    exact hq.run pins s' σ H' D I ⟨h1, h2, h3⟩
  · refine ⟨fun cls d H' => cls = .ref CS ∧ ∃ (dd : Addr) (fs : List (Str × V)) (v : V), d = some dd ∧ H' dd = some (.xd fs) ∧ fs.lookup f = some v ∧ Q v H', fun cls d σ' H' hh => ?_, h0 k, hc, h⟩
    obtain ⟨ec, dd, fs, v, e1, e2, e3, e4⟩ := hh
    subst ec
    refine ⟨true, te, fun _ a ha hlen => ?_, fun z => by cases z⟩
    refine ⟨.ref a, ?_, rfl, rfl, dd, fs, v, e1, e2, e3, e4⟩
    rw [List.length_set] at hlen
    rw [List.getElem?_set_self (by rw [hlen]; exact (List.getElem?_eq_some_iff.mp hN1).1)]
/-- the text of a def x(a): try: a() except nm as e: return e.f; return None -/
structure WhyT (d : He.DefD) (Ng : List Str) (x a e nm f : Str) : Prop where
  at_ : d.at_ = (x, none)
  nm_ : d.name = x
  ql : d.qual = x
  ps : psOf d = [a]
  bd : ∃ (p1 p2 p3 p4 p5 p6 p7 p8 p9 p10 p11 : Pos) (j : Nat), d.body = [.Try [.Expr (.Call (.Name a p1) [] [] p2) p3] [.ExceptHandler (some (.Name nm p4)) (some e) [.Return (some (.Attribute (.Name e p5) f p6)) p7] p8] [] [] p9, .Return (some (.Constant .none j p10)) p11]
  N1 : Ng[1]? = some e
  le : d.scope.names.lookup e = some .local
  gn : d.scope.names.lookup nm = some .globalImplicit
  dn : (nm == ("__debug__" : Str)) = false
  de : (e == ("__debug__" : Str)) = false
  ce : (e == ("__classdict__" : Str)) = false
  dx : (x == ("__debug__" : Str)) = false
  da : (a == ("__debug__" : Str)) = false
  ca : (a == ("__classdict__" : Str)) = false
/-- x(lambda: e): None, or the field f of the exception of the class c that e lets out -/
def wWhy (c : Nat) (f : Str) (b : WE) : WE := fun G ρ m Z P => b G ρ m (fun x m' => x.c = c ∧ ∃ d, x.fs.lookup f = some d ∧ P d m') fun _ m' => P .non m'
theorem RO.ext {K : PySem.W.Frag} {H H' : Hp} {M : Mo} {a : Addr} {o : O} (e : LamX.ExtN H H') (t : TupLe K H H') (h : RO K H M a o) : RO K H' M a o := by
  cases o with
  | lst xs => obtain ⟨vs, q, r⟩ := h; exact ⟨vs, e _ _ q (fun _ z => by cases z), r.mono t⟩
  | dK xs => obtain ⟨vs, q, r⟩ := h; exact ⟨vs, e _ _ q (fun _ z => by cases z), r.mono t⟩
  | dT xs => obtain ⟨vs, q, z1, z2, r⟩ := h; exact ⟨vs, e _ _ q (fun _ z => by cases z), z1, z2, r.mono t⟩
  | ins c fs => obtain ⟨dx, vs, q, r⟩ := h; exact ⟨dx, vs, e _ _ q (fun _ z => by cases z), r.mono t⟩
theorem ExtN.tups {K : PySem.W.Frag} {H H' : Hp} (e : LamX.ExtN H H') : TupLe K H H' := ⟨fun a xs h => by
  rcases h with (h | ⟨o, h⟩) | h
  · exact .inl (.inl (e _ _ h (fun _ z => by cases z)))
  · exact .inl (.inr ⟨o, e _ _ h (fun _ z => by cases z)⟩)
  · exact .inr h, fun a xs h => by
  rcases h with ⟨o, h⟩ | h
  · exact .inl ⟨o, e _ _ h (fun _ z => by cases z)⟩
  · exact .inr h⟩
section
variable {Lw : Law} {X : Cx} {M : Mo} {G : Gam} {W : WX}
theorem qe_why {n i c jx jn je t : Nat} {d dl : He.DefD} {b : Ent} {PR : Program} {Ng : List Str} {x a e : Str} {q : XD} {qual : Str} {params : Arguments} {body : Expr} {scope : Scope} {wb : WE} {p lpos pos : Pos} (C : Ctx Lw X M G) (C3 : Lv3 Lw X M G) (hn : Lw.fn[n]? = some d) (B : BodyOk Lw PR d b) (T : WhyT d Ng x a e q.x q.f) (Sg : FnScope Ng [a] d.scope)
    (hi : Lw.xs[i]? = some q) (hc : Lw.cl[c]? = some q.x) (hjx : Lw.fa[jx]? = some (.glo x)) (hjn : Lw.fa[jn]? = some (.glo q.x)) (hje : Lw.fa[je]? = some (.exm q.x q.x true)) (ht : Lw.tf[t]? = some (dl.at_, qual)) (hq : qual = X.env.qual ++ "<lambda>") (hcode : X.env.code = .ref (He.codeOf X.K dl.at_))
    (hg : Gl X x) (hva : Vis d.scope a) (hN0 : Ng[0]? = some a) (L : LamX.LamS X.env.scope scope) (hdef : defaultsOf params X.env = ([], []))
    (hbind : ∀ (q : Str) (cl : List (Str × Addr)) (pm cv ctv : Value), bindArgs (PySem.W.kla_fn "<lambda>" q params body scope cl pm cv ctv) ⟨[], []⟩ = pure [])
    (hbody : ∀ (A : Around) (outer : List Env) (s : Shared) (H : Hp) (E : XK) (f c' : Addr) (W : WX), Ctx Lw (LamX.lamCx X A outer s H E scope f c') M G → Takes (LamX.lamCx X A outer s H E scope f c') W → PE (LamX.lamCx X A outer s H E scope f c') body (tE (cq (LamX.lamCx X A outer s H E scope f c') M G W) wb)) :
    PE X (.Call (.Name x p) [.Lambda params body scope lpos] [] pos) (tE (cq X M G W) (wWhy c q.f wb)) := by
  obtain ⟨k, hr, hF⟩ := C3
  obtain ⟨fd, F⟩ := C.says.d.def_ n hn
  have hd : d.dvs X.K = [] := by unfold He.DefD.dvs; rw [B.df.1]; rfl
  have hk : d.kws X.K = [] := by unfold He.DefD.kws; rw [B.df.2]; rfl
  rw [hd, hk] at F
  have hb := B.bi _ _ _ F
  rw [T.ps] at hb
  obtain ⟨oc, od, dV, kV, doc, pm, an, cdv, ct, osl, rfl, lk, hcd, _, _⟩ := F.ex
  obtain ⟨p1, p2, p3, p4, p5, p6, p7, p8, p9, p10, p11, j, hbd⟩ := T.bd
  rw [T.at_] at lk
  have hkp := F.kp
  rw [T.at_] at hkp
  rw [T.nm_, T.ql] at lk hb
  rw [T.ql] at hcd
  obtain ⟨T1, F1⟩ := C.xc hi
  have hgx := He.glo_ok C.kin C.ns (C.says.d.fact jx hjx)
  have hgn := He.glo_ok C.kin C.ns (C.says.d.fact jn hjn)
  have hem := He.exm_ok (C.says.d.fact je hje)
  have eC : M.cA c = He.ga X.K q.x := C.hA c q.x hc
  rw [hbd] at lk hb
  have hmem : (dl.at_, qual) ∈ Lw.tf := List.mem_of_getElem? ht
  have hmT : ((He.cT X.K dl.at_).2, X.env.qual ++ ("<lambda>" : Str)) ∈ Lw.tabs X.K := by
    rw [← hq]
    exact List.mem_map.mpr ⟨(dl.at_, qual), hmem, rfl⟩
  refine PE.imp (LamX.pe_lamcall (T := Lw.tabs X.K) (TT := TWhy (He.ga X.K q.x) q.f) (Ng := Ng) (a := a) (k := k + 1) (t := fun E => tE ⟨X.K, M, G, fun cls d _ H => E cls d H⟩ wb) hg hgx hkp lk hcd hb Sg hN0 hva
    (why_gives Sg.nd T.N1 T.le T.gn hgn T.dn T.de T.ce T1 hem (fun k' => ?_)) (C.tab _ hmem) hcode hmT (fun p hp e => C.says.tabU hp hmT e) hr L hdef hbind (fun A outer s H E f c' room => hbody A outer s H E f c' _ ⟨rfl, C.nd, C.hP, C.hw, C.hA, C.kin, C.ns, C.says, C.tab, C.mtb, k, room, hF⟩ (takes_of rfl rfl rfl rfl)) T.dx T.da T.ca) ?_
  · rfl
  rintro σ H Q ⟨ρ, m, Z, P, re, rm, h, kq, kx⟩
  have hT : LamX.Tabs (Lw.tabs X.K) H := by rw [← C.mtb]; exact rm.tabs
  refine ⟨hT, fun H1 eN T2 => ?_⟩
  have t := ExtN.tups (K := X.K) eN
  have st0 : Stp m H m H1 := fun a o h z n => ⟨eN a o h n, z⟩
  refine ⟨ρ, m, _, _, re.mono t, ⟨fun a o e => (rm a o e).ext eN t, by rw [C.mtb]; exact T2⟩, h, fun d m' v H' r rm' st hp => (kq.mono st0) .non m' .non H' (by simp only [RD]) rm' st hp, fun y m' cls dd H' rx rm' st ⟨yc, dv, lk', hp⟩ => ?_⟩
  obtain ⟨ec, hdd⟩ := rx
  refine ⟨by rw [ec, yc]; exact congrArg Value.ref eC, ?_⟩
  rcases hdd with ⟨_, e0⟩ | ⟨d', us, e1, e2, rk⟩
  · rw [e0] at lk'; cases lk'
  · rcases rk.lookup q.f with ⟨z, _⟩ | ⟨dv', v', z1, z2, z3⟩
    · rw [lk'] at z; cases z
    · rw [lk'] at z1; cases z1
      exact ⟨d', us, v', e1, e2, z2, (kq.mono st0) dv m' v' H' z3 rm' st hp⟩
end
end Qz
set_option Elab.async false
set_option linter.all false
set_option maxRecDepth 100000
set_option maxHeartbeats 2000000
namespace Qz
open PySem PySem.Spec PyProof.Rows L2
section
variable {G : Gam} {ρ : Ev} {m : Mm}
/-- evaluates to d, the memory as it was -/
def Evd (a : WE) (G : Gam) (ρ : Ev) (m : Mm) (d : D) : Prop := ∀ Z P, P d m → a G ρ m Z P
/-- evaluates to a new list -/
def Evl (a : WE) (G : Gam) (ρ : Ev) (m : Mm) (xs : List D) : Prop := ∀ Z P, (∀ p m', Fr m p → Sub (m.set p (.lst xs)) m' → P (.ref p) m') → a G ρ m Z P
def Eva (a : WA) (G : Gam) (ρ : Ev) (m : Mm) (ds : List D) : Prop := ∀ Z P, P ds m → a G ρ m Z P
/-- one argument, a new list -/
def Eval1 (a : WA) (G : Gam) (ρ : Ev) (m : Mm) (xs : List D) : Prop := ∀ Z P, (∀ p m', Fr m p → Sub (m.set p (.lst xs)) m' → P [.ref p] m') → a G ρ m Z P
def Evt (t : WT) (G : Gam) (ρ : Ev) (m : Mm) (k : Bool) : Prop := ∀ Z P, P k m → t G ρ m Z P
def Fv2 (f : F2) (x y : D) (m : Mm) (d : D) : Prop := ∀ P : PQ, P d m → f x y m P
def Fv1 (f : F1) (x : D) (m : Mm) (d : D) : Prop := ∀ P : PQ, P d m → f x m P
def FvA (f : FA) (ds : List D) (m : Mm) (d : D) : Prop := ∀ P : PQ, P d m → f ds m P
def FvAL (f : FA) (ds : List D) (m : Mm) (xs : List D) : Prop := ∀ P : PQ, (∀ p, Fr m p → P (.ref p) (m.set p (.lst xs))) → f ds m P
def Fv2L (f : F2) (x y : D) (m : Mm) (xs : List D) : Prop := ∀ P : PQ, (∀ p, Fr m p → P (.ref p) (m.set p (.lst xs))) → f x y m P
def Tru (m : Mm) (x : D) (k : Bool) : Prop := ∀ P : Bool → Prop, P k → truD m x P
/-- the call n of these gives d -/
def Fn (G : Gam) (n : Nat) (ds : List D) (m : Mm) (d : D) : Prop := ∀ Z P, P d m → G n ds m Z P
def FnL (G : Gam) (n : Nat) (ds : List D) (m : Mm) (xs : List D) : Prop := ∀ Z P, (∀ p m', Fr m p → Sub (m.set p (.lst xs)) m' → P (.ref p) m') → G n ds m Z P
def Evi (wi : WI) (G : Gam) (ρ : Ev) (m : Mm) (its : List D) (ok : Mm → Prop) : Prop := ∀ Z P, P ⟨its, ok⟩ m → wi G ρ m Z P

theorem Sub.fresh {p : Addr} {o : O} (h : Fr m p) : Sub m (m.set p o) := Sub.set h (.refl m)
theorem Sub.sets {m' : Mm} {p : Addr} {o : O} (h : Fr m p) (s : Sub (m.set p o) m') : Sub m m' := (Sub.fresh h).trans s
theorem Sub.at {m' : Mm} {p : Addr} {o : O} (s : Sub (m.set p o) m') : m' p = some o := s p o Mm.set_same
theorem Sub.both {m' : Mm} {p : Addr} {o : O} (s : Sub m m') (h : m' p = some o) : Sub (m.set p o) m' := fun a u e => by
  by_cases ha : a = p
  · subst ha; rw [Mm.set_same] at e; cases e; exact h
  · rw [Mm.set_ne ha] at e; exact s a u e
theorem Sub.over {m' : Mm} {p : Addr} {o : O} (s : Sub m m') : Sub (m.set p o) (m'.set p o) := fun a u e => by
  by_cases ha : a = p
  · subst ha; rw [Mm.set_same] at e ⊢; exact e
  · rw [Mm.set_ne ha] at e ⊢; exact s a u e
theorem Fr.sub {m' : Mm} {p : Addr} (s : Sub m m') (h : Fr m' p) : Fr m p := s.none h

theorem ev_var {i : Nat} {d : D} (h : nth ρ i = some d) : Evd (wVar i) G ρ m d := fun Z P hp => by unfold wVar; rw [h]; exact hp
theorem ev_c {d : D} : Evd (wC d) G ρ m d := fun Z P hp => hp
theorem ev_bin {f : F2} {a b : WE} {x y d : D} (ha : Evd a G ρ m x) (hb : Evd b G ρ m y) (hf : Fv2 f x y m d) : Evd (wBin f a b) G ρ m d := fun Z P h => ha _ _ (hb _ _ (hf _ ⟨m, .refl m, h⟩))
theorem ev_un {f : F1} {a : WE} {x d : D} (ha : Evd a G ρ m x) (hf : Fv1 f x m d) : Evd (wUn f a) G ρ m d := fun Z P h => ha _ _ (hf _ ⟨m, .refl m, h⟩)
/-- one side a new list -/
theorem ev_binR {f : F2} {a b : WE} {x d : D} {ys : List D} (ha : Evd a G ρ m x) (hb : Evl b G ρ m ys) (hf : ∀ p m', Fr m p → Sub (m.set p (.lst ys)) m' → Fv2 f x (.ref p) m' d) : Evd (wBin f a b) G ρ m d :=
  fun Z P h => ha _ _ (hb _ _ fun p m' hp s => hf p m' hp s _ ⟨m, s.sets hp, h⟩)
theorem ev_binL {f : F2} {a b : WE} {y d : D} {xs : List D} (ha : Evl a G ρ m xs) (hb : ∀ m', Sub m m' → Evd b G ρ m' y) (hf : ∀ p m', Fr m p → Sub (m.set p (.lst xs)) m' → Fv2 f (.ref p) y m' d) : Evd (wBin f a b) G ρ m d :=
  fun Z P h => ha _ _ fun p m' hp s => hb m' (s.sets hp) _ _ (hf p m' hp s _ ⟨m, s.sets hp, h⟩)
theorem ea_nil : Eva wNil G ρ m [] := fun Z P h => h
theorem ea_cons {a : WE} {r : WA} {d : D} {ds : List D} (ha : Evd a G ρ m d) (hr : Eva r G ρ m ds) : Eva (wCons a r) G ρ m (d :: ds) := fun Z P h => ha _ _ (hr _ _ h)
theorem ea_one {a : WE} {xs : List D} (ha : Evl a G ρ m xs) : Eval1 (wCons a wNil) G ρ m xs := fun Z P h => ha _ _ fun p m' hp s => h p m' hp s
theorem ev_tup {a : WA} {ds : List D} (ha : Eva a G ρ m ds) (hz : ds.length ≤ sizeLine) : Evd (wTup a) G ρ m (.tup ds) := fun Z P h => ha _ _ ⟨hz, h⟩
theorem el_lst {a : WA} {ds : List D} (ha : Eva a G ρ m ds) (hz : ds.length ≤ sizeLine) : Evl (wLst a) G ρ m ds := fun Z P h => ha _ _ ⟨hz, fun p hp => h p _ hp (.refl _)⟩
theorem ev_cb {f : FA} {a : WA} {ds : List D} {d : D} (ha : Eva a G ρ m ds) (hf : FvA f ds m d) : Evd (wCB f a) G ρ m d := fun Z P h => ha _ _ (hf _ ⟨m, .refl m, h⟩)
theorem ev_cbl {f : FA} {a : WA} {xs : List D} {d : D} (ha : Eval1 a G ρ m xs) (hf : ∀ p m', m' p = some (.lst xs) → FvA f [.ref p] m' d) : Evd (wCB f a) G ρ m d := fun Z P h => ha _ _ fun p m' hp s => hf p m' s.at _ ⟨m, s.sets hp, h⟩
theorem el_cb {f : FA} {a : WA} {ds xs : List D} (ha : Eva a G ρ m ds) (hf : FvAL f ds m xs) : Evl (wCB f a) G ρ m xs := fun Z P h => ha _ _ (hf _ fun p hp => ⟨_, .refl _, h p _ hp (.refl _)⟩)
theorem el_cbl {f : FA} {a : WA} {xs ys : List D} (ha : Eval1 a G ρ m xs) (hf : ∀ p m', m' p = some (.lst xs) → FvAL f [.ref p] m' ys) : Evl (wCB f a) G ρ m ys :=
  fun Z P h => ha _ _ fun p m' hp s => hf p m' s.at _ fun q hq => ⟨_, .refl _, h q _ (hq.sub (s.sets hp)) (s.sets hp).over⟩
theorem el_bin {f : F2} {a b : WE} {x y : D} {xs : List D} (ha : Evd a G ρ m x) (hb : Evd b G ρ m y) (hf : Fv2L f x y m xs) : Evl (wBin f a b) G ρ m xs := fun Z P h => ha _ _ (hb _ _ (hf _ fun p hp => ⟨_, .refl _, h p _ hp (.refl _)⟩))
/-- list + list, both new -/
theorem el_binLL {f : F2} {a b : WE} {xs ys zs : List D} (ha : Evl a G ρ m xs) (hb : ∀ m', Sub m m' → Evl b G ρ m' ys) (hf : ∀ p q m', m' p = some (.lst xs) → m' q = some (.lst ys) → Fv2L f (.ref p) (.ref q) m' zs) : Evl (wBin f a b) G ρ m zs :=
  fun Z P h => ha _ _ fun p m1 hp s => hb m1 (s.sets hp) _ _ fun q m2 hq s2 => hf p q m2 (s2.sets hq p _ s.at) s2.at _ fun r hr => ⟨_, .refl _, h r _ (hr.sub ((s.sets hp).trans (s2.sets hq))) ((s.sets hp).trans (s2.sets hq)).over⟩
theorem el_binDL {f : F2} {a b : WE} {x : D} {ys zs : List D} (ha : Evd a G ρ m x) (hb : Evl b G ρ m ys) (hf : ∀ q m', Sub m m' → m' q = some (.lst ys) → Fv2L f x (.ref q) m' zs) : Evl (wBin f a b) G ρ m zs :=
  fun Z P h => ha _ _ (hb _ _ fun q m2 hq s2 => hf q m2 (s2.sets hq) s2.at _ fun r hr => ⟨_, .refl _, h r _ (hr.sub (s2.sets hq)) (s2.sets hq).over⟩)
theorem ev_call {n ar : Nat} {a : WA} {ds : List D} {d : D} (ha : Eva a G ρ m ds) (hf : Fn G n ds m d) (hl : ds.length = ar := by rfl) : Evd (wCallN n ar a) G ρ m d := fun Z P h => ha _ _ ⟨hl, hf _ _ h⟩
theorem el_call {n ar : Nat} {a : WA} {ds xs : List D} (ha : Eva a G ρ m ds) (hf : FnL G n ds m xs) (hl : ds.length = ar := by rfl) : Evl (wCallN n ar a) G ρ m xs := fun Z P h => ha _ _ ⟨hl, hf _ _ h⟩
theorem ev_if {t : WT} {a b : WE} {k : Bool} {x y : D} (ht : Evt t G ρ m k) (ha : k = true → Evd a G ρ m x) (hb : k = false → Evd b G ρ m y) : Evd (wIf t a b) G ρ m (if k then x else y) := fun Z P h => ht _ _ ⟨fun e => ha e _ _ (by subst e; exact h), fun e => hb e _ _ (by subst e; exact h)⟩
theorem ev_ifd {t : WT} {a b : WE} {k : Bool} {x : D} (ht : Evt t G ρ m k) (ha : k = true → Evd a G ρ m x) (hb : k = false → Evd b G ρ m x) : Evd (wIf t a b) G ρ m x := fun Z P h => ht _ _ ⟨fun e => ha e _ _ h, fun e => hb e _ _ h⟩
theorem el_if {t : WT} {a b : WE} {k : Bool} {x y : List D} (ht : Evt t G ρ m k) (ha : k = true → Evl a G ρ m x) (hb : k = false → Evl b G ρ m y) : Evl (wIf t a b) G ρ m (if k then x else y) := fun Z P h => ht _ _ ⟨fun e => ha e _ _ (by subst e; exact h), fun e => hb e _ _ (by subst e; exact h)⟩
theorem et_tst {a : WE} {k : Bool} (ha : Evd a G ρ m (.bl k)) : Evt (wTst a) G ρ m k := fun Z P h => ha _ _ h
theorem et_tru {a : WE} {x : D} {k : Bool} (ha : Evd a G ρ m x) (ht : Tru m x k) : Evt (wTru a) G ρ m k := fun Z P h => ha _ _ (ht _ h)
theorem et_and {a b : WT} {k l : Bool} (ha : Evt a G ρ m k) (hb : k = true → Evt b G ρ m l) : Evt (wAnd a b) G ρ m (k && l) := fun Z P h => ha _ _ ⟨fun e => hb e _ _ (by subst e; exact h), fun e => by subst e; exact h⟩
theorem et_or {a b : WT} {k l : Bool} (ha : Evt a G ρ m k) (hb : k = false → Evt b G ρ m l) : Evt (wOr a b) G ρ m (k || l) := fun Z P h => ha _ _ ⟨fun e => by subst e; exact h, fun e => hb e _ _ (by subst e; exact h)⟩
theorem et_not {a : WT} {k : Bool} (ha : Evt a G ρ m k) : Evt (wNot a) G ρ m (!k) := fun Z P h => ha _ _ h
theorem ev_andB {a b : WE} {k l : Bool} (ha : Evd a G ρ m (.bl k)) (hb : k = true → Evd b G ρ m (.bl l)) : Evd (wAndV a b) G ρ m (.bl (k && l)) := fun Z P h => ha _ _ (show truD m (.bl k) _ from ⟨fun e => hb e _ _ (by subst e; exact h), fun e => by subst e; exact h⟩)
theorem ev_orB {a b : WE} {k l : Bool} (ha : Evd a G ρ m (.bl k)) (hb : k = false → Evd b G ρ m (.bl l)) : Evd (wOrV a b) G ρ m (.bl (k || l)) := fun Z P h => ha _ _ (show truD m (.bl k) _ from ⟨fun e => by subst e; exact h, fun e => hb e _ _ (by subst e; exact h)⟩)
theorem ev_not {a : WE} {x : D} {k : Bool} (ha : Evd a G ρ m x) (ht : Tru m x k) : Evd (wNotV a) G ρ m (.bl (!k)) := fun Z P h => ha _ _ (ht _ h)
theorem ev_chn {f f' : F2} {a b c : WE} {x y z : D} {k l : Bool} (ha : Evd a G ρ m x) (hb : Evd b G ρ m y) (hf : Fv2 f x y m (.bl k)) (hc : k = true → Evd c G ρ m z) (hf' : k = true → Fv2 f' y z m (.bl l)) : Evd (wChn f f' a b c) G ρ m (.bl (k && l)) :=
  fun Z P h => ha _ _ (hb _ _ (hf _ ⟨k, rfl, fun e => hc e _ _ (hf' e _ ⟨m, .refl m, by subst e; exact h⟩), fun e => by subst e; exact h⟩))
theorem tru_bl {k : Bool} : Tru m (.bl k) k := fun P h => h
theorem tru_non : Tru m .non false := fun P h => h
theorem tru_int {i : Int} : Tru m (.int i) (i != 0) := fun P h => h
theorem tru_tup {xs : List D} : Tru m (.tup xs) (!xs.isEmpty) := fun P h => h
theorem tru_lst {a : Addr} {xs : List D} (e : m a = some (.lst xs)) : Tru m (.ref a) (!xs.isEmpty) := fun P h => .inl ⟨xs, e, h⟩

theorem fv_add {i j : Int} : Fv2 fAdd (.int i) (.int j) m (.int (i + j)) := fun P h => h
theorem fv_addS {x y : Str} (hz : x.length + y.length ≤ sizeLine) : Fv2 fAdd (.str x) (.str y) m (.str (x ++ y)) := fun P h => ⟨hz, h⟩
theorem fv_addT {xs ys : List D} (hz : xs.length + ys.length ≤ sizeLine) : Fv2 fAdd (.tup xs) (.tup ys) m (.tup (xs ++ ys)) := fun P h => ⟨hz, h⟩
theorem fl_add {p q : Addr} {xs ys : List D} (e1 : m p = some (.lst xs)) (e2 : m q = some (.lst ys)) (hz : xs.length + ys.length ≤ sizeLine) : Fv2L fAdd (.ref p) (.ref q) m (xs ++ ys) := fun P h => ⟨xs, ys, e1, e2, hz, h⟩
theorem fv_sub {i j : Int} : Fv2 fSub (.int i) (.int j) m (.int (i - j)) := fun P h => ⟨True.intro, h⟩
theorem fv_mul {i j : Int} (c : CMul i j) : Fv2 fMul (.int i) (.int j) m (.int (i * j)) := fun P h => ⟨c, h⟩
theorem fv_div {i j : Int} (c : CDiv i j) : Fv2 fDiv (.int i) (.int j) m (.int (i / j)) := fun P h => ⟨c, h⟩
theorem fv_mod {i j : Int} (c : 0 < j) : Fv2 fMod (.int i) (.int j) m (.int (i % j)) := fun P h => ⟨c, h⟩
theorem fv_pow {i j : Int} (c : CPow i j) : Fv2 fPow (.int i) (.int j) m (.int (i ^ j.toNat)) := fun P h => ⟨c, h⟩
theorem fv_neg {i : Int} : Fv1 fNeg (.int i) m (.int (-i)) := fun P h => h
theorem fv_eqI {i j : Int} : Fv2 fEq (.int i) (.int j) m (.bl (decide (i = j))) := fun P h => h
theorem fv_eqS {i j : Str} : Fv2 fEq (.str i) (.str j) m (.bl (decide (i = j))) := fun P h => h
theorem fv_eqB {i j : Bool} : Fv2 fEq (.bl i) (.bl j) m (.bl (decide (i = j))) := fun P h => h
theorem fv_eqN : Fv2 fEq .non .non m (.bl true) := fun P h => h
theorem fv_ne {x y : D} {k : Bool} (h : Fv2 fEq x y m (.bl k)) : Fv2 fNe x y m (.bl (!k)) := fun P hp => h _ hp
theorem fv_is {x : D} : Fv2 fIs x .non m (.bl (isNon x)) := fun P h => h
theorem fv_isn {x : D} : Fv2 fIsNot x .non m (.bl (!isNon x)) := fun P h => h
theorem fv_isB {a b : Bool} : Fv2 fIs (.bl a) (.bl b) m (.bl (decide (a = b))) := fun P h => ⟨a, rfl, h⟩
theorem fv_isnB {a b : Bool} : Fv2 fIsNot (.bl a) (.bl b) m (.bl (!decide (a = b))) := fun P h => ⟨a, rfl, h⟩
theorem fv_lt {i j : Int} : Fv2 gLt (.int i) (.int j) m (.bl (decide (i < j))) := fun P h => h
theorem fv_le {i j : Int} : Fv2 gLe (.int i) (.int j) m (.bl (decide (i ≤ j))) := fun P h => h
theorem fv_gt {i j : Int} : Fv2 gGt (.int i) (.int j) m (.bl (decide (j < i))) := fun P h => h
theorem fv_ge {i j : Int} : Fv2 gGe (.int i) (.int j) m (.bl (decide (j ≤ i))) := fun P h => h
theorem fv_ixT {xs : List D} {i : Int} {v : D} (e : atI xs i = some v) : Fv2 fIx (.tup xs) (.int i) m v := fun P h => ⟨i, v, rfl, e, h⟩
theorem fv_ixL {a : Addr} {xs : List D} {i : Int} {v : D} (e0 : m a = some (.lst xs)) (e : atI xs i = some v) : Fv2 fIx (.ref a) (.int i) m v := fun P h => .inl ⟨xs, i, v, e0, rfl, e, h⟩
theorem fv_revT {xs : List D} : Fv1 fRev (.tup xs) m (.tup xs.reverse) := fun P h => h
theorem fa_lenT {xs : List D} : FvA fLen [.tup xs] m (.int xs.length) := fun P h => h
theorem fa_lenL {a : Addr} {xs : List D} (e : m a = some (.lst xs)) : FvA fLen [.ref a] m (.int xs.length) := fun P h => ⟨xs, e, h⟩
theorem fa_tupL {a : Addr} {xs : List D} (e : m a = some (.lst xs)) : FvA fTuple [.ref a] m (.tup xs) := fun P h => ⟨xs, e, h⟩
theorem fa_sumL {a : Addr} {ns : List Int} (e : m a = some (.lst (ns.map .int))) : FvA fSum [.ref a] m (.int ns.sum) := fun P h => ⟨ns, e, h⟩
theorem fa_anyL {a : Addr} {ns : List Bool} (e : m a = some (.lst (ns.map .bl))) : FvA fAny [.ref a] m (.bl (ns.any id)) := fun P h => ⟨ns, e, h⟩
theorem fa_allL {a : Addr} {ns : List Bool} (e : m a = some (.lst (ns.map .bl))) : FvA fAll [.ref a] m (.bl (ns.all id)) := fun P h => ⟨ns, e, h⟩
theorem fa_abs {i : Int} : FvA fAbs [.int i] m (.int (if i < 0 then -i else i)) := fun P h => h
theorem fa_int {i : Int} : FvA fInt [.int i] m (.int i) := fun P h => h
theorem fa_max2 {i j : Int} : FvA fMax [.int i, .int j] m (.int (if j > i then j else i)) := fun P h => h
theorem fa_isi {x : D} {T C : Ty} (h : tyD m x T) : FvA fIsi [x, .ty C.nm] m (.bl (subTy T C)) := fun P hp => ⟨T, C, h, rfl, hp⟩
theorem fa_isiT {x : D} {T : Ty} {Cs : List Ty} (h : tyD m x T) : FvA fIsi [x, .tup (Cs.map fun C => .ty C.nm)] m (.bl (Cs.any (subTy T))) := fun P hp => ⟨T, Cs, h, rfl, hp⟩

theorem fa_isiI {x : D} {T : Ty} (h : tyD m x T) : FvA fIsi [x, .ty "int"] m (.bl (subTy T .int)) := fa_isi (C := .int) h
theorem fa_isiB {x : D} {T : Ty} (h : tyD m x T) : FvA fIsi [x, .ty "bool"] m (.bl (subTy T .bool)) := fa_isi (C := .bool) h
theorem fa_isiS {x : D} {T : Ty} (h : tyD m x T) : FvA fIsi [x, .ty "str"] m (.bl (subTy T .str)) := fa_isi (C := .str) h
theorem fa_isiU {x : D} {T : Ty} (h : tyD m x T) : FvA fIsi [x, .ty "tuple"] m (.bl (subTy T .tuple)) := fa_isi (C := .tuple) h
theorem fa_isiD {x : D} {T : Ty} (h : tyD m x T) : FvA fIsi [x, .ty "dict"] m (.bl (subTy T .dict)) := fa_isi (C := .dict) h
theorem fa_isiUL {x : D} {T : Ty} (h : tyD m x T) : FvA fIsi [x, .tup [.ty "tuple", .ty "list"]] m (.bl (subTy T .tuple || (subTy T .list || false))) := fa_isiT (Cs := [.tuple, .list]) h
theorem ei_tup {e : WE} {xs : List D} (he : Evd e G ρ m (.tup xs)) : Evi (wIter e) G ρ m xs (fun _ => True) := fun Z P h => he _ _ h
theorem ei_lst {e : WE} {a : Addr} {xs : List D} (he : Evd e G ρ m (.ref a)) (e0 : m a = some (.lst xs)) : Evi (wIter e) G ρ m xs (okL a xs) := fun Z P h => he _ _ ⟨xs, e0, h⟩
theorem ei_r1 {a : WA} {j : Int} (ha : Eva a G ρ m [.int j]) (h1 : -(2 ^ 62) ≤ j := by decide) (h2 : j < 2 ^ 62 := by decide) : Evi (wRange1 a) G ρ m ((List.range j.toNat).map fun i => .int (0 + (i : Nat))) (fun _ => True) := fun Z P h => ha _ _ ⟨⟨h1, h2⟩, h⟩
theorem ei_zipT {a : WA} {xs ys : List D} (ha : Eva a G ρ m [.tup xs, .tup ys]) : Evi (wZip a) G ρ m ((xs.zip ys).map fun p => .tup [p.1, p.2]) (fun _ => True) := fun Z P h => ha _ _ h
theorem ei_enumT {a : WA} {xs : List D} (ha : Eva a G ρ m [.tup xs]) : Evi (wEnum a) G ρ m (enumD xs) (fun _ => True) := fun Z P h => ha _ _ h

theorem fm_take {α β : Type} (f : α → Option β) (xs : List α) (i : Nat) (x : α) (h : xs[i]? = some x) : (xs.take (i + 1)).filterMap f = (xs.take i).filterMap f ++ (f x).toList := by
  rw [List.take_add_one, h, List.filterMap_append]
  cases e : f x <;> simp [e]
theorem fm_len {α β : Type} (f : α → Option β) (xs : List α) (i : Nat) : ((xs.take i).filterMap f).length ≤ min i xs.length := by
  refine Nat.le_trans (List.length_filterMap_le _ _) ?_
  rw [List.length_take]
  exact Nat.le_refl _
theorem el_comp {wi : WI} {p : Pat} {t : WT} {elt : WE} {own : List Nat} {its : List D} {ok : Mm → Prop} {f : D → Option D} (hi : Evi wi G ρ m its ok) (hok : ok m) (hz : its.length ≤ sizeLine)
    (h : ∀ x ∈ its, ∃ ρ', bindP p x (wip ρ own) = some ρ' ∧ ((f x = none ∧ Evt t G ρ' m false) ∨ ∃ d, f x = some d ∧ Evt t G ρ' m true ∧ Evd elt G ρ' m d)) : Evl (wComp wi p t elt own) G ρ m (its.filterMap f) := by
  intro Z P hp
  refine hi _ _ ?_
  refine ⟨fun i acc m' => m' = m ∧ acc = (its.take i).filterMap f, ⟨rfl, rfl⟩, ?_⟩
  rintro i acc m' ⟨rfl, rfl⟩
  refine ⟨hok, ?_⟩
  show (its.length ≤ i ∧ _) ∨ _
  by_cases hl : its.length ≤ i
  · exact .inl ⟨hl, fun a ha => by rw [List.take_of_length_le hl]; exact hp a _ ha (.refl _)⟩
  · have hlt : i < its.length := Nat.lt_of_not_le hl
    have hx : its[i]? = some its[i] := List.getElem?_eq_getElem hlt
    obtain ⟨ρ', hb, hh⟩ := h its[i] (List.getElem_mem hlt)
    refine .inr ⟨its[i], ρ', hx, hb, ?_⟩
    rcases hh with ⟨e, ht⟩ | ⟨d, e, ht, hd⟩
    · exact ht _ _ ⟨fun z => (by cases z), fun _ => ⟨rfl, by rw [fm_take f its i _ hx, e]; simp⟩⟩
    · refine ht _ _ ⟨fun _ => hd _ _ ⟨?_, rfl, by rw [fm_take f its i _ hx, e]; simp⟩, fun z => (by cases z)⟩
      have := fm_len f its i
      omega
/-- over a new list -/
theorem el_compF {e : WE} {p : Pat} {t : WT} {elt : WE} {own : List Nat} {its : List D} {f : D → Option D} (hi : Evl e G ρ m its) (hz : its.length ≤ sizeLine)
    (h : ∀ m', Sub m m' → ∀ x ∈ its, ∃ ρ', bindP p x (wip ρ own) = some ρ' ∧ ((f x = none ∧ Evt t G ρ' m' false) ∨ ∃ d, f x = some d ∧ Evt t G ρ' m' true ∧ Evd elt G ρ' m' d)) : Evl (wComp (wIter e) p t elt own) G ρ m (its.filterMap f) := by
  intro Z P hp
  show e G ρ m Z _
  refine hi _ _ fun q m1 hq s => ?_
  have e1 : m1 q = some (.lst its) := s.at
  have key : Evl (wComp (wIter (wC (.ref q))) p t elt own) G ρ m1 (its.filterMap f) := el_comp (ei_lst ev_c e1) e1 hz (h m1 (s.sets hq))
  exact key Z P fun r m' hr s' => hp r m' (hr.sub (s.sets hq)) ((s.sets hq).over.trans s')
theorem map_fm {α β : Type} (g : α → β) (xs : List α) : xs.filterMap (fun x => some (g x)) = xs.map g := by
  induction xs with
  | nil => rfl
  | cons x xs ih => simp [ih]
theorem et_true : Evt wTrue G ρ m true := fun Z P h => h
/-- [g(x) for x in its] -/
theorem el_map {wi : WI} {p : Pat} {elt : WE} {own : List Nat} {its : List D} {ok : Mm → Prop} (g : D → D) (hi : Evi wi G ρ m its ok) (hok : ok m) (hz : its.length ≤ sizeLine)
    (h : ∀ x ∈ its, ∃ ρ', bindP p x (wip ρ own) = some ρ' ∧ Evd elt G ρ' m (g x)) : Evl (wComp wi p wTrue elt own) G ρ m (its.map g) := by
  have := el_comp (t := wTrue) (f := fun x => some (g x)) hi hok hz fun x hx => let ⟨ρ', a, b⟩ := h x hx; ⟨ρ', a, .inr ⟨g x, rfl, et_true, b⟩⟩
  rwa [map_fm] at this
/-- [x for x in its if q(x)] -/
theorem el_flt {wi : WI} {p : Pat} {t : WT} {elt : WE} {own : List Nat} {its : List D} {ok : Mm → Prop} (q : D → Bool) (hi : Evi wi G ρ m its ok) (hok : ok m) (hz : its.length ≤ sizeLine)
    (h : ∀ x ∈ its, ∃ ρ', bindP p x (wip ρ own) = some ρ' ∧ Evt t G ρ' m (q x) ∧ Evd elt G ρ' m x) : Evl (wComp wi p t elt own) G ρ m (its.filter q) := by
  have := el_comp (t := t) (f := fun x => if q x then some x else none) hi hok hz fun x hx => by
    obtain ⟨ρ', a, b, c⟩ := h x hx
    refine ⟨ρ', a, ?_⟩
    cases e : q x with
    | true => exact .inr ⟨x, by simp [e], by rw [e] at b; exact b, c⟩
    | false => exact .inl ⟨by simp [e], by rw [e] at b; exact b⟩
  have e2 : its.filterMap (fun x => if q x then some x else none) = its.filter q := by
    clear h this hz hi
    induction its with
    | nil => rfl
    | cons x xs ih => by_cases e : q x <;> simp [e, ih]
  rwa [e2] at this

/-- returns d, whatever else it leaves -/
def Ret (s : WS) (G : Gam) (ρ : Ev) (m : Mm) (d : D) (m0 : Mm) : Prop := ∀ N B C X (P : PQ), P d m0 → s G ⟨N, fgt P, B, C, X⟩ ρ m
/-- returns a new list -/
def RetL (s : WS) (G : Gam) (ρ : Ev) (m : Mm) (xs : List D) (m0 : Mm) : Prop := ∀ N B C X (P : PQ), (∀ p m', Fr m0 p → Sub (m0.set p (.lst xs)) m' → P (.ref p) m') → s G ⟨N, fgt P, B, C, X⟩ ρ m
variable {m0 : Mm}
theorem r_ret {e : WE} {d : D} (he : Evd e G ρ m d) (s : Sub m0 m) : Ret (wRet e) G ρ m d m0 := fun N B C X P h => he _ _ ⟨m0, s, h⟩
theorem r_retL {e : WE} {xs : List D} (he : Evl e G ρ m xs) (s : Sub m0 m) : RetL (wRet e) G ρ m xs m0 := fun N B C X P h => he _ _ fun p m' hp s' => ⟨m', .refl _, h p m' (hp.sub s) (s.over.trans s')⟩
theorem r_retR {e : WE} {a : Addr} {xs : List D} (he : Evd e G ρ m (.ref a)) (s : Sub m0 m) (ha : Fr m0 a) (e0 : m a = some (.lst xs)) : RetL (wRet e) G ρ m xs m0 := fun N B C X P h => he _ _ ⟨m, .refl _, h a m ha (s.both e0)⟩
theorem r_set {e : WE} {t : WS} {i : Nat} {x d : D} (he : Evd e G ρ m x) (ht : Ret t G (sto ρ i (some x)) m d m0) : Ret (wSeq (wAsg e (gNm i)) t) G ρ m d m0 := fun N B C X P h => he _ _ ⟨m, .refl m, ht _ _ _ _ _ h⟩
theorem rl_set {e : WE} {t : WS} {i : Nat} {x : D} {xs : List D} (he : Evd e G ρ m x) (ht : RetL t G (sto ρ i (some x)) m xs m0) : RetL (wSeq (wAsg e (gNm i)) t) G ρ m xs m0 := fun N B C X P h => he _ _ ⟨m, .refl m, ht _ _ _ _ _ h⟩
/-- x = a new list -/
theorem r_setL {e : WE} {t : WS} {i : Nat} {xs : List D} {d : D} (he : Evl e G ρ m xs) (ht : ∀ p, Fr m p → Ret t G (sto ρ i (some (.ref p))) (m.set p (.lst xs)) d m0) : Ret (wSeq (wAsg e (gNm i)) t) G ρ m d m0 := fun N B C X P h => he _ _ fun p m' hp s => ⟨_, s, ht p hp _ _ _ _ _ h⟩
theorem rl_setL {e : WE} {t : WS} {i : Nat} {xs ys : List D} (he : Evl e G ρ m xs) (ht : ∀ p, Fr m p → RetL t G (sto ρ i (some (.ref p))) (m.set p (.lst xs)) ys m0) : RetL (wSeq (wAsg e (gNm i)) t) G ρ m ys m0 := fun N B C X P h => he _ _ fun p m' hp s => ⟨_, s, ht p hp _ _ _ _ _ h⟩
/-- if t: return .. -/
theorem r_if {t : WT} {a r : WS} {k : Bool} {d : D} (ht : Evt t G ρ m k) (ha : k = true → Ret a G ρ m d m0) (hr : k = false → Ret r G ρ m d m0) : Ret (wSeq (wIfS t a wNext) r) G ρ m d m0 :=
  fun N B C X P h => ht _ _ ⟨fun e => ha e _ _ _ _ _ h, fun e => ⟨m, .refl m, hr e _ _ _ _ _ h⟩⟩
theorem r_if2 {t : WT} {a b : WS} {k : Bool} {d : D} (ht : Evt t G ρ m k) (ha : k = true → Ret a G ρ m d m0) (hb : k = false → Ret b G ρ m d m0) : Ret (wIfS t a b) G ρ m d m0 :=
  fun N B C X P h => ht _ _ ⟨fun e => ha e _ _ _ _ _ h, fun e => hb e _ _ _ _ _ h⟩
theorem rl_if {t : WT} {a r : WS} {k : Bool} {xs : List D} (ht : Evt t G ρ m k) (ha : k = true → RetL a G ρ m xs m0) (hr : k = false → RetL r G ρ m xs m0) : RetL (wSeq (wIfS t a wNext) r) G ρ m xs m0 :=
  fun N B C X P h => ht _ _ ⟨fun e => ha e _ _ _ _ _ h, fun e => ⟨m, .refl m, hr e _ _ _ _ _ h⟩⟩
/-- x, y = e -/
theorem r_tg {e : WE} {g : WG} {t : WS} {x d : D} {ρ' : Ev} (he : Evd e G ρ m x) (hg : ∀ P, P ρ' m → g G x ρ m P) (ht : Ret t G ρ' m d m0) : Ret (wSeq (wAsg e g) t) G ρ m d m0 := fun N B C X P h => he _ _ (hg _ ⟨m, .refl m, ht _ _ _ _ _ h⟩)
/-- a statement that leaves slots and memory -/
theorem r_seq {s t : WS} {d : D} (hs : ∀ (N : Ev → Mm → Prop) R B C X, N ρ m → s G ⟨N, R, B, C, X⟩ ρ m) (ht : Ret t G ρ m d m0) : Ret (wSeq s t) G ρ m d m0 := fun N B C X P h => hs _ _ _ _ _ ⟨m, .refl m, ht _ _ _ _ _ h⟩
end
/-- a def's call -/
theorem fn_of {tb : List Ent} {L n : Nat} {e : Ent} {ds : List D} {m : Mm} {d : D} (he : lookE tb n = some e) (hl : ds.length = e.ar) (h : Ret e.body (Lv tb L) (startD e.ns ds) m d m) : Fn (Lv tb (L + 1)) n ds m d := fun Z P hp => by
  show callE (lookE tb n) (Lv tb L) ds m Z P
  rw [he]
  exact ⟨hl, h _ _ _ _ _ hp⟩
theorem fnl_of {tb : List Ent} {L n : Nat} {e : Ent} {ds : List D} {m : Mm} {xs : List D} (he : lookE tb n = some e) (hl : ds.length = e.ar) (h : RetL e.body (Lv tb L) (startD e.ns ds) m xs m) : FnL (Lv tb (L + 1)) n ds m xs := fun Z P hp => by
  show callE (lookE tb n) (Lv tb L) ds m Z P
  rw [he]
  exact ⟨hl, h _ _ _ _ _ hp⟩
theorem fn_by {tb : List Ent} {L n ar ns : Nat} {bd : WS} {ds : List D} {m : Mm} {d : D} (he : lookE tb n = some ⟨ar, ns, bd⟩) (hl : ds.length = ar) (h : Ret bd (Lv tb L) (startD ns ds) m d m) : Fn (Lv tb (L + 1)) n ds m d := Qz.fn_of he hl h
theorem fnl_by {tb : List Ent} {L n ar ns : Nat} {bd : WS} {ds : List D} {m : Mm} {xs : List D} (he : lookE tb n = some ⟨ar, ns, bd⟩) (hl : ds.length = ar) (h : RetL bd (Lv tb L) (startD ns ds) m xs m) : FnL (Lv tb (L + 1)) n ds m xs := Qz.fnl_of he hl h
theorem Fn.to {G : Gam} {n : Nat} {ds : List D} {m : Mm} {d d' : D} (h : Fn G n ds m d') (e : d' = d) : Fn G n ds m d := e ▸ h
theorem Evd.to {G : Gam} {a : WE} {ρ : Ev} {m : Mm} {d d' : D} (h : Evd a G ρ m d') (e : d' = d) : Evd a G ρ m d := e ▸ h
theorem Evt.to {G : Gam} {a : WT} {ρ : Ev} {m : Mm} {d d' : Bool} (h : Evt a G ρ m d') (e : d' = d) : Evt a G ρ m d := e ▸ h
end Qz
set_option Elab.async false
set_option linter.all false
set_option maxRecDepth 100000
set_option maxHeartbeats 2000000
namespace Qz
open PySem PySem.Spec PyProof.Rows L2
section
variable {m : Mm}
theorem eqvAll_ints : ∀ xs ys : List Int, PyData.eqvAll (xs.map .int) (ys.map .int) = decide (xs = ys)
  | [], [] => rfl
  | [], _ :: _ => rfl
  | _ :: _, [] => rfl
  | x :: xs, y :: ys => by
    show PyData.eqvAll (.int x :: xs.map .int) (.int y :: ys.map .int) = _
    simp only [PyData.eqvAll, PyData.eqv, eqvAll_ints xs ys]
    by_cases h : x = y <;> by_cases h2 : xs = ys <;> simp [h, h2]
theorem pyDs_ints (xs : List Int) : pyDs (xs.map .int) = xs.map .int := by
  rw [pyDs_map, List.map_map]
  exact List.map_congr_left fun x _ => rfl
theorem isPys_ints (xs : List Int) : isPys (xs.map .int) = true := isPys_of fun d hd => by
  obtain ⟨x, _, rfl⟩ := List.mem_map.mp hd
  rfl
theorem depth_le : ∀ (ps : List PyData), (∀ p ∈ ps, p.depth = 0) → PyData.depthAll ps = 0
  | [], _ => rfl
  | p :: ps, h => by
    simp only [PyData.depthAll, h p List.mem_cons_self, depth_le ps fun q hq => h q (List.mem_cons_of_mem _ hq)]
    rfl
theorem fv_eqPy {x y : D} (hx : isPy x = true) (hy : isPy y = true) (sx : SeqAt.shaped (pyD x) = true) (sy : SeqAt.shaped (pyD y) = true) : Fv2 fEq x y m (.bl (PyData.eqv (pyD x) (pyD y))) := by
  intro P h
  have gen : ∃ p q, Dpy m x p ∧ Dpy m y q ∧ SeqAt.shaped p = true ∧ SeqAt.shaped q = true ∧ P (.bl (PyData.eqv p q)) m := ⟨_, _, isPy.dpy hx, isPy.dpy hy, sx, sy, h⟩
  cases x <;> cases y <;> first | exact gen | skip
  · simpa [fEq, PyData.eqv, pyD] using h
  · rename_i a b
    have e : PyData.eqv (pyD (.bl a)) (pyD (.bl b)) = decide (a = b) := by show (a == b) = _; cases a <;> cases b <;> rfl
    rw [e] at h; exact h
  · rename_i a b
    have e : PyData.eqv (pyD (.int a)) (pyD (.int b)) = decide (a = b) := by show (a == b) = _; by_cases q : a = b <;> simp [q]
    rw [e] at h; exact h
  · rename_i a b
    have e : PyData.eqv (pyD (.str a)) (pyD (.str b)) = decide (a = b) := by show (a == b) = _; by_cases q : a = b <;> simp [q]
    rw [e] at h; exact h
theorem shaped_ints (xs : List Int) : SeqAt.shaped (.tuple (xs.map .int)) = true := by
  have h := PySem.W.ke_shaped_ints xs
  exact h
theorem fv_eqT {xs ys : List Int} : Fv2 fEq (.tup (xs.map .int)) (.tup (ys.map .int)) m (.bl (decide (xs = ys))) := by
  have h := fv_eqPy (m := m) (x := .tup (xs.map .int)) (y := .tup (ys.map .int)) (isPys_ints xs) (isPys_ints ys) (by show SeqAt.shaped (.tuple (pyDs _)) = true; rw [pyDs_ints]; exact shaped_ints xs) (by show SeqAt.shaped (.tuple (pyDs _)) = true; rw [pyDs_ints]; exact shaped_ints ys)
  have e : PyData.eqv (pyD (.tup (xs.map .int))) (pyD (.tup (ys.map .int))) = decide (xs = ys) := by
    show PyData.eqvAll (pyDs _) (pyDs _) = _
    rw [pyDs_ints, pyDs_ints, eqvAll_ints]
  rw [e] at h
  exact h
/-- two lists of the memory -/
theorem fv_eqL {p q : Addr} {xs ys : List D} (e1 : m p = some (.lst xs)) (e2 : m q = some (.lst ys)) (hx : isPys xs = true) (hy : isPys ys = true) (sx : SeqAt.shaped (.list (pyDs xs)) = true) (sy : SeqAt.shaped (.list (pyDs ys)) = true) : Fv2 fEq (.ref p) (.ref q) m (.bl (PyData.eqvAll (pyDs xs) (pyDs ys))) :=
  fun P h => ⟨_, _, .lst e1 (isPys.dpys hx), .lst e2 (isPys.dpys hy), sx, sy, h⟩
theorem eqvAll_nil (ps : List PyData) : PyData.eqvAll ps [] = ps.isEmpty := by cases ps <;> rfl
theorem inD_int (c : Int) : ∀ xs : List Int, inD (.int c) (xs.map .int) = decide (c ∈ xs)
  | [] => rfl
  | y :: ys => by
    have ih := inD_int c ys
    unfold inD at ih ⊢
    rw [List.map_cons, List.any_cons, ih]
    show ((y == c) || _) = _
    by_cases q : y = c
    · subst q; simp
    · have q2 : c ≠ y := Ne.symm q
      simp [q, q2]
/-- x in (ints) -/
theorem fv_inI {neg : Bool} {c : Int} {xs : List Int} : Fv2 (fInG neg) (.int c) (.tup (xs.map .int)) m (.bl (xor neg (decide (c ∈ xs)))) := by
  intro P h
  refine .inl ⟨.int c, xs.map .int, .int c, ?_, rfl, PySem.W.ke_shaped_ints xs, ?_⟩
  · show Dpys m (xs.map .int) (xs.map .int)
    have := isPys.dpys (m := m) (isPys_ints xs)
    rwa [pyDs_ints] at this
  · rw [inD_int]; exact h
/-- x in a list of ints -/
theorem fv_inIL {neg : Bool} {c : Int} {p : Addr} {xs : List Int} (e0 : m p = some (.lst (xs.map .int))) : Fv2 (fInG neg) (.int c) (.ref p) m (.bl (xor neg (decide (c ∈ xs)))) := by
  intro P h
  refine .inl ⟨.int c, xs.map .int, .int c, ⟨_, e0, ?_⟩, rfl, PySem.W.ke_shaped_ints xs, ?_⟩
  · have := isPys.dpys (m := m) (isPys_ints xs)
    rwa [pyDs_ints] at this
  · rw [inD_int]; exact h
end
end Qz
set_option Elab.async false
set_option linter.all false
set_option maxRecDepth 100000
set_option maxHeartbeats 2000000
namespace Tb
open PySem Qz L2
structure Code where
  cell : Int
  s0 : Str
  s1 : Str
  t0 : Int
  t1 : Int
structure Bk where
  nm : Str
  codes : List Code
abbrev Code.d (c : Code) : D := .tup [.int c.cell, .tup [.str c.s0, .str c.s1], .tup [.int c.t0, .int c.t1]]
abbrev Bk.d (b : Bk) : D := .tup [.str b.nm, .int 5, .int 2, .tup (b.codes.map Code.d)]
/-- a case -/
def Cs (i : Int) : Prop := i = 0 ∨ i = 1
structure Bk.Ok (b : Bk) : Prop where
  few : b.codes.length ≤ 4
  t : ∀ c ∈ b.codes, Cs c.t0 ∧ Cs c.t1
  s : ∀ c ∈ b.codes, c.s0.length ≤ 1 ∧ c.s1.length ≤ 1
  k : ∀ c ∈ b.codes, PyData.strOk c.s0 = true ∧ PyData.strOk c.s1 = true
def Code.said (c : Code) (i : Int) : Str := if i = 0 then c.s0 else c.s1
def Code.turn (c : Code) (i : Int) : Int := if i = 0 then c.t0 else c.t1
def Bk.find (b : Bk) (cell : Int) : Option Code := b.codes.find? fun c => decide (c.cell = cell)
def Bk.step (b : Bk) (cell i : Int) : Option (Str × Int) := if cell = 0 ∨ cell = 31 then some ((""  : Str), i) else (b.find cell).map fun c => (c.said i, c.turn i)
abbrev stD : Option (Str × Int) → D
  | none => .non
  | some (s, t) => .tup [.str s, .int t]
theorem stD_non (o : Option (Str × Int)) : isNon (stD o) = !o.isSome := by cases o <;> rfl
def Bk.goods (b : Bk) : List Int := ((List.range 32).map (fun i : Nat => (i : Int))).filter fun c => (b.step c 0).isSome
def pows : List Int := [1, 2, 4, 8, 16, 32]
def holes (c : Int) : Int := (pows.map fun p => c / p % 2).sum
def joined (c d : Int) : Int := (pows.filter fun p => decide (c / p % 2 = 1) || decide (d / p % 2 = 1)).sum
def cost (c d : Int) : Int × Int := (holes (joined c d) - holes c, holes (joined c d) - holes d)
abbrev Spot := Int × Int × Int × Int
abbrev Spot.d (s : Spot) : D := .tup ([s.1, s.2.1, s.2.2.1, s.2.2.2].map .int)
/-- what lies behind a spot: nothing in reach, unlike texts, another spot -/
inductive Bh where
  | far | unlike | to (s : Spot)
abbrev Bh.d : Bh → D
  | .far => .non
  | .unlike => .tup []
  | .to s => s.d
def imax (i j : Int) : Int := if j > i then j else i
def Bk.behind (b : Bk) (torn : Int) (s : Spot) (c d : Int) : Bh :=
  if torn < imax (s.2.2.1 + (cost c d).1) (s.2.2.2 + (cost c d).2) then .far else match b.step c s.1, b.step d s.2.1 with
    | some (x, i), some (y, j) => if x = y then .to (i, j, s.2.2.1 + (cost c d).1, s.2.2.2 + (cost c d).2) else .unlike
    | _, _ => .far
/-- what a tape reads as, and the case behind -/
def Bk.read (b : Bk) : List Int → Int → Option (Str × Int)
  | [], i => some ((""  : Str), i)
  | c :: cs, i => match b.step c i with
    | none => none
    | some (s, j) => match b.read cs j with
      | none => none
      | some (r, k) => some (s ++ r, k)
theorem Bk.find_mem {b : Bk} {c : Int} {x : Code} (h : b.find c = some x) : x ∈ b.codes ∧ x.cell = c := by
  unfold Bk.find at h
  refine ⟨List.mem_of_find?_eq_some h, ?_⟩
  have := List.find?_some h
  simpa using this
theorem Bk.Ok.step {b : Bk} (O : b.Ok) {c i : Int} (hi : Cs i) {s : Str} {j : Int} (h : b.step c i = some (s, j)) : Cs j ∧ s.length ≤ 1 := by
  unfold Bk.step at h
  split at h
  · cases h; exact ⟨hi, by decide⟩
  · cases e : b.find c with
    | none => rw [e] at h; cases h
    | some x =>
      rw [e] at h
      simp only [Option.map_some, Option.some.injEq, Prod.mk.injEq] at h
      obtain ⟨rfl, rfl⟩ := h
      have hm := (Bk.find_mem e).1
      unfold Code.said Code.turn
      split
      · exact ⟨(O.t x hm).1, (O.s x hm).1⟩
      · exact ⟨(O.t x hm).2, (O.s x hm).2⟩
theorem Bk.step_some {b : Bk} {c i j : Int} (h : (b.step c i).isSome = true) : (b.step c j).isSome = true := by
  unfold Bk.step at h ⊢
  split
  · rfl
  · rename_i hc
    rw [if_neg hc] at h
    cases e : b.find c with
    | none => rw [e] at h; cases h
    | some x => rfl
theorem Bk.goods_mem {b : Bk} {c : Int} : c ∈ b.goods ↔ (0 ≤ c ∧ c ≤ 31) ∧ (b.step c 0).isSome = true := by
  unfold Bk.goods
  rw [List.mem_filter, List.mem_map]
  constructor
  · rintro ⟨⟨i, hi, rfl⟩, h⟩
    have := List.mem_range.mp hi
    exact ⟨by omega, h⟩
  · rintro ⟨⟨h1, h2⟩, h⟩
    exact ⟨⟨c.toNat, List.mem_range.mpr (by omega), by omega⟩, h⟩
theorem Bk.goods_len {b : Bk} : b.goods.length ≤ 32 := Nat.le_trans (List.length_filter_le _ _) (by simp)
end Tb
set_option Elab.async false
set_option linter.all false
set_option maxRecDepth 100000
set_option maxHeartbeats 2000000
namespace Qz
open PySem PySem.Spec PyProof.Rows L2
/-- the wish of what is returned, of what is raised -/
abbrev Rq := PQ → PX → Prop
def Go (s : WS) (G : Gam) (ρ : Ev) (m : Mm) (Q C : Ev → Mm → Prop) (R : Rq) : Prop := ∀ N B Ct P Z, (∀ ρ' m', Q ρ' m' → N ρ' m') → (∀ ρ' m', C ρ' m' → Ct ρ' m') → R P Z → s G ⟨N, fgt P, B, Ct, fgX Z⟩ ρ m
/-- a call -/
def GFn (G : Gam) (n : Nat) (ds : List D) (m : Mm) (R : Rq) : Prop := ∀ P Z, R P Z → G n ds m Z P
abbrev No : Ev → Mm → Prop := fun _ _ => False
section
variable {G : Gam} {ρ : Ev} {m m0 : Mm} {Q C : Ev → Mm → Prop} {R : Rq}
theorem Fn.go {n : Nat} {ds : List D} {d : D} (h : Fn G n ds m d) : GFn G n ds m fun P _ => P d m := fun P Z hp => h Z P hp
theorem GFn.fn {n : Nat} {ds : List D} {d : D} (h : GFn G n ds m fun P _ => P d m) : Fn G n ds m d := fun Z P hp => h P Z hp
theorem g_mono {s : WS} {Q' C' : Ev → Mm → Prop} {R' : Rq} (h : Go s G ρ m Q C R) (hq : ∀ ρ' m', Q ρ' m' → Q' ρ' m') (hc : ∀ ρ' m', C ρ' m' → C' ρ' m') (hr : ∀ P Z, R' P Z → R P Z) : Go s G ρ m Q' C' R' := fun N B Ct P Z a b c => h N B Ct P Z (fun ρ' m' z => a _ _ (hq _ _ z)) (fun ρ' m' z => b _ _ (hc _ _ z)) (hr _ _ c)
theorem g_next (h : Q ρ m) : Go wNext G ρ m Q C R := fun N B Ct P Z a b c => a _ _ h
theorem g_cont (h : C ρ m) : Go wCont G ρ m Q C R := fun N B Ct P Z a b c => b _ _ h
theorem g_ret {e : WE} {d : D} (he : Evd e G ρ m d) (h : ∀ P Z, R P Z → fgt P d m) : Go (wRet e) G ρ m Q C R := fun N B Ct P Z a b c => he _ _ (h P Z c)
theorem g_retN (h : ∀ P Z, R P Z → fgt P .non m) : Go wRetN G ρ m Q C R := fun N B Ct P Z a b c => h P Z c
theorem g_retL {e : WE} {xs : List D} (he : Evl e G ρ m xs) (h : ∀ P Z, R P Z → ∀ p m', Fr m p → Sub (m.set p (.lst xs)) m' → fgt P (.ref p) m') : Go (wRet e) G ρ m Q C R := fun N B Ct P Z a b c => he _ _ fun p m' hp s => h P Z c p m' hp s
theorem g_seq {s t : WS} {Q1 : Ev → Mm → Prop} (hs : Go s G ρ m Q1 C R) (ht : ∀ ρ' m', Q1 ρ' m' → ∃ m'', Sub m'' m' ∧ Go t G ρ' m'' Q C R) : Go (wSeq s t) G ρ m Q C R :=
  fun N B Ct P Z a b c => hs _ _ _ _ _ (fun ρ' m' q => let ⟨m'', s, h⟩ := ht ρ' m' q; ⟨m'', s, h _ _ _ _ _ a b c⟩) b c
/-- x = e; .. -/
theorem g_set {e : WE} {t : WS} {i : Nat} {x : D} (he : Evd e G ρ m x) (ht : Go t G (sto ρ i (some x)) m Q C R) : Go (wSeq (wAsg e (gNm i)) t) G ρ m Q C R := fun N B Ct P Z a b c => he _ _ ⟨m, .refl m, ht _ _ _ _ _ a b c⟩
theorem g_setL {e : WE} {t : WS} {i : Nat} {xs : List D} (he : Evl e G ρ m xs) (ht : ∀ p, Fr m p → Go t G (sto ρ i (some (.ref p))) (m.set p (.lst xs)) Q C R) : Go (wSeq (wAsg e (gNm i)) t) G ρ m Q C R := fun N B Ct P Z a b c => he _ _ fun p m' hp s => ⟨_, s, ht p hp _ _ _ _ _ a b c⟩
theorem g_set1 {e : WE} {i : Nat} {x : D} (he : Evd e G ρ m x) (h : Q (sto ρ i (some x)) m) : Go (wAsg e (gNm i)) G ρ m Q C R := fun N B Ct P Z a b c => he _ _ (a _ _ h)
theorem g_tg {e : WE} {t : WS} {g : WG} {x : D} {ρ' : Ev} (he : Evd e G ρ m x) (hg : ∀ P : Ev → Mm → Prop, P ρ' m → g G x ρ m P) (ht : Go t G ρ' m Q C R) : Go (wSeq (wAsg e g) t) G ρ m Q C R := fun N B Ct P Z a b c => he _ _ (hg _ ⟨m, .refl m, ht _ _ _ _ _ a b c⟩)
theorem g_tg1 {e : WE} {g : WG} {x : D} {ρ' : Ev} (he : Evd e G ρ m x) (hg : ∀ P : Ev → Mm → Prop, P ρ' m → g G x ρ m P) (h : Q ρ' m) : Go (wAsg e g) G ρ m Q C R := fun N B Ct P Z a b c => he _ _ (hg _ (a _ _ h))
theorem g_if {t : WT} {a b : WS} {k : Bool} (ht : Evt t G ρ m k) (ha : k = true → Go a G ρ m Q C R) (hb : k = false → Go b G ρ m Q C R) : Go (wIfS t a b) G ρ m Q C R := fun N B Ct P Z x y z => ht _ _ ⟨fun e => ha e _ _ _ _ _ x y z, fun e => hb e _ _ _ _ _ x y z⟩
/-- if t: .. (returns, continues); .. -/
theorem g_ifr {t : WT} {a r : WS} {k : Bool} (ht : Evt t G ρ m k) (ha : k = true → Go a G ρ m (fun _ _ => False) C R) (hr : k = false → Go r G ρ m Q C R) : Go (wSeq (wIfS t a wNext) r) G ρ m Q C R :=
  fun N B Ct P Z x y z => ht _ _ ⟨fun e => ha e _ _ _ _ _ (fun _ _ q => q.elim) y z, fun e => ⟨m, .refl m, hr e _ _ _ _ _ x y z⟩⟩
theorem g_ex {e : WE} {d : D} (he : Evd e G ρ m d) (h : Q ρ m) : Go (wExpr e) G ρ m Q C R := fun N B Ct P Z a b c => he _ _ (a _ _ h)
theorem g_exs {e : WE} {t : WS} {d : D} (he : Evd e G ρ m d) (ht : Go t G ρ m Q C R) : Go (wSeq (wExpr e) t) G ρ m Q C R := fun N B Ct P Z a b c => he _ _ ⟨m, .refl m, ht _ _ _ _ _ a b c⟩
/-- l.append(e) -/
theorem g_append {o e : WE} {a : Addr} {ys : List D} {y : D} (ho : Evd o G ρ m (.ref a)) (he : Evd e G ρ m y) (h0 : m a = some (.lst ys)) (hz : ys.length < sizeLine) (h : Q ρ (m.set a (.lst (ys ++ [y])))) : Go (wExpr (wBM "list" fAppend o (wCons e wNil))) G ρ m Q C R :=
  fun N B Ct P Z x y z => ho _ _ ⟨.inl ⟨rfl, ys, h0⟩, he _ _ ⟨ys, h0, hz, _, .refl _, x _ _ h⟩⟩
theorem g_appends {o e : WE} {t : WS} {a : Addr} {ys : List D} {y : D} (ho : Evd o G ρ m (.ref a)) (he : Evd e G ρ m y) (h0 : m a = some (.lst ys)) (hz : ys.length < sizeLine) (h : Go t G ρ (m.set a (.lst (ys ++ [y]))) Q C R) : Go (wSeq (wExpr (wBM "list" fAppend o (wCons e wNil))) t) G ρ m Q C R :=
  fun N B Ct P Z x y z => ho _ _ ⟨.inl ⟨rfl, ys, h0⟩, he _ _ ⟨ys, h0, hz, _, .refl _, _, .refl _, h _ _ _ _ _ x y z⟩⟩
/-- i += 1 -/
theorem g_inc {i : Nat} {e : WE} {x y : Int} (hx : nth ρ i = some (.int x)) (he : Evd e G ρ m (.int y)) (h : Q (sto ρ i (some (.int (x + y)))) m) : Go (wAug i fIAdd e) G ρ m Q C R := fun N B Ct P Z a b c => by
  unfold wAug
  rw [hx]
  exact he _ _ (a _ _ h)
theorem g_incs {i : Nat} {e : WE} {t : WS} {x y : Int} (hx : nth ρ i = some (.int x)) (he : Evd e G ρ m (.int y)) (h : Go t G (sto ρ i (some (.int (x + y)))) m Q C R) : Go (wSeq (wAug i fIAdd e) t) G ρ m Q C R := fun N B Ct P Z a b c => by
  show wAug i fIAdd e G _ ρ m
  unfold wAug
  rw [hx]
  exact he _ _ ⟨m, .refl m, h _ _ _ _ _ a b c⟩
/-- for p in its: b -/
theorem g_for {wi : WI} {p : Pat} {b : WS} {its : List D} {ok : Mm → Prop} (I : Nat → Ev → Mm → Prop) (hi : Evi wi G ρ m its ok) (h0 : I 0 ρ m) (hok : ∀ i ρ' m', I i ρ' m' → ok m')
    (hs : ∀ i ρ' m' x, I i ρ' m' → its[i]? = some x → ∃ ρ'', bindP p x ρ' = some ρ'' ∧ Go b G ρ'' m' (I (i + 1)) (I (i + 1)) R) (hq : ∀ ρ' m', I its.length ρ' m' → Q ρ' m') : Go (wFor wi (gPt p) b) G ρ m Q C R := by
  intro N B Ct P Z a b' c
  refine hi _ _ ?_
  refine ⟨fun i ρ' m' => I i ρ' m' ∧ i ≤ its.length, ⟨h0, Nat.zero_le _⟩, ?_⟩
  rintro i ρ' m' ⟨hI, hl⟩
  refine ⟨hok _ _ _ hI, ?_⟩
  show (its.length ≤ i ∧ _) ∨ _
  by_cases h : its.length ≤ i
  · have e : i = its.length := Nat.le_antisymm hl h
    exact .inl ⟨h, a _ _ (hq _ _ (by rw [← e]; exact hI))⟩
  · have hlt : i < its.length := Nat.lt_of_not_le h
    have hx : its[i]? = some its[i] := List.getElem?_eq_getElem hlt
    obtain ⟨ρ'', e, hb⟩ := hs i ρ' m' _ hI hx
    refine .inr ⟨its[i], hx, ?_⟩
    unfold gPt
    rw [e]
    exact hb _ _ _ _ _ (fun ρ1 m1 q => ⟨q, hlt⟩) (fun ρ1 m1 q => ⟨q, hlt⟩) c
/-- while t: b -/
theorem g_while {t : WT} {b : WS} (I : Nat → Ev → Mm → Prop) {n0 : Nat} (h0 : I n0 ρ m) (hs : ∀ n ρ' m', I n ρ' m' → ∃ k, Evt t G ρ' m' k ∧ (k = true → Go b G ρ' m' (fun ρ1 m1 => ∃ n', n' < n ∧ I n' ρ1 m1) (fun ρ1 m1 => ∃ n', n' < n ∧ I n' ρ1 m1) R) ∧ (k = false → Q ρ' m')) : Go (wWhile t b) G ρ m Q C R := by
  intro N B Ct P Z a b' c
  refine ⟨I, ⟨n0, h0⟩, fun n ρ' m' hI => ?_⟩
  obtain ⟨k, ht, h1, h2⟩ := hs n ρ' m' hI
  exact ht _ _ ⟨fun e => h1 e _ _ _ _ _ (fun _ _ q => q) (fun _ _ q => q) c, fun e => a _ _ (h2 e)⟩
end
/-- a def's call -/
theorem fn_go {tb : List Ent} {L n ar ns : Nat} {bd : WS} {ds : List D} {m : Mm} {Q : Ev → Mm → Prop} {R : Rq} (he : lookE tb n = some ⟨ar, ns, bd⟩) (hl : ds.length = ar) (h : Go bd (Lv tb L) (startD ns ds) m Q No R) (hn : ∀ ρ' m', Q ρ' m' → ∀ P Z, R P Z → fgt P .non m') : GFn (Lv tb (L + 1)) n ds m R := fun P Z hr => by
  show callE (lookE tb n) (Lv tb L) ds m Z P
  rw [he]
  exact ⟨hl, h _ _ _ _ _ (fun ρ' m' q => hn ρ' m' q P Z hr) (fun _ _ q => q.elim) hr⟩
/-- where all paths return -/
theorem fn_gor {tb : List Ent} {L n ar ns : Nat} {bd : WS} {ds : List D} {m : Mm} {R : Rq} (he : lookE tb n = some ⟨ar, ns, bd⟩) (hl : ds.length = ar) (h : Go bd (Lv tb L) (startD ns ds) m No No R) : GFn (Lv tb (L + 1)) n ds m R := fn_go he hl h fun _ _ q => q.elim
/-- a def that gives d -/
abbrev Rd (d : D) (m : Mm) : Rq := fun P _ => P d m
theorem rd_ok {d : D} {m m' : Mm} (s : Sub m m') : ∀ P Z, Rd d m P Z → fgt P d m' := fun P Z h => ⟨m, s, h⟩
end Qz
set_option Elab.async false
set_option linter.all false
set_option maxRecDepth 100000
set_option maxHeartbeats 2000000
namespace Tb
open PySem Qz L2
theorem s_nil : (("" : Str)) = ⟨#[]⟩ := by decide +kernel
theorem sapp_nil (x : Str) : x ++ (("" : Str)) = x := by
  rw [s_nil]
  show (⟨x.cps ++ #[]⟩ : Str) = x
  rw [Array.append_empty]
theorem nil_sapp (x : Str) : (("" : Str)) ++ x = x := by
  rw [s_nil]
  show (⟨#[] ++ x.cps⟩ : Str) = x
  rw [Array.empty_append]
theorem sapp_assoc (x y z : Str) : x ++ y ++ z = x ++ (y ++ z) := by
  show (⟨x.cps ++ y.cps ++ z.cps⟩ : Str) = ⟨x.cps ++ (y.cps ++ z.cps)⟩
  rw [Array.append_assoc]
theorem sapp_len (x y : Str) : (x ++ y).length = x.length + y.length := by
  show (x.cps ++ y.cps).size = _
  rw [Array.size_append]
  rfl
def catS : List Str → Str
  | [] => ("" : Str)
  | x :: xs => x ++ catS xs
theorem catS_app : ∀ xs ys : List Str, catS (xs ++ ys) = catS xs ++ catS ys
  | [], ys => by rw [List.nil_append]; exact (nil_sapp _).symm
  | x :: xs, ys => by
    show x ++ catS (xs ++ ys) = x ++ catS xs ++ catS ys
    rw [catS_app xs ys, sapp_assoc]
theorem join_cat : ∀ xs : List Str, Str.join ("" : Str) xs = catS xs
  | [] => s_nil.symm
  | [x] => (sapp_nil x).symm
  | x :: y :: r => by
    show x ++ ("" : Str) ++ Str.join ("" : Str) (y :: r) = x ++ catS (y :: r)
    rw [sapp_nil, join_cat (y :: r)]
theorem tjoin_cat (xs : List Str) : Txt.join ("" : Str) xs = catS xs := by
  rw [← join_cat]
  exact StrLaws.glued_eq_join _ _
def rdS (b : Bk) (o : Option (List Str × Int)) (c : Int) : Option (List Str × Int) := o.bind fun q => (b.step c q.2).map fun r => (q.1 ++ [r.1], r.2)
def Bk.rdP (b : Bk) (cs : List Int) (i : Int) : Option (List Str × Int) := cs.foldl (rdS b) (some ([], i))
theorem rd_none (b : Bk) : ∀ cs : List Int, cs.foldl (rdS b) none = none
  | [] => rfl
  | c :: cs => rd_none b cs
theorem rd_read (b : Bk) : ∀ (cs : List Int) (ys : List Str) (j : Int), (cs.foldl (rdS b) (some (ys, j))).map (fun q => (catS q.1, q.2)) = (b.read cs j).map fun r => (catS ys ++ r.1, r.2)
  | [], ys, j => by
    show some (catS ys, j) = some (catS ys ++ ("" : Str), j)
    rw [sapp_nil]
  | c :: cs, ys, j => by
    show (cs.foldl (rdS b) ((b.step c j).map fun r => (ys ++ [r.1], r.2))).map _ = _
    unfold Bk.read
    cases e : b.step c j with
    | none =>
      show (cs.foldl (rdS b) none).map _ = _
      rw [rd_none]
      rfl
    | some r =>
      obtain ⟨s, k⟩ := r
      show (cs.foldl (rdS b) (some (ys ++ [s], k))).map _ = _
      rw [rd_read b cs (ys ++ [s]) k]
      show (b.read cs k).map _ = (match b.read cs k with | none => none | some (r, k) => some (s ++ r, k)).map _
      cases b.read cs k with
      | none => rfl
      | some r =>
        show some _ = some _
        rw [catS_app]
        show some ((catS ys ++ (s ++ ("" : Str))) ++ r.1, r.2) = some (catS ys ++ (s ++ r.1), r.2)
        rw [sapp_nil, sapp_assoc]
theorem rdP_read (b : Bk) (cs : List Int) (i : Int) : (b.rdP cs i).map (fun q => (catS q.1, q.2)) = b.read cs i := by
  unfold Bk.rdP
  rw [rd_read]
  cases b.read cs i with
  | none => rfl
  | some r =>
    show some (("" : Str) ++ r.1, r.2) = some r
    rw [nil_sapp]
theorem rdP_take (b : Bk) {cs : List Int} {i0 : Int} {i : Nat} {c : Int} (h : cs[i]? = some c) : b.rdP (cs.take (i + 1)) i0 = rdS b (b.rdP (cs.take i) i0) c := by
  unfold Bk.rdP
  rw [List.take_add_one, h, List.foldl_append]
  rfl
theorem rdP_fail (b : Bk) {cs : List Int} {i0 : Int} {i : Nat} (h : b.rdP (cs.take i) i0 = none) : b.read cs i0 = none := by
  rw [← rdP_read]
  have e : b.rdP cs i0 = none := by
    unfold Bk.rdP at h ⊢
    rw [← List.take_append_drop i cs, List.foldl_append, h, rd_none]
  rw [e]
  rfl
theorem Bk.Ok.rdP {b : Bk} (O : b.Ok) : ∀ (cs : List Int) (ys : List Str) (j : Int), Cs j → (∀ y ∈ ys, y.length ≤ 1) → ∀ zs k, cs.foldl (rdS b) (some (ys, j)) = some (zs, k) → Cs k ∧ zs.length = ys.length + cs.length ∧ ∀ z ∈ zs, z.length ≤ 1
  | [], ys, j, hj, hy, zs, k, h => by cases h; exact ⟨hj, by simp, hy⟩
  | c :: cs, ys, j, hj, hy, zs, k, h => by
    have h' : cs.foldl (rdS b) ((b.step c j).map fun r => (ys ++ [r.1], r.2)) = some (zs, k) := h
    cases e : b.step c j with
    | none => rw [e] at h'; rw [show Option.map (fun r : Str × Int => (ys ++ [r.1], r.2)) none = none from rfl, rd_none] at h'; cases h'
    | some r =>
      obtain ⟨s, j2⟩ := r
      rw [e] at h'
      obtain ⟨c2, l2⟩ := O.step hj e
      obtain ⟨h1, h2, h3⟩ := Bk.Ok.rdP O cs (ys ++ [s]) j2 c2 (fun y hy' => by
        rcases List.mem_append.mp hy' with z | z
        · exact hy y z
        · rw [List.mem_singleton.mp z]; exact l2) zs k h'
      refine ⟨h1, ?_, h3⟩
      rw [h2, List.length_append, List.length_cons, List.length_cons, List.length_nil]
      omega
theorem sum_le : ∀ xs : List Str, (∀ x ∈ xs, x.length ≤ 1) → (xs.map (·.length)).sum ≤ xs.length
  | [], _ => Nat.le_refl _
  | x :: xs, h => by
    have h1 := sum_le xs fun y hy => h y (List.mem_cons_of_mem _ hy)
    have h2 := h x List.mem_cons_self
    rw [List.map_cons, List.sum_cons, List.length_cons]
    omega
theorem catS_len : ∀ xs : List Str, (catS xs).length = (xs.map (·.length)).sum
  | [] => by rw [show catS [] = ("" : Str) from rfl, s_nil]; rfl
  | x :: xs => by
    rw [show catS (x :: xs) = x ++ catS xs from rfl, sapp_len, catS_len xs]
    rfl
end Tb
set_option Elab.async false
set_option linter.all false
set_option maxRecDepth 100000
set_option maxHeartbeats 2000000
namespace Qz
open PySem PySem.Spec PyProof.Rows L2
section
variable {G : Gam} {ρ : Ev} {m : Mm}
/-- evaluates to something of T -/
def Evr (a : WE) (G : Gam) (ρ : Ev) (m : Mm) (T : D → Mm → Prop) : Prop := ∀ Z P, (∀ d m', T d m' → P d m') → a G ρ m Z P
/-- evaluates to something of T, or lets an exception of Y out -/
def Evx (a : WE) (G : Gam) (ρ : Ev) (m : Mm) (T : D → Mm → Prop) (Y : PX) : Prop := ∀ Z P, (∀ d m', T d m' → P d m') → (∀ x m', Y x m' → Z x m') → a G ρ m Z P
abbrev Rp (T : D → Mm → Prop) : Rq := fun P _ => ∀ d m', T d m' → P d m'
abbrev Rx (T : D → Mm → Prop) (Y : PX) : Rq := fun P Z => (∀ d m', T d m' → P d m') ∧ ∀ x m', Y x m' → Z x m'
theorem Evd.r {a : WE} {d : D} (h : Evd a G ρ m d) : Evr a G ρ m (fun x m' => x = d ∧ m' = m) := fun Z P k => h Z P (k d m ⟨rfl, rfl⟩)
theorem Evl.r {a : WE} {xs : List D} (h : Evl a G ρ m xs) : Evr a G ρ m (fun x m' => ∃ p, x = .ref p ∧ Fr m p ∧ Sub (m.set p (.lst xs)) m') := fun Z P k => h Z P fun p m' hp s => k _ _ ⟨p, rfl, hp, s⟩
theorem Evr.imp {a : WE} {T T' : D → Mm → Prop} (h : Evr a G ρ m T) (k : ∀ d m', T d m' → T' d m') : Evr a G ρ m T' := fun Z P q => h Z P fun d m' t => q d m' (k d m' t)
theorem er_call {n ar : Nat} {a : WA} {ds : List D} {T : D → Mm → Prop} (ha : Eva a G ρ m ds) (hf : GFn G n ds m (Rp T)) (hl : ds.length = ar := by rfl) : Evr (wCallN n ar a) G ρ m T := fun Z P h => ha _ _ ⟨hl, hf P Z h⟩
theorem ex_call {n ar : Nat} {a : WA} {ds : List D} {T : D → Mm → Prop} {Y : PX} (ha : Eva a G ρ m ds) (hf : GFn G n ds m (Rx T Y)) (hl : ds.length = ar := by rfl) : Evx (wCallN n ar a) G ρ m T Y := fun Z P h k => ha _ _ ⟨hl, hf P Z ⟨h, k⟩⟩
theorem er_meth {n ar c : Nat} {nm : Str} {o : WE} {a : WA} {p : Addr} {fs : List (Str × D)} {ds : List D} {T : D → Mm → Prop} (ho : Evd o G ρ m (.ref p)) (hp : m p = some (.ins c fs)) (hl : fs.lookup nm = none) (ha : Eva a G ρ m ds) (hf : GFn G n (.ref p :: ds) m (Rp T)) (hn : ds.length + 1 = ar := by rfl) : Evr (wMeth n ar c nm o a) G ρ m T :=
  fun Z P h => ho _ _ ⟨p, fs, rfl, hp, hl, ha _ _ ⟨hn, hf P Z h⟩⟩
theorem er_make {n ar c : Nat} {a : WA} {ds : List D} {T : D → Mm → Prop} (ha : Eva a G ρ m ds) (hf : ∀ p, Fr m p → GFn G n (.ref p :: ds) (m.set p (.ins c [])) (Rp fun d m' => d = .non ∧ T (.ref p) m')) (hn : ds.length + 1 = ar := by rfl) : Evr (wMake n ar c a) G ρ m T :=
  fun Z P h => ha _ _ ⟨hn, fun p hp => hf p hp _ Z fun d m' ⟨e, t⟩ => ⟨e, h _ _ t⟩⟩
/-- o.f -/
theorem er_fld {c : Nat} {f : Str} {o : WE} {T : D → Mm → Prop} (ho : Evr o G ρ m fun x m' => ∃ p fs d, x = .ref p ∧ m' p = some (.ins c fs) ∧ fs.lookup f = some d ∧ T d m') : Evr (wFld c f o) G ρ m T := fun Z P h => ho _ _ fun x m' ⟨p, fs, d, e, e1, e2, t⟩ => ⟨p, fs, d, e, e1, e2, h _ _ t⟩
theorem ev_fld {c : Nat} {f : Str} {o : WE} {p : Addr} {fs : List (Str × D)} {d : D} (ho : Evd o G ρ m (.ref p)) (e : m p = some (.ins c fs)) (el : fs.lookup f = some d) : Evd (wFld c f o) G ρ m d := fun Z P h => ho _ _ ⟨p, fs, d, rfl, e, el, h⟩
section
variable {Q C : Ev → Mm → Prop} {R : Rq}
theorem g_setR {e : WE} {t : WS} {i : Nat} {T : D → Mm → Prop} (he : Evr e G ρ m T) (ht : ∀ d m', T d m' → ∃ m'', Sub m'' m' ∧ Go t G (sto ρ i (some d)) m'' Q C R) : Go (wSeq (wAsg e (gNm i)) t) G ρ m Q C R :=
  fun N B Ct P Z a b c => he _ _ fun d m' h => let ⟨m'', s, g⟩ := ht d m' h; ⟨m'', s, g _ _ _ _ _ a b c⟩
theorem g_tgR {e : WE} {t : WS} {g : WG} {T : D → Mm → Prop} (he : Evr e G ρ m T) (ht : ∀ d m', T d m' → ∃ ρ' m1 m'', (∀ P : Ev → Mm → Prop, P ρ' m1 → g G d ρ m' P) ∧ Sub m'' m1 ∧ Go t G ρ' m'' Q C R) : Go (wSeq (wAsg e g) t) G ρ m Q C R :=
  fun N B Ct P Z a b c => he _ _ fun d m' h => let ⟨ρ', m1, m'', h1, s, g⟩ := ht d m' h; h1 _ ⟨m'', s, g _ _ _ _ _ a b c⟩
theorem g_tgR1 {e : WE} {g : WG} {T : D → Mm → Prop} (he : Evr e G ρ m T) (ht : ∀ d m', T d m' → ∃ ρ' m1, (∀ P : Ev → Mm → Prop, P ρ' m1 → g G d ρ m' P) ∧ Q ρ' m1) : Go (wAsg e g) G ρ m Q C R :=
  fun N B Ct P Z a b c => he _ _ fun d m' h => let ⟨ρ', m1, h1, g⟩ := ht d m' h; h1 _ (a _ _ g)
theorem g_exR {e : WE} {T : D → Mm → Prop} (he : Evr e G ρ m T) (h : ∀ d m', T d m' → Q ρ m') : Go (wExpr e) G ρ m Q C R := fun N B Ct P Z a b c => he _ _ fun d m' t => a _ _ (h d m' t)
theorem g_exsR {e : WE} {t : WS} {T : D → Mm → Prop} (he : Evr e G ρ m T) (ht : ∀ d m', T d m' → ∃ m'', Sub m'' m' ∧ Go t G ρ m'' Q C R) : Go (wSeq (wExpr e) t) G ρ m Q C R := fun N B Ct P Z a b c => he _ _ fun d m' h => let ⟨m'', s, g⟩ := ht d m' h; ⟨m'', s, g _ _ _ _ _ a b c⟩
theorem g_retR {e : WE} {T : D → Mm → Prop} (he : Evr e G ρ m T) (h : ∀ P Z, R P Z → ∀ d m', T d m' → fgt P d m') : Go (wRet e) G ρ m Q C R := fun N B Ct P Z a b c => he _ _ fun d m' t => h P Z c d m' t
/-- a store that changes the memory -/
theorem g_tgM {e : WE} {t : WS} {g : WG} {x : D} {ρ' : Ev} {m1 : Mm} (he : Evd e G ρ m x) (hg : ∀ P : Ev → Mm → Prop, P ρ' m1 → g G x ρ m P) (ht : Go t G ρ' m1 Q C R) : Go (wSeq (wAsg e g) t) G ρ m Q C R := fun N B Ct P Z a b c => he _ _ (hg _ ⟨m1, .refl m1, ht _ _ _ _ _ a b c⟩)
theorem g_tgM1 {e : WE} {g : WG} {x : D} {ρ' : Ev} {m1 : Mm} (he : Evd e G ρ m x) (hg : ∀ P : Ev → Mm → Prop, P ρ' m1 → g G x ρ m P) (h : Q ρ' m1) : Go (wAsg e g) G ρ m Q C R := fun N B Ct P Z a b c => he _ _ (hg _ (a _ _ h))
theorem g_setL1 {e : WE} {i : Nat} {xs : List D} (he : Evl e G ρ m xs) (h : ∀ p m', Fr m p → Sub (m.set p (.lst xs)) m' → Q (sto ρ i (some (.ref p))) m') : Go (wAsg e (gNm i)) G ρ m Q C R := fun N B Ct P Z a b c => he _ _ fun p m' hp s => a _ _ (h p m' hp s)
theorem g_tgL {e : WE} {t : WS} {g : WG} {xs : List D} (he : Evl e G ρ m xs) (ht : ∀ p, Fr m p → ∃ ρ' m1, (∀ m' (P : Ev → Mm → Prop), Sub (m.set p (.lst xs)) m' → P ρ' m' → g G (.ref p) ρ m' P) ∧ m1 = m.set p (.lst xs) ∧ Go t G ρ' m1 Q C R) : Go (wSeq (wAsg e g) t) G ρ m Q C R :=
  fun N B Ct P Z a b c => he _ _ fun p m' hp s => let ⟨ρ', m1, h1, em, g⟩ := ht p hp; h1 m' _ s ⟨m1, em ▸ s, g _ _ _ _ _ a b c⟩
/-- if t: a (falls through); .. -/
theorem g_ifs {t : WT} {a r : WS} {k : Bool} {Q1 : Ev → Mm → Prop} (ht : Evt t G ρ m k) (ha : k = true → Go a G ρ m Q1 C R) (h1 : k = true → ∀ ρ' m', Q1 ρ' m' → ∃ m'', Sub m'' m' ∧ Go r G ρ' m'' Q C R) (hr : k = false → Go r G ρ m Q C R) : Go (wSeq (wIfS t a wNext) r) G ρ m Q C R :=
  fun N B Ct P Z x y z => ht _ _ ⟨fun e => ha e _ _ _ _ _ (fun ρ' m' q => let ⟨m'', s, g⟩ := h1 e ρ' m' q; ⟨m'', s, g _ _ _ _ _ x y z⟩) y z, fun e => ⟨m, .refl m, hr e _ _ _ _ _ x y z⟩⟩
/-- raise -/
theorem g_raise {c : Nat} {f : Str} {a : WA} {v : D} (ha : Eva a G ρ m [v]) (h : ∀ P Z, R P Z → ∃ m', Sub m' m ∧ Z ⟨c, [(f, v)]⟩ m') : Go (wRaise c f a) G ρ m Q C R := fun N B Ct P Z x y z => ha _ _ ⟨v, rfl, h P Z z⟩
end
/-- the call n of these gives something -/
theorem GFn.imp {n : Nat} {ds : List D} {R R' : Rq} (h : GFn G n ds m R) (k : ∀ P Z, R' P Z → R P Z) : GFn G n ds m R' := fun P Z q => h P Z (k P Z q)
theorem Fn.rp {n : Nat} {ds : List D} {d : D} {T : D → Mm → Prop} (h : Fn G n ds m d) (t : T d m) : GFn G n ds m (Rp T) := fun P Z q => h Z P (q d m t)

def Evp (w : WP) (G : Gam) (ρ : Ev) (m : Mm) (o : Option Int) : Prop := ∀ Z P, P o m → w G ρ m Z P
theorem ep_no : Evp pNo G ρ m none := fun Z P h => h
theorem ep_at {e : WE} {i : Int} (he : Evd e G ρ m (.int i)) : Evp (pAt e) G ρ m (some i) := fun Z P h => he _ _ ⟨i, rfl, h⟩
theorem ev_slT {e : WE} {lo hi : WP} {xs : List D} {l u : Option Int} (he : Evd e G ρ m (.tup xs)) (hl : Evp lo G ρ m l) (hh : Evp hi G ρ m u) : Evd (wSl e lo hi) G ρ m (.tup (cutD xs l u)) := fun Z P h => he _ _ (hl _ _ (hh _ _ (show fSl (.tup xs) l u _ m _ from ⟨m, .refl m, h⟩)))
theorem el_slL {e : WE} {lo hi : WP} {a : Addr} {xs : List D} {l u : Option Int} (he : Evd e G ρ m (.ref a)) (e0 : m a = some (.lst xs)) (hl : Evp lo G ρ m l) (hh : Evp hi G ρ m u) : Evl (wSl e lo hi) G ρ m (cutD xs l u) :=
  fun Z P h => he _ _ (hl _ _ (hh _ _ (show fSl (.ref a) l u _ m _ from ⟨xs, e0, fun p hp => ⟨_, .refl _, h p _ hp (.refl _)⟩⟩)))
theorem el_slR {e : WE} {lo hi : WP} {xs : List D} {l u : Option Int} (he : Evd e G ρ m (.rol xs)) (hl : Evp lo G ρ m l) (hh : Evp hi G ρ m u) : Evl (wSl e lo hi) G ρ m (cutD xs l u) :=
  fun Z P h => he _ _ (hl _ _ (hh _ _ (show fSl (.rol xs) l u _ m _ from fun p hp => ⟨_, .refl _, h p _ hp (.refl _)⟩)))
theorem el_revL {e : WE} {a : Addr} {xs : List D} (he : Evd e G ρ m (.ref a)) (e0 : m a = some (.lst xs)) : Evl (wUn fRev e) G ρ m xs.reverse :=
  fun Z P h => he _ _ (show fRev (.ref a) m _ from ⟨xs, e0, fun p hp => ⟨_, .refl _, h p _ hp (.refl _)⟩⟩)
theorem fa_maxT {n : Int} {ns : List Int} : FvA fMax [.tup ((n :: ns).map .int)] m (.int (ns.foldl max n)) := fun P h => ⟨n, ns, rfl, h⟩
theorem fal_listT {xs : List D} : FvAL fList [.tup xs] m xs := fun P h => h
theorem fal_listL {a : Addr} {xs : List D} (e : m a = some (.lst xs)) : FvAL fList [.ref a] m xs := fun P h => ⟨xs, e, h⟩
theorem cut_none_k (xs : List D) (k : Nat) : cutD xs none (some (k : Int)) = xs.take k := by
  unfold cutD
  rw [HT.sIx_nat]
  show (xs.drop 0).take (min k xs.length - 0) = _
  rw [List.drop_zero, Nat.sub_zero, ← List.take_take, List.take_length]
theorem cut_k_none (xs : List D) (k : Nat) : cutD xs (some (k : Int)) none = xs.drop k := by
  unfold cutD
  rw [HT.sIx_nat]
  show (xs.drop (min k xs.length)).take (xs.length - min k xs.length) = _
  rw [List.take_of_length_le (by rw [List.length_drop]; exact Nat.le_refl _)]
  by_cases h : k ≤ xs.length
  · rw [Nat.min_eq_left h]
  · rw [Nat.min_eq_right (Nat.le_of_not_le h), List.drop_length, List.drop_of_length_le (Nat.le_of_not_le h)]

theorem el_compA {α : Type} (inj : α → D) (f : α → Option D) {wi : WI} {p : Pat} {t : WT} {elt : WE} {own : List Nat} {xs : List α} {ok : Mm → Prop} (hi : Evi wi G ρ m (xs.map inj) ok) (hok : ok m) (hz : xs.length ≤ sizeLine)
    (h : ∀ x ∈ xs, ∃ ρ', bindP p (inj x) (wip ρ own) = some ρ' ∧ ((f x = none ∧ Evt t G ρ' m false) ∨ ∃ d, f x = some d ∧ Evt t G ρ' m true ∧ Evd elt G ρ' m d)) : Evl (wComp wi p t elt own) G ρ m (xs.filterMap f) := by
  intro Z P hp
  refine hi _ _ ?_
  refine ⟨fun i acc m' => m' = m ∧ acc = (xs.take i).filterMap f, ⟨rfl, rfl⟩, ?_⟩
  rintro i acc m' ⟨rfl, rfl⟩
  refine ⟨hok, ?_⟩
  show ((xs.map inj).length ≤ i ∧ _) ∨ _
  rw [List.length_map]
  by_cases hl : xs.length ≤ i
  · exact .inl ⟨hl, fun a ha => by rw [List.take_of_length_le hl]; exact hp a _ ha (.refl _)⟩
  · have hlt : i < xs.length := Nat.lt_of_not_le hl
    have hx : xs[i]? = some xs[i] := List.getElem?_eq_getElem hlt
    obtain ⟨ρ', hb, hh⟩ := h xs[i] (List.getElem_mem hlt)
    refine .inr ⟨inj xs[i], ρ', by show (xs.map inj)[i]? = _; rw [List.getElem?_map, hx]; rfl, hb, ?_⟩
    rcases hh with ⟨e, ht⟩ | ⟨d, e, ht, hd⟩
    · exact ht _ _ ⟨fun z => (by cases z), fun _ => ⟨rfl, by rw [fm_take f xs i _ hx, e]; simp⟩⟩
    · refine ht _ _ ⟨fun _ => hd _ _ ⟨?_, rfl, by rw [fm_take f xs i _ hx, e]; simp⟩, fun z => (by cases z)⟩
      have := fm_len f xs i
      omega
/-- [g(x) for x in xs] -/
theorem el_mapA {α β : Type} (inj : α → D) (mk : β → D) (g : α → β) {wi : WI} {p : Pat} {elt : WE} {own : List Nat} {xs : List α} {ok : Mm → Prop} (hi : Evi wi G ρ m (xs.map inj) ok) (hok : ok m) (hz : xs.length ≤ sizeLine)
    (h : ∀ x ∈ xs, ∃ ρ', bindP p (inj x) (wip ρ own) = some ρ' ∧ Evd elt G ρ' m (mk (g x))) : Evl (wComp wi p wTrue elt own) G ρ m ((xs.map g).map mk) := by
  have := el_compA (t := wTrue) inj (fun x => some (mk (g x))) hi hok hz fun x hx => let ⟨ρ', a, b⟩ := h x hx; ⟨ρ', a, .inr ⟨mk (g x), rfl, et_true, b⟩⟩
  rwa [map_fm, show (fun x => mk (g x)) = mk ∘ g from rfl, ← List.map_map] at this
/-- [x for x in xs if q(x)] -/
theorem el_fltA {α : Type} (inj : α → D) (q : α → Bool) {wi : WI} {p : Pat} {t : WT} {elt : WE} {own : List Nat} {xs : List α} {ok : Mm → Prop} (hi : Evi wi G ρ m (xs.map inj) ok) (hok : ok m) (hz : xs.length ≤ sizeLine)
    (h : ∀ x ∈ xs, ∃ ρ', bindP p (inj x) (wip ρ own) = some ρ' ∧ Evt t G ρ' m (q x) ∧ Evd elt G ρ' m (inj x)) : Evl (wComp wi p t elt own) G ρ m ((xs.filter q).map inj) := by
  have := el_compA (t := t) inj (fun x => if q x then some (inj x) else none) hi hok hz fun x hx => by
    obtain ⟨ρ', a, b, c⟩ := h x hx
    refine ⟨ρ', a, ?_⟩
    cases e : q x with
    | true => exact .inr ⟨inj x, by simp, by rw [e] at b; exact b, c⟩
    | false => exact .inl ⟨by simp, by rw [e] at b; exact b⟩
  have e2 : ∀ xs : List α, xs.filterMap (fun x => if q x then some (inj x) else none) = (xs.filter q).map inj := by
    intro xs
    induction xs with
    | nil => rfl
    | cons x xs ih => by_cases e : q x <;> simp [e, ih]
  rwa [e2] at this
/-- over a new list -/
theorem el_compFA {α : Type} (inj : α → D) (f : α → Option D) {e : WE} {p : Pat} {t : WT} {elt : WE} {own : List Nat} {xs : List α} (hi : Evl e G ρ m (xs.map inj)) (hz : xs.length ≤ sizeLine)
    (h : ∀ m', Sub m m' → ∀ x ∈ xs, ∃ ρ', bindP p (inj x) (wip ρ own) = some ρ' ∧ ((f x = none ∧ Evt t G ρ' m' false) ∨ ∃ d, f x = some d ∧ Evt t G ρ' m' true ∧ Evd elt G ρ' m' d)) : Evl (wComp (wIter e) p t elt own) G ρ m (xs.filterMap f) := by
  intro Z P hp
  show e G ρ m Z _
  refine hi _ _ fun q m1 hq s => ?_
  have e1 : m1 q = some (.lst (xs.map inj)) := s.at
  have key : Evl (wComp (wIter (wC (.ref q))) p t elt own) G ρ m1 (xs.filterMap f) := el_compA inj f (ei_lst ev_c e1) e1 hz (h m1 (s.sets hq))
  exact key Z P fun r m' hr s' => hp r m' (hr.sub (s.sets hq)) ((s.sets hq).over.trans s')
theorem el_mapFA {α β : Type} (inj : α → D) (mk : β → D) (g : α → β) {e : WE} {p : Pat} {elt : WE} {own : List Nat} {xs : List α} (hi : Evl e G ρ m (xs.map inj)) (hz : xs.length ≤ sizeLine)
    (h : ∀ m', Sub m m' → ∀ x ∈ xs, ∃ ρ', bindP p (inj x) (wip ρ own) = some ρ' ∧ Evd elt G ρ' m' (mk (g x))) : Evl (wComp (wIter e) p wTrue elt own) G ρ m ((xs.map g).map mk) := by
  have := el_compFA (t := wTrue) inj (fun x => some (mk (g x))) hi hz fun m' s x hx => let ⟨ρ', a, b⟩ := h m' s x hx; ⟨ρ', a, .inr ⟨mk (g x), rfl, et_true, b⟩⟩
  rwa [map_fm, show (fun x => mk (g x)) = mk ∘ g from rfl, ← List.map_map] at this
/-- a comprehension with an effect, by an invariant -/
theorem er_compI {wi : WI} {p : Pat} {elt : WE} {own : List Nat} {its : List D} {ok : Mm → Prop} (I : Nat → List D → Mm → Prop) (hi : Evi wi G ρ m its ok) (h0 : I 0 [] m) (hz : its.length ≤ sizeLine)
    (hs : ∀ i acc m' x, I i acc m' → its[i]? = some x → ∃ ρ', bindP p x (wip ρ own) = some ρ' ∧ Evr elt G ρ' m' fun d m'' => I (i + 1) (acc ++ [d]) m'') (hok : ∀ i acc m', I i acc m' → ok m') :
    Evr (wComp wi p wTrue elt own) G ρ m fun x m' => ∃ q acc m1, x = .ref q ∧ Fr m1 q ∧ m' = m1.set q (.lst acc) ∧ acc.length = its.length ∧ I its.length acc m1 := by
  intro Z P hp
  refine hi _ _ ?_
  refine ⟨fun i acc m' => I i acc m' ∧ acc.length = i ∧ i ≤ its.length, ⟨h0, rfl, Nat.zero_le _⟩, ?_⟩
  rintro i acc m' ⟨hI, hl, hle⟩
  refine ⟨hok _ _ _ hI, ?_⟩
  show (its.length ≤ i ∧ _) ∨ _
  by_cases h : its.length ≤ i
  · have e : i = its.length := Nat.le_antisymm hle h
    exact .inl ⟨h, fun a ha => hp _ _ ⟨a, acc, m', rfl, ha, rfl, by rw [hl, e], by rw [← e]; exact hI⟩⟩
  · have hlt : i < its.length := Nat.lt_of_not_le h
    have hx : its[i]? = some its[i] := List.getElem?_eq_getElem hlt
    obtain ⟨ρ', hb, he⟩ := hs i acc m' _ hI hx
    exact .inr ⟨its[i], ρ', hx, hb, fun _ => he _ _ fun d m'' hI' => ⟨by omega, hI', by rw [List.length_append, hl]; rfl, hlt⟩, fun z => by cases z⟩

theorem fv_ixD {a : Addr} {y v : D} (h : DG m a y (some v)) : Fv2 fIx (.ref a) y m v := fun P hp => .inr ⟨v, h, hp⟩
theorem fv_inD {neg : Bool} {a : Addr} {x : D} {o : Option D} (h : DG m a x o) : Fv2 (fInG neg) x (.ref a) m (.bl (xor neg o.isSome)) := fun P hp => .inr (.inl ⟨a, o, rfl, h, hp⟩)
/-- d[k] = v -/
theorem gs_dict {o i : WE} {a : Addr} {k v : D} {u : O} (ho : Evd o G ρ m (.ref a)) (hi : Evd i G ρ m k) (h : DP m a k v u) : ∀ P : Ev → Mm → Prop, P ρ (m.set a u) → gSb fSet o i G v ρ m P := fun P hp => ho _ _ (hi _ _ (.inr ⟨a, u, rfl, h, hp⟩))
theorem gs_list {o i : WE} {a : Addr} {xs : List D} {k : Int} {j : Nat} {v : D} (ho : Evd o G ρ m (.ref a)) (hi : Evd i G ρ m (.int k)) (e : m a = some (.lst xs)) (h : ixN xs.length k = some j) : ∀ P : Ev → Mm → Prop, P ρ (m.set a (.lst (xs.set j v))) → gSb fSet o i G v ρ m P :=
  fun P hp => ho _ _ (hi _ _ (.inl ⟨a, xs, k, j, rfl, rfl, e, h, hp⟩))
theorem gs_fld {c : Nat} {f : Str} {o : WE} {p : Addr} {fs : List (Str × D)} {v : D} (ho : Evd o G ρ m (.ref p)) (e : m p = some (.ins c fs)) (hz : fs.length < 1000) : ∀ P : Ev → Mm → Prop, P ρ (m.set p (.ins c (putN f v fs))) → gFl c f o G v ρ m P := fun P hp => ho _ _ ⟨p, fs, rfl, e, hz, hp⟩
/-- {k: v for x in xs}, by tuples -/
theorem ed_dictT {α : Type} (inj : α → D) (kf : α → List Key) (vf : α → D) {wi : WI} {p : Pat} {k v : WE} {own : List Nat} {xs : List α} {ok : Mm → Prop} (hi : Evi wi G ρ m (xs.map inj) ok) (hok : ok m) (hz : xs.length ≤ sizeLine)
    (h : ∀ x ∈ xs, ∃ ρ', bindP p (inj x) (wip ρ own) = some ρ' ∧ Evd k G ρ' m (.tup ((kf x).map keyD)) ∧ Evd v G ρ' m (vf x)) :
    Evr (wDCT wi p wTrue k v own) G ρ m fun x m' => ∃ q, x = .ref q ∧ Fr m q ∧ m' = m.set q (.dT (xs.foldl (fun acc x => putD acc (kf x) (vf x)) [])) := by
  intro Z P hp
  refine hi _ _ ?_
  refine ⟨fun i acc m' => m' = m ∧ acc.length ≤ i ∧ acc = (xs.take i).foldl (fun acc x => putD acc (kf x) (vf x)) [], ⟨rfl, Nat.zero_le _, rfl⟩, ?_⟩
  rintro i acc m' ⟨rfl, hle, rfl⟩
  refine ⟨hok, ?_⟩
  show ((xs.map inj).length ≤ i ∧ _) ∨ _
  rw [List.length_map]
  by_cases hl : xs.length ≤ i
  · exact .inl ⟨hl, fun a ha => by rw [List.take_of_length_le hl]; exact hp _ _ ⟨a, rfl, ha, rfl⟩⟩
  · have hlt : i < xs.length := Nat.lt_of_not_le hl
    have hx : xs[i]? = some xs[i] := List.getElem?_eq_getElem hlt
    obtain ⟨ρ', hb, hk, hv⟩ := h xs[i] (List.getElem_mem hlt)
    refine .inr ⟨inj xs[i], ρ', by show (xs.map inj)[i]? = _; rw [List.getElem?_map, hx]; rfl, hb, ?_⟩
    refine et_true _ _ ⟨fun _ => hk _ _ (hv _ _ ⟨kf xs[i], rfl, by omega, rfl, ?_, ?_⟩), fun z => by cases z⟩
    · have := length_putD (((xs.take i).foldl (fun acc x => putD acc (kf x) (vf x)) [])) (kf xs[i]) (vf xs[i])
      omega
    · rw [List.take_add_one, hx, List.foldl_append]; rfl
end
section
variable {κ : Type} [DecidableEq κ]
theorem valD_cons (p : κ × D) (r : List (κ × D)) (k : κ) : valD (p :: r) k = if p.1 = k then some p.2 else valD r k := by
  unfold valD
  by_cases e : p.1 = k <;> simp [e]
theorem valD_repl (k k' : κ) (v : D) : ∀ kvs : List (κ × D), valD (kvs.map fun kv => if kv.1 = k then (kv.1, v) else kv) k' = if k = k' then (if (valD kvs k).isSome then some v else none) else valD kvs k'
  | [] => by
    show none = _
    by_cases e : k = k'
    · rw [if_pos e]; rfl
    · rw [if_neg e]; rfl
  | p :: r => by
    rw [List.map_cons, valD_cons, valD_repl k k' v r, valD_cons, valD_cons]
    obtain ⟨q, w⟩ := p
    by_cases e : k = k'
    · subst e
      by_cases e2 : q = k <;> simp [e2]
    · by_cases e2 : q = k
      · subst e2; simp [e]
      · by_cases e3 : q = k'
        · subst e3; simp [e, e2]
        · simp [e, e2, e3]
theorem valD_snoc (kvs : List (κ × D)) (k k' : κ) (v : D) : valD (kvs ++ [(k, v)]) k' = (valD kvs k').or (if k = k' then some v else none) := by
  induction kvs with
  | nil => rw [List.nil_append, valD_cons]; by_cases e : k = k' <;> simp [e, valD]
  | cons p r ih => rw [List.cons_append, valD_cons, valD_cons, ih]; by_cases e : p.1 = k' <;> simp [e]
theorem valD_putD (kvs : List (κ × D)) (k k' : κ) (v : D) : valD (putD kvs k v) k' = if k = k' then some v else valD kvs k' := by
  unfold putD
  split
  · rename_i h
    rw [valD_repl, if_pos h]
  · rename_i h
    have hn : valD kvs k = none := by cases e : valD kvs k with
      | none => rfl
      | some _ => rw [e] at h; exact absurd rfl h
    rw [valD_snoc]
    by_cases e : k = k'
    · subst e; rw [hn]; simp
    · simp [e]
theorem valD_fold {α : Type} (kf : α → κ) (vf : α → D) (k' : κ) : ∀ (xs : List α) (acc : List (κ × D)), (valD (xs.foldl (fun acc x => putD acc (kf x) (vf x)) acc) k').isSome = ((valD acc k').isSome || xs.any fun x => decide (kf x = k'))
  | [], acc => by simp
  | x :: xs, acc => by
    rw [List.foldl_cons, valD_fold kf vf k' xs, valD_putD, List.any_cons]
    by_cases e : kf x = k' <;> simp [e]
end
theorem keys_ints (xs : List Int) : (xs.map (Sum.inl : Int → Key)).map keyD = xs.map D.int := by rw [List.map_map]; rfl
/-- a dict whose keys are tuples of ints -/
theorem dg_ints {m : Mm} {a : Addr} {kvs : List (List Key × D)} (e : m a = some (.dT kvs)) (xs : List Int) : DG m a (.tup (xs.map .int)) (valD kvs (xs.map .inl)) := .inr ⟨kvs, _, e, by rw [keys_ints], rfl⟩
theorem dp_ints {m : Mm} {a : Addr} {kvs : List (List Key × D)} (e : m a = some (.dT kvs)) (xs : List Int) (v : D) (hz : kvs.length < sizeLine) : DP m a (.tup (xs.map .int)) v (.dT (putD kvs (xs.map .inl) v)) := .inr ⟨kvs, _, e, by rw [keys_ints], hz, rfl⟩
theorem can_all {ps : List PyData} (h : ∀ p ∈ ps, PyData.canLay0 p = true) : PyData.canLayAll0 ps = true := by
  induction ps with
  | nil => rfl
  | cons p r ih =>
    unfold PyData.canLayAll0
    rw [h p List.mem_cons_self, ih fun q hq => h q (List.mem_cons_of_mem _ hq)]
    rfl
theorem dep_all {n : Nat} {ps : List PyData} (h : ∀ p ∈ ps, PyData.depth p ≤ n) : PyData.depthAll ps ≤ n := by
  induction ps with
  | nil => exact Nat.zero_le _
  | cons p r ih =>
    unfold PyData.depthAll
    exact Nat.max_le.mpr ⟨h p List.mem_cons_self, ih fun q hq => h q (List.mem_cons_of_mem _ hq)⟩
theorem shp_lst {ps : List PyData} (h : ∀ p ∈ ps, PyData.canLay0 p = true ∧ PyData.depth p ≤ 60) : SeqAt.shaped (.list ps) = true := by
  have h2 := dep_all fun p hp => (h p hp).2
  refine Bool.and_eq_true_iff.mpr ⟨can_all fun p hp => (h p hp).1, decide_eq_true ?_⟩
  show PyData.depthAll ps + 1 ≤ 64
  omega
theorem shp_tup {ps : List PyData} (h : ∀ p ∈ ps, PyData.canLay0 p = true ∧ PyData.depth p ≤ 60) : SeqAt.shaped (.tuple ps) = true := shp_lst h
/-- a list is [] -/
theorem fv_eqNil {m : Mm} {p q : Addr} {xs : List D} (e1 : m p = some (.lst xs)) (e2 : m q = some (.lst [])) (hx : isPys xs = true) (sx : SeqAt.shaped (.list (pyDs xs)) = true) : Fv2 fEq (.ref p) (.ref q) m (.bl xs.isEmpty) := by
  have h := fv_eqL e1 e2 hx rfl sx rfl
  rw [show PyData.eqvAll (pyDs xs) (pyDs []) = xs.isEmpty from by rw [show pyDs [] = [] from rfl, eqvAll_nil]; cases xs <;> rfl] at h
  exact h
theorem fv_eqNilI {m : Mm} {p q : Addr} {xs : List Int} (e1 : m p = some (.lst (xs.map .int))) (e2 : m q = some (.lst [])) : Fv2 fEq (.ref p) (.ref q) m (.bl xs.isEmpty) := by
  have h := fv_eqNil e1 e2 (isPys_ints xs) (by rw [pyDs_ints]; exact PySem.W.ke_shaped_ints xs)
  rwa [show (xs.map D.int).isEmpty = xs.isEmpty from by cases xs <;> rfl] at h
section
variable {G : Gam} {ρ : Ev} {m : Mm}
theorem ev_binLL {f : F2} {a b : WE} {xs ys : List D} {d : D} (ha : Evl a G ρ m xs) (hb : ∀ m', Sub m m' → Evl b G ρ m' ys) (hf : ∀ p q m', m' p = some (.lst xs) → m' q = some (.lst ys) → Fv2 f (.ref p) (.ref q) m' d) : Evd (wBin f a b) G ρ m d :=
  fun Z P h => ha _ _ fun p m1 hp s => hb m1 (s.sets hp) _ _ fun q m2 hq s2 => hf p q m2 (s2.sets hq p _ s.at) s2.at _ ⟨m, (s.sets hp).trans (s2.sets hq), h⟩
theorem er_pop {o : WE} {a : Addr} {ys : List D} {y : D} (ho : Evd o G ρ m (.ref a)) (e : m a = some (.lst ys)) (hy : ys[ys.length - 1]? = some y) : Evr (wBM "list" fPop o wNil) G ρ m fun d m' => d = y ∧ Sub (m.set a (.lst ys.dropLast)) m' :=
  fun Z P h => ho _ _ ⟨.inl ⟨rfl, ys, e⟩, ⟨ys, y, e, hy, _, .refl _, h _ _ ⟨rfl, .refl _⟩⟩⟩
theorem er_popI {o i : WE} {a : Addr} {ys : List D} {k : Int} {j : Nat} {y : D} (ho : Evd o G ρ m (.ref a)) (hi : Evd i G ρ m (.int k)) (e : m a = some (.lst ys)) (hk : ixN ys.length k = some j) (hy : ys[j]? = some y) : Evr (wBM "list" fPop o (wCons i wNil)) G ρ m fun d m' => d = y ∧ m' = m.set a (.lst (ys.eraseIdx j)) :=
  fun Z P h => ho _ _ ⟨.inl ⟨rfl, ys, e⟩, hi _ _ ⟨ys, j, y, e, hk, hy, _, .refl _, h _ _ ⟨rfl, rfl⟩⟩⟩
theorem g_extend {o e : WE} {a : Addr} {ys zs : List D} {Q C : Ev → Mm → Prop} {R : Rq} (ho : Evd o G ρ m (.ref a)) (e0 : m a = some (.lst ys)) (he : Evl e G ρ m zs) (hz : ys.length + zs.length ≤ sizeLine) (h : ∀ q m', Fr m q → q ≠ a → Sub ((m.set q (.lst zs)).set a (.lst (ys ++ zs))) m' → Q ρ m') : Go (wExpr (wBM "list" fExtend o (wCons e wNil))) G ρ m Q C R :=
  fun N B Ct P Z x y z => ho _ _ ⟨.inl ⟨rfl, ys, e0⟩, he _ _ fun q m' hq s => ⟨ys, zs, s.sets hq a _ e0, s.at, hz, _, .refl _, x _ _ (h q _ hq (fun e => by subst e; unfold Fr at hq; rw [hq] at e0; cases e0) s.over)⟩⟩
end
section
variable {G : Gam} {ρ : Ev} {m : Mm}
def Evw (a : WE) (G : Gam) (ρ : Ev) (m : Mm) (d : D) : Prop := ∀ Z P, (∀ m', Sub m m' → P d m') → a G ρ m Z P
def Etw (t : WT) (G : Gam) (ρ : Ev) (m : Mm) (k : Bool) : Prop := ∀ Z P, (∀ m', Sub m m' → P k m') → t G ρ m Z P
theorem Evd.w {a : WE} {d : D} (h : Evd a G ρ m d) : Evw a G ρ m d := fun Z P k => h Z P (k m (.refl m))
theorem Evt.w {a : WT} {d : Bool} (h : Evt a G ρ m d) : Etw a G ρ m d := fun Z P k => h Z P (k m (.refl m))
/-- f(.., [..]) -/
theorem ew_callL {n ar : Nat} {a : WA} {T : List D → Mm → Prop} {d : D} (ha : ∀ Z P, (∀ ds m', Sub m m' → T ds m' → P ds m') → a G ρ m Z P) (hf : ∀ ds m', Sub m m' → T ds m' → ds.length = ar ∧ Fn G n ds m' d) : Evw (wCallN n ar a) G ρ m d := fun Z P h => ha _ _ fun ds m' s t => ⟨(hf ds m' s t).1, (hf ds m' s t).2 _ _ (h m' s)⟩
theorem ea_consL {a : WE} {r : WA} {d : D} {xs : List D} (ha : Evd a G ρ m d) (hr : Eval1 r G ρ m xs) : ∀ Z P, (∀ ds m', Sub m m' → (∃ p, ds = [d, .ref p] ∧ m' p = some (.lst xs)) → P ds m') → (wCons a r) G ρ m Z P := fun Z P h => ha _ _ (hr _ _ fun p m' hp s => h _ _ (s.sets hp) ⟨p, rfl, s.at⟩)
/-- f([..], [..]) -/
theorem ea_LL {a b : WE} {xs ys : List D} (ha : Evl a G ρ m xs) (hb : ∀ m', Sub m m' → Evl b G ρ m' ys) : ∀ Z P, (∀ ds m', Sub m m' → (∃ p q, ds = [.ref p, .ref q] ∧ m' p = some (.lst xs) ∧ m' q = some (.lst ys)) → P ds m') → (wCons a (wCons b wNil)) G ρ m Z P :=
  fun Z P h => ha _ _ fun p m1 hp s => hb m1 (s.sets hp) _ _ fun q m2 hq s2 => h _ _ ((s.sets hp).trans (s2.sets hq)) ⟨p, q, rfl, s2.sets hq p _ s.at, s2.at⟩
theorem etw_tru {a : WE} {x : D} {k : Bool} (ha : Evw a G ρ m x) (ht : ∀ m', Tru m' x k) : Etw (wTru a) G ρ m k := fun Z P h => ha _ _ fun m' s => ht m' _ (h m' s)
theorem etw_tst {a : WE} {k : Bool} (ha : Evw a G ρ m (.bl k)) : Etw (wTst a) G ρ m k := fun Z P h => ha _ _ fun m' s => h m' s
theorem etw_not {a : WT} {k : Bool} (ha : Etw a G ρ m k) : Etw (wNot a) G ρ m (!k) := fun Z P h => ha _ _ fun m' s => h m' s
theorem etw_or {a b : WT} {k l : Bool} (ha : Etw a G ρ m k) (hb : k = false → ∀ m', Sub m m' → Etw b G ρ m' l) : Etw (wOr a b) G ρ m (k || l) := fun Z P h => ha _ _ fun m' s => ⟨fun e => by subst e; exact h m' s, fun e => hb e m' s _ _ fun m'' s' => by subst e; exact h m'' (s.trans s')⟩
theorem etw_and {a b : WT} {k l : Bool} (ha : Etw a G ρ m k) (hb : k = true → ∀ m', Sub m m' → Etw b G ρ m' l) : Etw (wAnd a b) G ρ m (k && l) := fun Z P h => ha _ _ fun m' s => ⟨fun e => hb e m' s _ _ fun m'' s' => by subst e; exact h m'' (s.trans s'), fun e => by subst e; exact h m' s⟩
theorem Etw.to {a : WT} {k k' : Bool} (h : Etw a G ρ m k') (e : k' = k) : Etw a G ρ m k := e ▸ h
theorem Evw.to {a : WE} {k k' : D} (h : Evw a G ρ m k') (e : k' = k) : Evw a G ρ m k := e ▸ h
section
variable {Q C : Ev → Mm → Prop} {R : Rq}
theorem g_ifrW {t : WT} {a r : WS} {k : Bool} (ht : Etw t G ρ m k) (ha : k = true → ∀ m', Sub m m' → Go a G ρ m' No C R) (hr : k = false → Go r G ρ m Q C R) : Go (wSeq (wIfS t a wNext) r) G ρ m Q C R :=
  fun N B Ct P Z x y z => ht _ _ fun m' s => ⟨fun e => ha e m' s _ _ _ _ _ (fun _ _ q => q.elim) y z, fun e => ⟨m, s, hr e _ _ _ _ _ x y z⟩⟩
theorem g_setW {e : WE} {t : WS} {i : Nat} {x : D} (he : Evw e G ρ m x) (ht : Go t G (sto ρ i (some x)) m Q C R) : Go (wSeq (wAsg e (gNm i)) t) G ρ m Q C R := fun N B Ct P Z a b c => he _ _ fun m' s => ⟨m, s, ht _ _ _ _ _ a b c⟩
theorem g_retW {e : WE} {d : D} (he : Evw e G ρ m d) (h : ∀ P Z, R P Z → fgt P d m) : Go (wRet e) G ρ m Q C R := fun N B Ct P Z a b c => he _ _ fun m' s => let ⟨m0, s0, p⟩ := h P Z c; ⟨m0, s0.trans s, p⟩
end
end
end Qz
set_option Elab.async false
set_option linter.all false
set_option maxRecDepth 100000
set_option maxHeartbeats 2000000
namespace Qz
open PySem PySem.Spec PyProof.Rows L2
section
variable {G : Gam} {ρ : Ev} {m : Mm}
def Era (a : WA) (G : Gam) (ρ : Ev) (m : Mm) (T : List D → Mm → Prop) : Prop := ∀ Z P, (∀ ds m', T ds m' → P ds m') → a G ρ m Z P
def Etr (a : WT) (G : Gam) (ρ : Ev) (m : Mm) (T : Bool → Mm → Prop) : Prop := ∀ Z P, (∀ k m', T k m' → P k m') → a G ρ m Z P
theorem Eva.r {a : WA} {ds : List D} (h : Eva a G ρ m ds) : Era a G ρ m (fun x m' => x = ds ∧ m' = m) := fun Z P k => h Z P (k _ m ⟨rfl, rfl⟩)
theorem Era.imp {a : WA} {T T' : List D → Mm → Prop} (h : Era a G ρ m T) (k : ∀ d m', T d m' → T' d m') : Era a G ρ m T' := fun Z P q => h Z P fun d m' t => q d m' (k d m' t)
theorem era_nil {T : List D → Mm → Prop} (h : T [] m) : Era wNil G ρ m T := fun Z P k => k _ _ h
theorem era_cons {a : WE} {r : WA} {T : D → Mm → Prop} {U : List D → Mm → Prop} (ha : Evr a G ρ m T) (hr : ∀ d m', T d m' → Era r G ρ m' fun ds m'' => U (d :: ds) m'') : Era (wCons a r) G ρ m U := fun Z P k => ha _ _ fun d m' t => hr d m' t _ _ fun ds m'' u => k _ _ u
theorem era_consD {a : WE} {r : WA} {d : D} {U : List D → Mm → Prop} (ha : Evd a G ρ m d) (hr : Era r G ρ m fun ds m'' => U (d :: ds) m'') : Era (wCons a r) G ρ m U := fun Z P k => ha _ _ (hr _ _ fun ds m'' u => k _ _ u)
theorem era_consL {a : WE} {r : WA} {xs : List D} {U : List D → Mm → Prop} (ha : Evl a G ρ m xs) (hr : ∀ p m', Fr m p → Sub (m.set p (.lst xs)) m' → Era r G ρ m' fun ds m'' => U (.ref p :: ds) m'') : Era (wCons a r) G ρ m U := fun Z P k => ha _ _ fun p m' hp s => hr p m' hp s _ _ fun ds m'' u => k _ _ u
theorem er_tup {a : WA} {T : List D → Mm → Prop} (ha : Era a G ρ m T) (hz : ∀ ds m', T ds m' → ds.length ≤ sizeLine) : Evr (wTup a) G ρ m fun d m' => ∃ ds, d = .tup ds ∧ T ds m' := fun Z P k => ha _ _ fun ds m' t => ⟨hz ds m' t, k _ _ ⟨ds, rfl, t⟩⟩
theorem er_lst {a : WA} {T : List D → Mm → Prop} (ha : Era a G ρ m T) (hz : ∀ ds m', T ds m' → ds.length ≤ sizeLine) : Evr (wLst a) G ρ m fun d m' => ∃ ds m1 p, d = .ref p ∧ T ds m1 ∧ Fr m1 p ∧ m' = m1.set p (.lst ds) := fun Z P k => ha _ _ fun ds m' t => ⟨hz ds m' t, fun p hp => k _ _ ⟨ds, m', p, rfl, t, hp, rfl⟩⟩
theorem er_callA {n ar : Nat} {a : WA} {T : List D → Mm → Prop} {U : D → Mm → Prop} (ha : Era a G ρ m T) (hf : ∀ ds m', T ds m' → ds.length = ar ∧ GFn G n ds m' (Rp U)) : Evr (wCallN n ar a) G ρ m U := fun Z P k => ha _ _ fun ds m' t => ⟨(hf ds m' t).1, (hf ds m' t).2 P Z k⟩
theorem er_cb {f : FA} {a : WA} {T : List D → Mm → Prop} {U : D → Mm → Prop} (ha : Era a G ρ m T) (hf : ∀ ds m', T ds m' → ∃ d, FvA f ds m' d ∧ U d m') : Evr (wCB f a) G ρ m U := fun Z P k => ha _ _ fun ds m' t => let ⟨d, h, u⟩ := hf ds m' t; h _ ⟨m', .refl m', k d m' u⟩
theorem er_binR {f : F2} {a b : WE} {x : D} {T U : D → Mm → Prop} (ha : Evd a G ρ m x) (hb : Evr b G ρ m T) (hf : ∀ y m', T y m' → ∃ d, Fv2 f x y m' d ∧ U d m') : Evr (wBin f a b) G ρ m U := fun Z P k => ha _ _ (hb _ _ fun y m' t => let ⟨d, h, u⟩ := hf y m' t; h _ ⟨m', .refl m', k d m' u⟩)
theorem er_binL {f : F2} {a b : WE} {T U : D → Mm → Prop} (ha : Evr a G ρ m T) (hb : ∀ x m', T x m' → ∃ y d, Evd b G ρ m' y ∧ Fv2 f x y m' d ∧ U d m') : Evr (wBin f a b) G ρ m U := fun Z P k => ha _ _ fun x m' t => let ⟨y, d, h1, h2, u⟩ := hb x m' t; h1 _ _ (h2 _ ⟨m', .refl m', k d m' u⟩)
theorem er_popR {o i : WE} {a : Addr} {ys0 : List D} {T U : D → Mm → Prop} (ho : Evd o G ρ m (.ref a)) (e0 : m a = some (.lst ys0)) (hi : Evr i G ρ m T) (hf : ∀ d m', T d m' → ∃ k ys j y, d = .int k ∧ m' a = some (.lst ys) ∧ ixN ys.length k = some j ∧ ys[j]? = some y ∧ U y (m'.set a (.lst (ys.eraseIdx j)))) : Evr (wBM "list" fPop o (wCons i wNil)) G ρ m U :=
  fun Z P k => ho _ _ ⟨.inl ⟨rfl, ys0, e0⟩, hi _ _ fun d m' t => by
    obtain ⟨i, ys, j, y, rfl, e, h1, h2, u⟩ := hf d m' t
    exact ⟨ys, j, y, e, h1, h2, _, .refl _, k _ _ u⟩⟩
theorem etr_tst {a : WE} {T : D → Mm → Prop} (ha : Evr a G ρ m T) (hb : ∀ d m', T d m' → ∃ k, d = .bl k) : Etr (wTst a) G ρ m fun k m' => T (.bl k) m' := fun Z P k => ha _ _ fun d m' t => by
  obtain ⟨b, rfl⟩ := hb d m' t
  exact k _ _ t
theorem er_if {t : WT} {a b : WE} {T : Bool → Mm → Prop} {U : D → Mm → Prop} (ht : Etr t G ρ m T) (ha : ∀ m', T true m' → Evr a G ρ m' U) (hb : ∀ m', T false m' → Evr b G ρ m' U) : Evr (wIf t a b) G ρ m U := fun Z P k => ht _ _ fun b m' t => ⟨fun e => ha m' (e ▸ t) _ _ k, fun e => hb m' (e ▸ t) _ _ k⟩
section
variable {Q C : Ev → Mm → Prop} {R : Rq}
theorem g_appendR {o e : WE} {a : Addr} {ys0 : List D} {T : D → Mm → Prop} (ho : Evd o G ρ m (.ref a)) (e0 : m a = some (.lst ys0)) (he : Evr e G ρ m T) (h : ∀ y m', T y m' → ∃ ys, m' a = some (.lst ys) ∧ ys.length < sizeLine ∧ Q ρ (m'.set a (.lst (ys ++ [y])))) : Go (wExpr (wBM "list" fAppend o (wCons e wNil))) G ρ m Q C R :=
  fun N B Ct P Z x y z => ho _ _ ⟨.inl ⟨rfl, ys0, e0⟩, he _ _ fun d m' t => let ⟨ys, e1, h1, h2⟩ := h d m' t; ⟨ys, e1, h1, _, .refl _, x _ _ h2⟩⟩
/-- l[k] += e -/
theorem g_augL {o i e : WE} {a : Addr} {xs : List D} {k : Int} {j : Nat} {z t : Int} (ho : Evd o G ρ m (.ref a)) (hi : Evd i G ρ m (.int k)) (e0 : m a = some (.lst xs)) (hk : 0 ≤ k) (hx : xs[k.toNat]? = some (.int z)) (he : Evd e G ρ m (.int t)) (hj : ixN xs.length k = some j) (h : Q ρ (m.set a (.lst (xs.set j (.int (z + t)))))) : Go (wAugS fGi fIAdd fSet o i e) G ρ m Q C R :=
  fun N B Ct P Z x y c => ho _ _ (hi _ _ ⟨a, rfl, .inl ⟨xs, k, _, e0, rfl, hk, hx, he _ _ (show fIAdd (.int z) (.int t) m _ from .inl ⟨a, xs, k, j, rfl, rfl, e0, hj, x _ _ h⟩)⟩⟩)
theorem g_ifR {t : WT} {a b : WS} {T : Bool → Mm → Prop} (ht : Etr t G ρ m T) (ha : ∀ m', T true m' → Go a G ρ m' Q C R) (hb : ∀ m', T false m' → Go b G ρ m' Q C R) : Go (wIfS t a b) G ρ m Q C R := fun N B Ct P Z x y z => ht _ _ fun k m' t => ⟨fun e => ha m' (e ▸ t) _ _ _ _ _ x y z, fun e => hb m' (e ▸ t) _ _ _ _ _ x y z⟩
end
/-- [.. for x in its], both with effects -/
theorem er_compR {wi : WI} {p : Pat} {elt : WE} {own : List Nat} {T : List D → Mm → Prop} (hi : ∀ Z P, (∀ its m1, T its m1 → P ⟨its, fun _ => True⟩ m1) → wi G ρ m Z P) (hz : ∀ its m1, T its m1 → its.length ≤ sizeLine) (I : List D → Nat → List D → Mm → Prop) (h0 : ∀ its m1, T its m1 → I its 0 [] m1)
    (hs : ∀ its m1, T its m1 → ∀ i acc m' x, I its i acc m' → its[i]? = some x → ∃ ρ', bindP p x (wip ρ own) = some ρ' ∧ Evr elt G ρ' m' fun d m'' => I its (i + 1) (acc ++ [d]) m'') :
    Evr (wComp wi p wTrue elt own) G ρ m fun x m' => ∃ q its acc m1, x = .ref q ∧ Fr m1 q ∧ m' = m1.set q (.lst acc) ∧ acc.length = its.length ∧ I its its.length acc m1 := by
  intro Z P hp
  refine hi _ _ fun its m1 ht => ?_
  refine ⟨fun i acc m' => I its i acc m' ∧ acc.length = i ∧ i ≤ its.length, ⟨h0 its m1 ht, rfl, Nat.zero_le _⟩, ?_⟩
  rintro i acc m' ⟨hI, hl, hle⟩
  refine ⟨True.intro, ?_⟩
  show (its.length ≤ i ∧ _) ∨ _
  by_cases h : its.length ≤ i
  · have e : i = its.length := Nat.le_antisymm hle h
    exact .inl ⟨h, fun a ha => hp _ _ ⟨a, its, acc, m', rfl, ha, rfl, by rw [hl, e], by rw [← e]; exact hI⟩⟩
  · have hlt : i < its.length := Nat.lt_of_not_le h
    have hx : its[i]? = some its[i] := List.getElem?_eq_getElem hlt
    obtain ⟨ρ', hb, he⟩ := hs its m1 ht i acc m' _ hI hx
    have := hz its m1 ht
    exact .inr ⟨its[i], ρ', hx, hb, fun _ => he _ _ fun d m'' hI' => ⟨by omega, hI', by rw [List.length_append, hl]; rfl, hlt⟩, fun z => by cases z⟩
end
theorem Mm.set_id {m : Mm} {p : Addr} {o : O} (h : m p = some o) : m.set p o = m := by
  funext a
  unfold Mm.set
  split
  · rename_i e; rw [e, h]
  · rfl
theorem Mm.set_comm {m : Mm} {p q : Addr} {o u : O} (h : p ≠ q) : (m.set p o).set q u = (m.set q u).set p o := by
  funext a
  unfold Mm.set
  by_cases h1 : a = q
  · by_cases h2 : a = p
    · exact absurd (h2.symm.trans h1) h
    · simp [h1, h2]
      intro e; exact absurd e.symm h
  · by_cases h2 : a = p
    · simp [h1, h2]; intro e; exact absurd e h
    · simp [h1, h2]
/-- the list at p changed to one of B, all else kept -/
def Chg (B : List D → Prop) (m : Mm) (p : Addr) (m' : Mm) : Prop := ∃ l, B l ∧ Sub (m.set p (.lst l)) m'
theorem Chg.trans {B : List D → Prop} {m m1 m2 : Mm} {p : Addr} (a : Chg B m p m1) (b : Chg B m1 p m2) : Chg B m p m2 := by
  obtain ⟨l1, h1, s1⟩ := a
  obtain ⟨l2, h2, s2⟩ := b
  refine ⟨l2, h2, ?_⟩
  have := (s1.over (p := p) (o := .lst l2)).trans s2
  rwa [Mm.set_set] at this
theorem Chg.sub {B : List D → Prop} {m m1 m2 : Mm} {p : Addr} (a : Chg B m p m1) (s : Sub m1 m2) : Chg B m p m2 := let ⟨l, h, t⟩ := a; ⟨l, h, t.trans s⟩
theorem Chg.at {B : List D → Prop} {m m1 : Mm} {p : Addr} (a : Chg B m p m1) : ∃ l, B l ∧ m1 p = some (.lst l) := let ⟨l, h, t⟩ := a; ⟨l, h, t.at⟩
theorem Chg.keep {B : List D → Prop} {m m1 : Mm} {p a : Addr} {o : O} (c : Chg B m p m1) (h : m a = some o) (ne : a ≠ p) : m1 a = some o := let ⟨l, _, t⟩ := c; t a o (by rw [Mm.set_ne ne]; exact h)
theorem Chg.id {B : List D → Prop} {m : Mm} {p : Addr} {l : List D} (h : m p = some (.lst l)) (b : B l) : Chg B m p m := ⟨l, b, by rw [Mm.set_id h]; exact .refl m⟩
theorem Chg.fr {B : List D → Prop} {m m1 : Mm} {p a : Addr} (c : Chg B m p m1) (h : Fr m1 a) : Fr m a := by
  obtain ⟨l, _, t⟩ := c
  have h1 : Fr (m.set p (.lst l)) a := h.sub t
  unfold Fr at h1 ⊢
  by_cases e : a = p
  · subst e; rw [Mm.set_same] at h1; cases h1
  · rwa [Mm.set_ne e] at h1
/-- something new at a is written -/
theorem Chg.new {B : List D → Prop} {m m1 : Mm} {p a : Addr} {o : O} (c : Chg B m p m1) (h : Fr m a) (ne : a ≠ p) : Chg B m p (m1.set a o) := by
  obtain ⟨l, b, t⟩ := c
  refine ⟨l, b, Sub.set ?_ t⟩
  show (m.set p (.lst l)) a = none
  rw [Mm.set_ne ne]
  exact h
end Qz
set_option Elab.async false
set_option linter.all false
set_option maxRecDepth 100000
set_option maxHeartbeats 2000000
namespace Qz
open PySem PySem.Spec PyProof.Rows L2
/-- a def's promise, its function object known -/
theorem fd_ok {Lw : Law} {P : Program} {tb : List Ent} (B : BodiesOk Lw P Lw.fn tb) {w : World} {K : PySem.W.Frag} {mg : Str → Option Value} {base : Heap} {M : Mo} (hP : M.P = P) (hw : M.w = w) (hA : ∀ n x, Lw.cl[n]? = some x → M.cA n = He.ga K x) (kin : K.In base) (ns : base.Ns mainGlobals mg) (says : Lw.Says K) (tab : ∀ p ∈ Lw.tf, LamX.TabB base mg (He.cT K p.1).1 (He.cT K p.1).2) (mtb : M.tb = Lw.tabs K)
    (L n : Nat) (d : He.DefD) (h : Lw.fn[n]? = some d) {fd : FuncData} (F : FunD K d.name d.qual d.params d.body d.scope [] [] (He.fAd K d.at_) fd) : FnOk P w K mg base (CX P w) (4 * (L + 1)) (He.fAd K d.at_) fd (psOf d) (spN K M (psOf d).length (Lv tb (L + 1) n)) := by
  obtain ⟨b, e, B1⟩ := B.at h
  obtain ⟨N, hN, S, run⟩ := B1.sc
  refine funD_ok (k := 4 * L + 3) F S (fun vs H Q E ⟨ds, m, Z, P', rd, _, hl, _⟩ => by rw [← rd.length]; exact hl) (fun cdv A outer s H vs Q E ecd hr ⟨ds, m, Z, P', rd, rm, hl, hc, kq, kx⟩ => ?_)
  have ih := all_ok B hP hw hA kin ns says tab mtb L
  have C : Ctx Lw (cxOf (CX P w) P w K mg base N d.qual d.scope (He.fAd K d.at_) cdv A outer s H E) M (Lv tb L) := ⟨rfl, S.nd, hP, hw, hA, kin, ns, says, tab, mtb, 4 * L, hr.mono (by omega), ih⟩
  have C3 : Lv3 Lw (cxOf (CX P w) P w K mg base N d.qual d.scope (He.fAd K d.at_) cdv A outer s H E) M (Lv tb L) := ⟨4 * L, hr, ih⟩
  have tk : Takes (cxOf (CX P w) P w K mg base N d.qual d.scope (He.fAd K d.at_) cdv A outer s H E) (fun cls d _ H => E cls d H) := takes_of rfl rfl rfl rfl
  refine ⟨_, run w K mg base M (Lv tb L) _ _ cdv A outer s H E ecd C3 C tk, ?_⟩
  have hc' : callE (lookE tb n) (Lv tb L) ds m Z P' := hc
  rw [e] at hc'
  obtain ⟨_, hb⟩ := hc'
  refine ⟨_, m, _, ?_, rm, hb, ?_⟩
  · rw [← hN]; exact start_rd rd
  · refine ⟨fun ρ' m' σ' H' re rm' st ⟨m2, k2, p⟩ => kq .non m2 .non H' (by simp only [RD]) (rm'.sub k2) (st.sub k2) p, fun d' m' v H' r1 rm' st ⟨m2, k2, p⟩ => kq d' m2 v H' r1 (rm'.sub k2) (st.sub k2) p, fun ρ' m' σ' H' re rm' st p => p.elim, fun ρ' m' σ' H' re rm' st p => p.elim, fun x ρ' m' cls dd σ' H' r1 re rm' st ⟨m2, k2, p⟩ => kx x m2 cls dd H' r1 (rm'.sub k2) (st.sub k2) p⟩
/-- the module's part of a law -/
def moOf (Lw : Law) (P : Program) (w : World) (K : PySem.W.Frag) : Mo := ⟨fun n => match Lw.cl[n]? with
  | some x => He.ga K x
  | none => 0, P, w, Lw.tabs K⟩
/-- the script: what nobody writes, or a list -/
inductive Scr (m : Mm) (ns : List Int) : D → Prop
  | rol : Scr m ns (.rol (ns.map .int))
  | lst {a : Addr} : m a = some (.lst (ns.map .int)) → Scr m ns (.ref a)
theorem Scr.cut {m : Mm} {ns : List Int} {x : D} (h : Scr m ns x) {G : Gam} {ρ : Ev} {i : Nat} (e : nth ρ i = some x) : Evl (wSl (wVar i) pNo (pAt (wC (.int 63)))) G ρ m ((ns.take 63).map .int) := by
  have q : cutD (ns.map .int) none (some 63) = (ns.take 63).map .int := by
    rw [show (63 : Int) = ((63 : Nat) : Int) from rfl, cut_none_k, List.map_take]
  rw [← q]
  cases h with
  | rol => exact el_slR (ev_var e) ep_no (ep_at ev_c)
  | lst e0 => exact el_slL (ev_var e) e0 ep_no (ep_at ev_c)
theorem law_at {l : PySem.W.OpenLaw} {Lw : Law} {P : Program} {tb : List Ent} (hP : l.prog = P) (B : BodiesOk Lw P Lw.fn tb) {L n : Nat} {d : He.DefD} (hn : Lw.fn[n]? = some d) (hps : psOf d = [("script" : Str)]) (hat : d.at_ = (("law" : Str), none)) (hdf : d.dfl = [] ∧ d.kwd = []) {j : Nat} (hj : Lw.fa[j]? = some (.glo "law"))
    (hb : ∀ (K : PySem.W.Frag) (f : Addr) (fd : FuncData), FunD K d.name d.qual d.params d.body d.scope [] [] f fd → ∀ (s : Shared) (v : Value), BindsTo s fd ⟨[v], []⟩ [("script", v)])
    (hlaw : ∀ (m : Mm) (x : D) (ns : List Int), Scr m ns x → GFn (Lv tb (L + 1)) n [x] m (Rp fun d _ => d = .bl true))
    {w : World} {mg : Str → Option Value} {fa : Addr} {h : Heap} {K : PySem.W.Frag} (KX : K.In h) (G : h.Ns mainGlobals mg) (c : Lw.SaysH w h K) (hmg : mg ("law" : Str) = some (.ref fa)) : LamX.LawAtS l w K (CX P w) (4 * (L + 1)) 63 "script" mg fa h := by
  obtain ⟨fd, F⟩ := c.s.d.def_ n hn
  have hd : d.dvs K = [] := by unfold He.DefD.dvs; rw [hdf.1]; rfl
  have hk : d.kws K = [] := by unfold He.DefD.kws; rw [hdf.2]; rfl
  rw [hd, hk] at F
  have e := hmg.symm.trans (He.glo_ok KX G (c.s.d.fact j hj))
  have efa : fa = He.fAd K d.at_ := by
    cases e
    rw [hat]
    rfl
  refine ⟨fd, Lw.tf.map fun p => He.cT K p.1, spN K (moOf Lw P w K) 1 (Lv tb (L + 1) n), fun p hp => ?_, fun p hp => ?_, fun p hp => ?_, hb K _ fd F, fun H a ns hl _ hT hS => ?_, fun base kin nsb tab => ?_⟩
  · obtain ⟨q, hq, rfl⟩ := List.mem_map.mp hp
    refine c.x.empty q.1 (List.mem_map.mpr ⟨q, hq, rfl⟩)
  · obtain ⟨q, hq, rfl⟩ := List.mem_map.mp hp
    exact c.x.out q.1 (List.mem_map.mpr ⟨q, hq, rfl⟩)
  · obtain ⟨q, hq, rfl⟩ := List.mem_map.mp hp
    exact PySem.W.codeHd_of_K KX (c.x.hd q.1 (List.mem_map.mpr ⟨q, hq, rfl⟩))
  · have tabs : LamX.Tabs (moOf Lw P w K).tb H := fun p hp => by
      obtain ⟨q, hq, rfl⟩ := List.mem_map.mp hp
      exact LamX.TabS.nil (hT (He.cT K q.1) (List.mem_map.mpr ⟨q, hq, rfl⟩))
    have fin : ∀ (m : Mm) (x : D), Scr m ns x → RM K H (moOf Lw P w K) m → RD K H x (.ref a) → spN K (moOf Lw P w K) 1 (Lv tb (L + 1) n) [.ref a] H (fun v _ => v = .bl true) fun _ _ _ => False := fun m x hs rm rd =>
      ⟨[x], m, fun _ _ => False, fun d _ => d = .bl true, .one rd, rm, rfl, hlaw m x ns hs _ _ (fun d m' e => e), fun d m' v H' r _ _ e => by subst e; simp only [RD] at r; exact r, fun x m' cls dd H' _ _ _ z => z⟩
    rcases hS with (hS | ⟨o, hS⟩) | hS
    · refine fin (fun b => if b = a then some (.lst (ns.map .int)) else none) (.ref a) (.lst (if_pos rfl)) ⟨fun b o e => ?_, tabs⟩ (by simp only [RD])
      by_cases hb : b = a
      · subst hb
        have e' : o = .lst (ns.map .int) := (Option.some.inj ((if_pos rfl).symm.trans e)).symm
        subst e'
        exact ⟨ns.map V.int, hS, RDs.ints_of ns⟩
      · have e' : (none : Option O) = some o := (if_neg hb).symm.trans e
        cases e'
    · exact fin (fun _ => none) _ .rol ⟨fun b o e => (by cases e), tabs⟩ (by simp only [RD]; exact ⟨a, ns.map V.int, rfl, .inl ⟨o, hS⟩, RDs.ints_of ns⟩)
    · exact fin (fun _ => none) _ .rol ⟨fun b o e => (by cases e), tabs⟩ (by simp only [RD]; exact ⟨a, ns.map V.int, rfl, .inr hS, RDs.ints_of ns⟩)
  · rw [efa, hP]
    have h1 := fd_ok B (M := moOf Lw P w K) rfl rfl (fun n x h => by show (match Lw.cl[n]? with | some x => He.ga K x | none => 0) = _; rw [h]) kin nsb c.s (fun p hp => tab (He.cT K p.1) (List.mem_map.mpr ⟨p, hp, rfl⟩)) rfl L n d hn F
    rw [hps] at h1
    exact h1
end Qz
set_option Elab.async false
set_option linter.all false
set_option maxRecDepth 100000
set_option maxHeartbeats 0

namespace Hd
open PySem PySem.Spec PyProof.Rows L2 Qz
abbrev PR : Program := PySem.Challenge.pw_casetape_k93_tables_that_bear_torn_holes
def top (i : Nat) : Stmt := PR.main.body.getD i (.Pass ⟨0, 0, 0, 0⟩)
def cbody : Stmt → List Stmt
  | .ClassDef _ _ _ b _ _ _ _ _ _ _ => b
  | _ => []
def meth (i j : Nat) : Stmt := (cbody (top i)).getD j (.Pass ⟨0, 0, 0, 0⟩)
def d0 : He.DefD := ⟨("is_integer", none), "is_integer", "is_integer", defArgs (top 4), defBody (top 4), defScope (top 4), [], []⟩ -- is_integer
def d1 : He.DefD := ⟨("is_within", none), "is_within", "is_within", defArgs (top 5), defBody (top 5), defScope (top 5), [], []⟩ -- is_within
def d2 : He.DefD := ⟨("is_tuple_of", none), "is_tuple_of", "is_tuple_of", defArgs (top 6), defBody (top 6), defScope (top 6), [], []⟩ -- is_tuple_of
def d3 : He.DefD := ⟨("sort_of", none), "sort_of", "sort_of", defArgs (top 7), defBody (top 7), defScope (top 7), [], []⟩ -- sort_of
def d4 : He.DefD := ⟨("part_pairs", none), "part_pairs", "part_pairs", defArgs (top 8), defBody (top 8), defScope (top 8), [], []⟩ -- part_pairs
def d5 : He.DefD := ⟨("are_same", none), "are_same", "are_same", defArgs (top 9), defBody (top 9), defScope (top 9), [], []⟩ -- are_same
def d6 : He.DefD := ⟨("is_among", none), "is_among", "is_among", defArgs (top 10), defBody (top 10), defScope (top 10), [], []⟩ -- is_among
def d7 : He.DefD := ⟨("full_of", none), "full_of", "full_of", defArgs (top 17), defBody (top 17), defScope (top 17), [], []⟩ -- full_of
def d8 : He.DefD := ⟨("is_cell", none), "is_cell", "is_cell", defArgs (top 18), defBody (top 18), defScope (top 18), [], []⟩ -- is_cell
def d9 : He.DefD := ⟨("is_tape", none), "is_tape", "is_tape", defArgs (top 19), defBody (top 19), defScope (top 19), [], []⟩ -- is_tape
def d10 : He.DefD := ⟨("is_case", none), "is_case", "is_case", defArgs (top 20), defBody (top 20), defScope (top 20), [], []⟩ -- is_case
def d11 : He.DefD := ⟨("code_of_cell", none), "code_of_cell", "code_of_cell", defArgs (top 21), defBody (top 21), defScope (top 21), [], []⟩ -- code_of_cell
def d12 : He.DefD := ⟨("is_passed", none), "is_passed", "is_passed", defArgs (top 22), defBody (top 22), defScope (top 22), [], []⟩ -- is_passed
def d13 : He.DefD := ⟨("step_of", none), "step_of", "step_of", defArgs (top 23), defBody (top 23), defScope (top 23), [], []⟩ -- step_of
def d14 : He.DefD := ⟨("read_tape", none), "read_tape", "read_tape", defArgs (top 24), defBody (top 24), defScope (top 24), [], []⟩ -- read_tape
def d15 : He.DefD := ⟨("good_cells", none), "good_cells", "good_cells", defArgs (top 25), defBody (top 25), defScope (top 25), [], []⟩ -- good_cells
def d16 : He.DefD := ⟨("holes_in", none), "holes_in", "holes_in", defArgs (top 26), defBody (top 26), defScope (top 26), [], []⟩ -- holes_in
def d17 : He.DefD := ⟨("joined", none), "joined", "joined", defArgs (top 27), defBody (top 27), defScope (top 27), [], []⟩ -- joined
def d18 : He.DefD := ⟨("check_torn", none), "check_torn", "check_torn", defArgs (top 30), defBody (top 30), defScope (top 30), [], []⟩ -- check_torn
def d19 : He.DefD := ⟨("cost_of", none), "cost_of", "cost_of", defArgs (top 34), defBody (top 34), defScope (top 34), [], []⟩ -- cost_of
def d20 : He.DefD := ⟨("spot_behind", none), "spot_behind", "spot_behind", defArgs (top 36), defBody (top 36), defScope (top 36), [], []⟩ -- spot_behind
def d21 : He.DefD := ⟨("couple_by", none), "couple_by", "couple_by", defArgs (top 37), defBody (top 37), defScope (top 37), [], []⟩ -- couple_by
def d22 : He.DefD := ⟨("bears", none), "bears", "bears", defArgs (top 38), defBody (top 38), defScope (top 38), [], []⟩ -- bears
def d23 : He.DefD := ⟨("most_borne", none), "most_borne", "most_borne", defArgs (top 39), defBody (top 39), defScope (top 39), [], []⟩ -- most_borne
def d24 : He.DefD := ⟨("meeting_tape", none), "meeting_tape", "meeting_tape", defArgs (top 40), defBody (top 40), defScope (top 40), [], []⟩ -- meeting_tape
def d25 : He.DefD := ⟨("torn_between", none), "torn_between", "torn_between", defArgs (top 41), defBody (top 41), defScope (top 41), [], []⟩ -- torn_between
def d26 : He.DefD := ⟨("is_couple", none), "is_couple", "is_couple", defArgs (top 42), defBody (top 42), defScope (top 42), [], []⟩ -- is_couple
def d27 : He.DefD := ⟨("paper_of", none), "paper_of", "paper_of", defArgs (top 43), defBody (top 43), defScope (top 43), [], []⟩ -- paper_of
def d28 : He.DefD := ⟨("is_spot", none), "is_spot", "is_spot", defArgs (top 44), defBody (top 44), defScope (top 44), [], []⟩ -- is_spot
def d29 : He.DefD := ⟨("spot_fault", none), "spot_fault", "spot_fault", defArgs (top 45), defBody (top 45), defScope (top 45), [], []⟩ -- spot_fault
def d30 : He.DefD := ⟨("paper_fault", none), "paper_fault", "paper_fault", defArgs (top 46), defBody (top 46), defScope (top 46), [], []⟩ -- paper_fault
def d31 : He.DefD := ⟨("takes_paper", none), "takes_paper", "takes_paper", defArgs (top 47), defBody (top 47), defScope (top 47), [], []⟩ -- takes_paper
def d32 : He.DefD := ⟨("told_apart", none), "told_apart", "told_apart", defArgs (top 48), defBody (top 48), defScope (top 48), [], []⟩ -- told_apart
def d33 : He.DefD := ⟨("is_told", none), "is_told", "is_told", defArgs (top 49), defBody (top 49), defScope (top 49), [], []⟩ -- is_told
def d34 : He.DefD := ⟨("_law_take", none), "_law_take", "_law_take", defArgs (top 51), defBody (top 51), defScope (top 51), [], []⟩ -- _law_take
def d35 : He.DefD := ⟨("_law_some", none), "_law_some", "_law_some", defArgs (top 52), defBody (top 52), defScope (top 52), [], []⟩ -- _law_some
def d36 : He.DefD := ⟨("_law_full", none), "_law_full", "_law_full", defArgs (top 53), defBody (top 53), defScope (top 53), [], []⟩ -- _law_full
def d37 : He.DefD := ⟨("_law_step", none), "_law_step", "_law_step", defArgs (top 54), defBody (top 54), defScope (top 54), [], []⟩ -- _law_step
def d38 : He.DefD := ⟨("_law_good", none), "_law_good", "_law_good", defArgs (top 55), defBody (top 55), defScope (top 55), [], []⟩ -- _law_good
def d39 : He.DefD := ⟨("_law_mixed", none), "_law_mixed", "_law_mixed", defArgs (top 56), defBody (top 56), defScope (top 56), [], []⟩ -- _law_mixed
def d40 : He.DefD := ⟨("_law_bits", none), "_law_bits", "_law_bits", defArgs (top 57), defBody (top 57), defScope (top 57), [], []⟩ -- _law_bits
def d41 : He.DefD := ⟨("_law_joined", none), "_law_joined", "_law_joined", defArgs (top 58), defBody (top 58), defScope (top 58), [], []⟩ -- _law_joined
def d42 : He.DefD := ⟨("_law_is_int", none), "_law_is_int", "_law_is_int", defArgs (top 59), defBody (top 59), defScope (top 59), [], []⟩ -- _law_is_int
def d43 : He.DefD := ⟨("_law_read", none), "_law_read", "_law_read", defArgs (top 60), defBody (top 60), defScope (top 60), [], []⟩ -- _law_read
def d44 : He.DefD := ⟨("_law_bag", none), "_law_bag", "_law_bag", defArgs (top 61), defBody (top 61), defScope (top 61), [], []⟩ -- _law_bag
def d45 : He.DefD := ⟨("_law_alike", none), "_law_alike", "_law_alike", defArgs (top 62), defBody (top 62), defScope (top 62), [], []⟩ -- _law_alike
def d46 : He.DefD := ⟨("_law_why", none), "_law_why", "_law_why", defArgs (top 63), defBody (top 63), defScope (top 63), [], []⟩ -- _law_why
def d47 : He.DefD := ⟨("_law_good_tape", none), "_law_good_tape", "_law_good_tape", defArgs (top 64), defBody (top 64), defScope (top 64), [], []⟩ -- _law_good_tape
def d48 : He.DefD := ⟨("_law_five", none), "_law_five", "_law_five", defArgs (top 65), defBody (top 65), defScope (top 65), [], []⟩ -- _law_five
def d49 : He.DefD := ⟨("_law_cost", none), "_law_cost", "_law_cost", defArgs (top 66), defBody (top 66), defScope (top 66), [], []⟩ -- _law_cost
def d50 : He.DefD := ⟨("_law_pairs_of", none), "_law_pairs_of", "_law_pairs_of", defArgs (top 67), defBody (top 67), defScope (top 67), [], []⟩ -- _law_pairs_of
def d51 : He.DefD := ⟨("_law_unlike", none), "_law_unlike", "_law_unlike", defArgs (top 68), defBody (top 68), defScope (top 68), [], []⟩ -- _law_unlike
def d52 : He.DefD := ⟨("_law_is_couple", none), "_law_is_couple", "_law_is_couple", defArgs (top 69), defBody (top 69), defScope (top 69), [], []⟩ -- _law_is_couple
def d53 : He.DefD := ⟨("_law_spots", none), "_law_spots", "_law_spots", defArgs (top 70), defBody (top 70), defScope (top 70), [], []⟩ -- _law_spots
def d54 : He.DefD := ⟨("law", none), "law", "law", defArgs (top 71), defBody (top 71), defScope (top 71), [], []⟩ -- law
def d55 : He.DefD := ⟨("Couples", some "__init__"), "__init__", "Couples.__init__", defArgs (meth 35 0), defBody (meth 35 0), defScope (meth 35 0), [], []⟩ -- Couples___init__
def d56 : He.DefD := ⟨("Couples", some "look"), "look", "Couples.look", defArgs (meth 35 1), defBody (meth 35 1), defScope (meth 35 1), [], []⟩ -- Couples_look
def d57 : He.DefD := ⟨("Couples", some "step"), "step", "Couples.step", defArgs (meth 35 2), defBody (meth 35 2), defScope (meth 35 2), [], []⟩ -- Couples_step
def d58 : He.DefD := ⟨("Couples", some "meet"), "meet", "Couples.meet", defArgs (meth 35 3), defBody (meth 35 3), defScope (meth 35 3), [], []⟩ -- Couples_meet
def d59 : He.DefD := ⟨("Couples", some "tapes_to"), "tapes_to", "Couples.tapes_to", defArgs (meth 35 4), defBody (meth 35 4), defScope (meth 35 4), [], []⟩ -- Couples_tapes_to
def fn0 : List He.DefD := [d0, d1, d2, d3, d4, d5, d6, d7, d8, d9, d10, d11, d12, d13, d14, d15, d16, d17, d18, d19, d20, d21, d22, d23, d24, d25, d26, d27, d28, d29]
def fn1 : List He.DefD := [d30, d31, d32, d33, d34, d35, d36, d37, d38, d39, d40, d41, d42, d43, d44, d45, d46, d47, d48, d49, d50, d51, d52, d53, d54, d55, d56, d57, d58, d59]
def fn : List He.DefD := fn0 ++ fn1
def fa0 : List He.Fa := [.glo "TapeError", .glo "Refused", .glo "is_integer", .glo "is_within", .glo "is_tuple_of", .glo "sort_of", .glo "part_pairs", .glo "are_same", .glo "is_among", .glo "full_of", .glo "is_cell", .glo "is_tape", .glo "is_case", .glo "code_of_cell", .glo "is_passed", .glo "step_of", .glo "read_tape", .glo "good_cells", .glo "holes_in", .glo "joined", .glo "check_torn", .glo "cost_of", .glo "Couples", .glo "spot_behind", .glo "couple_by", .glo "bears", .glo "most_borne", .glo "meeting_tape", .glo "torn_between", .glo "is_couple"]
def fa1 : List He.Fa := [.glo "paper_of", .glo "is_spot", .glo "spot_fault", .glo "paper_fault", .glo "takes_paper", .glo "told_apart", .glo "is_told", .glo "_law_take", .glo "_law_some", .glo "_law_full", .glo "_law_step", .glo "_law_good", .glo "_law_mixed", .glo "_law_bits", .glo "_law_joined", .glo "_law_is_int", .glo "_law_read", .glo "_law_bag", .glo "_law_alike", .glo "_law_why", .glo "_law_good_tape", .glo "_law_five", .glo "_law_cost", .glo "_law_pairs_of", .glo "_law_unlike", .glo "_law_is_couple", .glo "_law_spots", .glo "law", .meth "Couples" "__init__", .meth "Couples" "look"]
def fa2 : List He.Fa := [.meth "Couples" "step", .meth "Couples" "meet", .meth "Couples" "tapes_to", .cls "Couples", .mkr "Couples", .noat "Couples" "its_book", .noat "Couples" "its_torn", .noat "Couples" "its_line", .noat "Couples" "its_from", .noat "Couples" "its_couple", .free "len", .free "range", .free "isinstance", .free "tuple", .free "list", .free "sum", .free "max", .free "any", .free "all", .free "sorted", .free "enumerate", .free "zip", .free "int", .free "bool", .free "str", .free "dict", .free "abs", .free "super", .free "ValueError", .exm "Refused" "Refused" true]
def fa : List He.Fa := fa0 ++ fa1 ++ fa2
def cs0 : List (PySem.Str × D) := [("POWERS", .tup [.int 1, .int 2, .int 4, .int 8, .int 16, .int 32]), ("CELL", .int 0), ("SIGNS", .int 1), ("TURNS", .int 2), ("FIRST", .int 0), ("MOST_TORN_torn", .int 9), ("MOST_TORN_tornpapers", .int 9), ("START", .tup [.int 0, .int 0, .int 0, .int 0])]
def cs : List (PySem.Str × D) := cs0
def cl0 : List PySem.Str := ["Couples", "TapeError", "Refused"]
def cl : List PySem.Str := cl0
def loose0 : List PySem.Str := ["__name__", "TapeError", "Refused", "is_integer", "is_within", "is_tuple_of", "sort_of", "part_pairs", "are_same", "is_among", "POWERS", "CELL", "SIGNS", "TURNS", "FIRST", "full_of", "is_cell", "is_tape", "is_case", "code_of_cell", "is_passed", "step_of", "read_tape", "good_cells", "holes_in", "joined", "MOST_TORN_torn", "check_torn", "MOST_TORN_tornpapers", "START"]
def loose1 : List PySem.Str := ["cost_of", "Couples", "spot_behind", "couple_by", "bears", "most_borne", "meeting_tape", "torn_between", "is_couple", "paper_of", "is_spot", "spot_fault", "paper_fault", "takes_paper", "told_apart", "is_told", "_law_take", "_law_some", "_law_full", "_law_step", "_law_good", "_law_mixed", "_law_bits", "_law_joined", "_law_is_int", "_law_read", "_law_bag", "_law_alike", "_law_why", "_law_good_tape"]
def loose2 : List PySem.Str := ["_law_five", "_law_cost", "_law_pairs_of", "_law_unlike", "_law_is_couple", "_law_spots"]
def loose : List PySem.Str := loose0 ++ loose1 ++ loose2
def dx0 : He.DefD := ⟨("Refused", some "__init__"), "__init__", "Refused.__init__", defArgs (meth 2 0), defBody (meth 2 0), defScope (meth 2 0), [], []⟩
def x0 : XD := ⟨"Refused", "why", PR.main.file, dx0⟩
def xs : List XD := [x0]
def tf : List (He.Defn × PySem.Str) := [((He.DefD.at_ d54), "law.<locals>.<lambda>")]
def LW : Law := ⟨fa, fn, cs, cl, xs, tf⟩
abbrev R : PySem.W.OpenRow := PySem.W.OpenLaw.row PySem.Challenge.rw_casetape_k93_tables_that_bear_torn_holes
abbrev hk : PySem.W.Hook := LW.hook 5
def ob (s : PySem.W.SharedT) : AlG := LW.obsG 5 (HandSHeadRun.getT s)
theorem ob_eq (s : PySem.W.SharedT) : ob s = hk.obs s.abs := Law.obsG_eq (HandSHeadRun.getT_eq s)
end Hd
set_option Elab.async false
set_option linter.all false
set_option maxRecDepth 100000
set_option maxHeartbeats 0
namespace Hd
open PySem PySem.Spec PyProof.Rows L2 Qz
theorem run (w : World) : HandSHeadRun.RunEq R (PySem.W.view R.prog [71]) hk ob 30000 loose w := by
  intro os
  kernel_rfl
end Hd
set_option Elab.async false
set_option linter.all false
set_option maxRecDepth 100000
set_option maxHeartbeats 0

namespace Hd
open PySem PySem.Spec PyProof.Rows L2 Qz
section
variable {P : Program} {w : World} {K : PySem.W.Frag} {mg : PySem.Str → Option Value} {base : Heap} {M : Mo} {G : Gam} {W : WX} {f : Addr} {cdv : Value} {A : Around} {outer : List Env} {s : Shared} {H : Hp} {E : XK}
theorem xt0 : XT PR dx0 "why" PR.main.file := ⟨⟨_, _, _, _, _, _, _, _, _, _, rfl, fun env => ⟨_, rfl⟩⟩, fun fd a v h1 h2 h3 => by obtain ⟨n1, n2, n3, n4, n5, n6, n7, n8, n9, n10, n11, n12, n13, n14, n15⟩ := fd; dsimp only at h1 h2 h3; subst h1 h2 h3; rfl, ⟨_, rfl, rfl⟩, rfl, rfl, rfl, by decide +kernel, rfl, rfl, rfl, rfl, by decide, by decide, by decide, by decide +kernel, by decide +kernel⟩
def N0 : List PySem.Str := ["thing"] -- is_integer
def b0 : WS := (wRet (wAndV (wCB fIsi (wCons (wVar 0) (wCons (wC (.ty "int")) wNil))) (wNotV (wCB fIsi (wCons (wVar 0) (wCons (wC (.ty "bool")) wNil))))))
def e0 : Ent := ⟨1, 1, b0⟩
theorem sc0 : FnScope N0 (psOf d0) (He.DefD.scope d0) := ⟨rfl, rfl, rfl, by decide +kernel, rfl, by decide +kernel, by decide +kernel⟩
theorem ok0 : BodyOk LW PR d0 e0 := ⟨rfl, ⟨N0, rfl, sc0, fun w K mg base M G W f cdv A outer s H E ecd C3 C tk => by
    have hp : PassesOwn (model PR w) (A.deeper (envOfC (He.DefD.qual d0) (He.DefD.scope d0) s.heap.objs.size f cdv)) (envOfC (He.DefD.qual d0) (He.DefD.scope d0) s.heap.objs.size f cdv) (cxOf (CX PR w) PR w K mg base N0 (He.DefD.qual d0) (He.DefD.scope d0) f cdv A outer s H E).xe := passes_of rfl
    show PSs _ _ (tS (cq _ M G W) b0)
    exact (qss_one (z_ret (qe_andV (x_cb C 72 qc_isi boot_isinstance (a_c (x_v 0) (a_c (x_ty C 82 boot_int) a_n))) (qe_and1 (qe_notV (x_cb C 72 qc_isi boot_isinstance (a_c (x_v 0) (a_c (x_ty C 83 boot_bool) a_n))))))))⟩, fun K f fd F => F.bindsN fun _ _ _ _ _ _ us hl => match us, hl with | [_], _ => rfl, ⟨rfl, rfl⟩⟩
def N1 : List PySem.Str := ["thing", "least", "most"] -- is_within
def b1 : WS := (wRet (wAndV (wCallN 0 1 (wCons (wVar 0) wNil)) (wChn gLe gLe (wVar 1) (wVar 0) (wVar 2))))
def e1 : Ent := ⟨3, 3, b1⟩
theorem sc1 : FnScope N1 (psOf d1) (He.DefD.scope d1) := ⟨rfl, rfl, rfl, by decide +kernel, rfl, by decide +kernel, by decide +kernel⟩
theorem ok1 : BodyOk LW PR d1 e1 := ⟨rfl, ⟨N1, rfl, sc1, fun w K mg base M G W f cdv A outer s H E ecd C3 C tk => by
    have hp : PassesOwn (model PR w) (A.deeper (envOfC (He.DefD.qual d1) (He.DefD.scope d1) s.heap.objs.size f cdv)) (envOfC (He.DefD.qual d1) (He.DefD.scope d1) s.heap.objs.size f cdv) (cxOf (CX PR w) PR w K mg base N1 (He.DefD.qual d1) (He.DefD.scope d1) f cdv A outer s H E).xe := passes_of rfl
    show PSs _ _ (tS (cq _ M G W) b1)
    exact (qss_one (z_ret (qe_andV (x_f C tk 0 1 2 (a_c (x_v 0) a_n)) (qe_and1 (qe_chain (o_le C) (o_le C) (x_v 1) (x_v 0) (x_v 2))))))⟩, fun K f fd F => F.bindsN fun _ _ _ _ _ _ us hl => match us, hl with | [_, _, _], _ => rfl, ⟨rfl, rfl⟩⟩
def N2 : List PySem.Str := ["thing", "many"] -- is_tuple_of
def b2 : WS := (wRet (wAndV (wCB fIsi (wCons (wVar 0) (wCons (wC (.ty "tuple")) wNil))) (wBin fEq (wCB fLen (wCons (wVar 0) wNil)) (wVar 1))))
def e2 : Ent := ⟨2, 2, b2⟩
theorem sc2 : FnScope N2 (psOf d2) (He.DefD.scope d2) := ⟨rfl, rfl, rfl, by decide +kernel, rfl, by decide +kernel, by decide +kernel⟩
theorem ok2 : BodyOk LW PR d2 e2 := ⟨rfl, ⟨N2, rfl, sc2, fun w K mg base M G W f cdv A outer s H E ecd C3 C tk => by
    have hp : PassesOwn (model PR w) (A.deeper (envOfC (He.DefD.qual d2) (He.DefD.scope d2) s.heap.objs.size f cdv)) (envOfC (He.DefD.qual d2) (He.DefD.scope d2) s.heap.objs.size f cdv) (cxOf (CX PR w) PR w K mg base N2 (He.DefD.qual d2) (He.DefD.scope d2) f cdv A outer s H E).xe := passes_of rfl
    show PSs _ _ (tS (cq _ M G W) b2)
    exact (qss_one (z_ret (qe_andV (x_cb C 72 qc_isi boot_isinstance (a_c (x_v 0) (a_c (x_ty C 73 boot_tuple) a_n))) (qe_and1 (x_cmp (o_eq C) (x_cb C 70 qc_len boot_len (a_c (x_v 0) a_n)) (x_v 1))))))⟩, fun K f fd F => F.bindsN fun _ _ _ _ _ _ us hl => match us, hl with | [_, _], _ => rfl, ⟨rfl, rfl⟩⟩
def N3 : List PySem.Str := ["thing"] -- sort_of
def b3 : WS := (wSeq (wIfS (wTru (wCB fIsi (wCons (wVar 0) (wCons (wC (.ty "bool")) wNil)))) (wRet (wC (.str "truth"))) wNext) (wSeq (wIfS (wTru (wCB fIsi (wCons (wVar 0) (wCons (wTup (wCons (wC (.ty "tuple")) (wCons (wC (.ty "list")) wNil))) wNil)))) (wRet (wIf (wTru (wCB fIsi (wCons (wVar 0) (wCons (wC (.ty "tuple")) wNil)))) (wC (.str "tuple")) (wC (.str "list")))) wNext) (wRet (wIf (wTru (wCB fIsi (wCons (wVar 0) (wCons (wC (.ty "dict")) wNil)))) (wC (.str "dict")) (wC (.str "other"))))))
def e3 : Ent := ⟨1, 1, b3⟩
theorem sc3 : FnScope N3 (psOf d3) (He.DefD.scope d3) := ⟨rfl, rfl, rfl, by decide +kernel, rfl, by decide +kernel, by decide +kernel⟩
theorem ok3 : BodyOk LW PR d3 e3 := ⟨rfl, ⟨N3, rfl, sc3, fun w K mg base M G W f cdv A outer s H E ecd C3 C tk => by
    have hp : PassesOwn (model PR w) (A.deeper (envOfC (He.DefD.qual d3) (He.DefD.scope d3) s.heap.objs.size f cdv)) (envOfC (He.DefD.qual d3) (He.DefD.scope d3) s.heap.objs.size f cdv) (cxOf (CX PR w) PR w K mg base N3 (He.DefD.qual d3) (He.DefD.scope d3) f cdv A outer s H E).xe := passes_of rfl
    show PSs _ _ (tS (cq _ M G W) b3)
    exact (qss_cons (qs_if (qt_tru (x_cb C 72 qc_isi boot_isinstance (a_c (x_v 0) (a_c (x_ty C 83 boot_bool) a_n)))) (qss_one (z_ret x_s)) qss_nil) (qss_cons (qs_if (qt_tru (x_cb C 72 qc_isi boot_isinstance (a_c (x_v 0) (a_c (qe_tup (a_c (x_ty C 73 boot_tuple) (a_c (x_ty C 74 boot_list) a_n))) a_n)))) (qss_one (z_ret (qe_ifx (qt_tru (x_cb C 72 qc_isi boot_isinstance (a_c (x_v 0) (a_c (x_ty C 73 boot_tuple) a_n)))) x_s x_s))) qss_nil) (qss_one (z_ret (qe_ifx (qt_tru (x_cb C 72 qc_isi boot_isinstance (a_c (x_v 0) (a_c (x_ty C 85 boot_dict) a_n)))) x_s x_s)))))⟩, fun K f fd F => F.bindsN fun _ _ _ _ _ _ us hl => match us, hl with | [_], _ => rfl, ⟨rfl, rfl⟩⟩
def N4 : List PySem.Str := ["one", "other", "found", "part", "its"] -- part_pairs
def b4 : WS := (wSeq (wIfS (wTru (wCB fIsi (wCons (wVar 0) (wCons (wC (.ty "dict")) wNil)))) (wSeq wNevS (wRet (wBin fAdd (wVar 2) (wComp (wIter (wVar 0)) (.nm 3) wTrue (wTup (wCons (wBin fIx (wVar 0) (wVar 3)) (wCons (wBin fIx (wVar 1) (wVar 3)) wNil))) [3])))) wNext) (wRet (wIf (wTru (wCB fIsi (wCons (wVar 0) (wCons (wTup (wCons (wC (.ty "tuple")) (wCons (wC (.ty "list")) wNil))) wNil)))) (wLZ (wCons (wVar 0) (wCons (wVar 1) wNil))) (wLst wNil))))
def e4 : Ent := ⟨2, 5, b4⟩
theorem sc4 : FnScope N4 (psOf d4) (He.DefD.scope d4) := ⟨rfl, rfl, rfl, by decide +kernel, rfl, by decide +kernel, by decide +kernel⟩
theorem ok4 : BodyOk LW PR d4 e4 := ⟨rfl, ⟨N4, rfl, sc4, fun w K mg base M G W f cdv A outer s H E ecd C3 C tk => by
    have hp : PassesOwn (model PR w) (A.deeper (envOfC (He.DefD.qual d4) (He.DefD.scope d4) s.heap.objs.size f cdv)) (envOfC (He.DefD.qual d4) (He.DefD.scope d4) s.heap.objs.size f cdv) (cxOf (CX PR w) PR w K mg base N4 (He.DefD.qual d4) (He.DefD.scope d4) f cdv A outer s H E).xe := passes_of rfl
    show PSs _ _ (tS (cq _ M G W) b4)
    exact (qss_cons (qs_if (qt_tru (x_cb C 72 qc_isi boot_isinstance (a_c (x_v 0) (a_c (x_ty C 85 boot_dict) a_n)))) (qss_cons qs_nev (qss_one (z_ret (x_add (x_v 2) (x_lc C [("part", 3)] (i_v (x_v 0)) (fun _ _ _ _ _ => by exact (p_nm 3 (C.blk _ _ _ _ _).nd)) (fun _ _ _ _ _ => by exact qts_nil) (fun _ _ _ _ _ => by exact (qe_tup (a_c (x_ix (C.blk _ _ _ _ _) (x_v 0) (x_v 3)) (a_c (x_ix (C.blk _ _ _ _ _) (x_v 1) (x_v 3)) a_n))))))))) qss_nil) (qss_one (z_ret (qe_ifx (qt_tru (x_cb C 72 qc_isi boot_isinstance (a_c (x_v 0) (a_c (qe_tup (a_c (x_ty C 73 boot_tuple) (a_c (x_ty C 74 boot_list) a_n))) a_n)))) (x_lz C 74 81 (a_c (x_v 0) (a_c (x_v 1) a_n))) (qe_lst a_n)))))⟩, fun K f fd F => F.bindsN fun _ _ _ _ _ _ us hl => match us, hl with | [_, _], _ => rfl, ⟨rfl, rfl⟩⟩
def N5 : List PySem.Str := ["one", "other", "line", "mine", "its"] -- are_same
def b5 : WS := (wSeq (wAsg (wLst (wCons (wTup (wCons (wVar 0) (wCons (wVar 1) wNil))) wNil)) (gNm 2)) (wSeq (wWhile (wTru (wVar 2)) (wSeq (wAsg (wBM "list" fPop (wVar 2) wNil) (gTp 2 (gCns (gNm 3) (gCns (gNm 4) gNl)))) (wSeq (wIfS (wOr (wTst (wBin fNe (wCallN 3 1 (wCons (wVar 3) wNil)) (wCallN 3 1 (wCons (wVar 4) wNil)))) (wTst (wBin fNe (wVar 3) (wVar 4)))) (wRet (wC (.bl false))) wNext) (wExpr (wBM "list" fExtend (wVar 2) (wCons (wCallN 4 2 (wCons (wVar 3) (wCons (wVar 4) wNil))) wNil)))))) (wRet (wC (.bl true)))))
def e5 : Ent := ⟨2, 5, b5⟩
theorem sc5 : FnScope N5 (psOf d5) (He.DefD.scope d5) := ⟨rfl, rfl, rfl, by decide +kernel, rfl, by decide +kernel, by decide +kernel⟩
theorem ok5 : BodyOk LW PR d5 e5 := ⟨rfl, ⟨N5, rfl, sc5, fun w K mg base M G W f cdv A outer s H E ecd C3 C tk => by
    have hp : PassesOwn (model PR w) (A.deeper (envOfC (He.DefD.qual d5) (He.DefD.scope d5) s.heap.objs.size f cdv)) (envOfC (He.DefD.qual d5) (He.DefD.scope d5) s.heap.objs.size f cdv) (cxOf (CX PR w) PR w K mg base N5 (He.DefD.qual d5) (He.DefD.scope d5) f cdv A outer s H E).xe := passes_of rfl
    show PSs _ _ (tS (cq _ M G W) b5)
    exact (qss_cons (z_set C 2 (qe_lst (a_c (qe_tup (a_c (x_v 0) (a_c (x_v 1) a_n))) a_n))) (qss_cons (qs_while hp (qt_tru (x_v 2)) (qss_cons (z_asg (x_bm0 PySem.F.plainAttrs_list PySem.F.slot_list_pop PySem.F.type_list_pop qm_pop (x_v 2)) (g_t C 2 (g_c (g_nm C 3) (g_c (g_nm C 4) g_n)))) (qss_cons (qs_if (qt_or (qw_or (t_cmp (o_ne C) (x_f C tk 3 1 5 (a_c (x_v 3) a_n)) (x_f C tk 3 1 5 (a_c (x_v 4) a_n))) (qw_or1 (t_cmp (o_ne C) (x_v 3) (x_v 4))))) (qss_one (z_ret x_b)) qss_nil) (qss_one (z_ex (x_bm PySem.F.plainAttrs_list PySem.F.slot_list_extend PySem.F.type_list_extend qm_extend (x_v 2) (a_c (x_f C tk 4 2 6 (a_c (x_v 3) (a_c (x_v 4) a_n))) a_n))))))) (qss_one (z_ret x_b))))⟩, fun K f fd F => F.bindsN fun _ _ _ _ _ _ us hl => match us, hl with | [_, _], _ => rfl, ⟨rfl, rfl⟩⟩
def N6 : List PySem.Str := ["thing", "some", "one"] -- is_among
def b6 : WS := (wRet (wCB fAny (wCons (wComp (wIter (wVar 1)) (.nm 2) wTrue (wCallN 5 2 (wCons (wVar 0) (wCons (wVar 2) wNil))) [2]) wNil)))
def e6 : Ent := ⟨2, 3, b6⟩
theorem sc6 : FnScope N6 (psOf d6) (He.DefD.scope d6) := ⟨rfl, rfl, rfl, by decide +kernel, rfl, by decide +kernel, by decide +kernel⟩
theorem ok6 : BodyOk LW PR d6 e6 := ⟨rfl, ⟨N6, rfl, sc6, fun w K mg base M G W f cdv A outer s H E ecd C3 C tk => by
    have hp : PassesOwn (model PR w) (A.deeper (envOfC (He.DefD.qual d6) (He.DefD.scope d6) s.heap.objs.size f cdv)) (envOfC (He.DefD.qual d6) (He.DefD.scope d6) s.heap.objs.size f cdv) (cxOf (CX PR w) PR w K mg base N6 (He.DefD.qual d6) (He.DefD.scope d6) f cdv A outer s H E).xe := passes_of rfl
    show PSs _ _ (tS (cq _ M G W) b6)
    exact (qss_one (z_ret (x_cb C 77 (qc_any C.calm) boot_any (a_c (x_lc C [("one", 2)] (i_v (x_v 1)) (fun _ _ _ _ _ => by exact (p_nm 2 (C.blk _ _ _ _ _).nd)) (fun _ _ _ _ _ => by exact qts_nil) (fun _ _ _ _ _ => by exact (x_f (C.blk _ _ _ _ _) tak0 5 2 7 (a_c (x_v 0) (a_c (x_v 2) a_n))))) a_n))))⟩, fun K f fd F => F.bindsN fun _ _ _ _ _ _ us hl => match us, hl with | [_, _], _ => rfl, ⟨rfl, rfl⟩⟩
def N7 : List PySem.Str := ["book"] -- full_of
def b7 : WS := (wRet (wBin fSub (wBin fIx (wC (.tup [.int 1, .int 2, .int 4, .int 8, .int 16, .int 32])) (wBin fIx (wVar 0) (wC (.int 1)))) (wC (.int 1))))
def e7 : Ent := ⟨1, 1, b7⟩
theorem sc7 : FnScope N7 (psOf d7) (He.DefD.scope d7) := ⟨rfl, rfl, rfl, by decide +kernel, rfl, by decide +kernel, by decide +kernel⟩
theorem ok7 : BodyOk LW PR d7 e7 := ⟨rfl, ⟨N7, rfl, sc7, fun w K mg base M G W f cdv A outer s H E ecd C3 C tk => by
    have hp : PassesOwn (model PR w) (A.deeper (envOfC (He.DefD.qual d7) (He.DefD.scope d7) s.heap.objs.size f cdv)) (envOfC (He.DefD.qual d7) (He.DefD.scope d7) s.heap.objs.size f cdv) (cxOf (CX PR w) PR w K mg base N7 (He.DefD.qual d7) (He.DefD.scope d7) f cdv A outer s H E).xe := passes_of rfl
    show PSs _ _ (tS (cq _ M G W) b7)
    exact (qss_one (z_ret (x_sub (x_ix C (x_con C 0) (x_ix C (x_v 0) x_i)) x_i)))⟩, fun K f fd F => F.bindsN fun _ _ _ _ _ _ us hl => match us, hl with | [_], _ => rfl, ⟨rfl, rfl⟩⟩
def N8 : List PySem.Str := ["book", "thing"] -- is_cell
def b8 : WS := (wRet (wCallN 1 3 (wCons (wVar 1) (wCons (wC (.int 0)) (wCons (wCallN 7 1 (wCons (wVar 0) wNil)) wNil)))))
def e8 : Ent := ⟨2, 2, b8⟩
theorem sc8 : FnScope N8 (psOf d8) (He.DefD.scope d8) := ⟨rfl, rfl, rfl, by decide +kernel, rfl, by decide +kernel, by decide +kernel⟩
theorem ok8 : BodyOk LW PR d8 e8 := ⟨rfl, ⟨N8, rfl, sc8, fun w K mg base M G W f cdv A outer s H E ecd C3 C tk => by
    have hp : PassesOwn (model PR w) (A.deeper (envOfC (He.DefD.qual d8) (He.DefD.scope d8) s.heap.objs.size f cdv)) (envOfC (He.DefD.qual d8) (He.DefD.scope d8) s.heap.objs.size f cdv) (cxOf (CX PR w) PR w K mg base N8 (He.DefD.qual d8) (He.DefD.scope d8) f cdv A outer s H E).xe := passes_of rfl
    show PSs _ _ (tS (cq _ M G W) b8)
    exact (qss_one (z_ret (x_f C tk 1 3 3 (a_c (x_v 1) (a_c x_i (a_c (x_f C tk 7 1 9 (a_c (x_v 0) a_n)) a_n))))))⟩, fun K f fd F => F.bindsN fun _ _ _ _ _ _ us hl => match us, hl with | [_, _], _ => rfl, ⟨rfl, rfl⟩⟩
def N9 : List PySem.Str := ["book", "thing", "cell"] -- is_tape
def b9 : WS := (wRet (wAndV (wCB fIsi (wCons (wVar 1) (wCons (wC (.ty "tuple")) wNil))) (wCB fAll (wCons (wComp (wIter (wVar 1)) (.nm 2) wTrue (wCallN 8 2 (wCons (wVar 0) (wCons (wVar 2) wNil))) [2]) wNil))))
def e9 : Ent := ⟨2, 3, b9⟩
theorem sc9 : FnScope N9 (psOf d9) (He.DefD.scope d9) := ⟨rfl, rfl, rfl, by decide +kernel, rfl, by decide +kernel, by decide +kernel⟩
theorem ok9 : BodyOk LW PR d9 e9 := ⟨rfl, ⟨N9, rfl, sc9, fun w K mg base M G W f cdv A outer s H E ecd C3 C tk => by
    have hp : PassesOwn (model PR w) (A.deeper (envOfC (He.DefD.qual d9) (He.DefD.scope d9) s.heap.objs.size f cdv)) (envOfC (He.DefD.qual d9) (He.DefD.scope d9) s.heap.objs.size f cdv) (cxOf (CX PR w) PR w K mg base N9 (He.DefD.qual d9) (He.DefD.scope d9) f cdv A outer s H E).xe := passes_of rfl
    show PSs _ _ (tS (cq _ M G W) b9)
    exact (qss_one (z_ret (qe_andV (x_cb C 72 qc_isi boot_isinstance (a_c (x_v 1) (a_c (x_ty C 73 boot_tuple) a_n))) (qe_and1 (x_cb C 78 (qc_all C.calm) boot_all (a_c (x_lc C [("cell", 2)] (i_v (x_v 1)) (fun _ _ _ _ _ => by exact (p_nm 2 (C.blk _ _ _ _ _).nd)) (fun _ _ _ _ _ => by exact qts_nil) (fun _ _ _ _ _ => by exact (x_f (C.blk _ _ _ _ _) tak0 8 2 10 (a_c (x_v 0) (a_c (x_v 2) a_n))))) a_n))))))⟩, fun K f fd F => F.bindsN fun _ _ _ _ _ _ us hl => match us, hl with | [_, _], _ => rfl, ⟨rfl, rfl⟩⟩
def N10 : List PySem.Str := ["book", "thing"] -- is_case
def b10 : WS := (wRet (wCallN 1 3 (wCons (wVar 1) (wCons (wC (.int 0)) (wCons (wBin fSub (wBin fIx (wVar 0) (wC (.int 2))) (wC (.int 1))) wNil)))))
def e10 : Ent := ⟨2, 2, b10⟩
theorem sc10 : FnScope N10 (psOf d10) (He.DefD.scope d10) := ⟨rfl, rfl, rfl, by decide +kernel, rfl, by decide +kernel, by decide +kernel⟩
theorem ok10 : BodyOk LW PR d10 e10 := ⟨rfl, ⟨N10, rfl, sc10, fun w K mg base M G W f cdv A outer s H E ecd C3 C tk => by
    have hp : PassesOwn (model PR w) (A.deeper (envOfC (He.DefD.qual d10) (He.DefD.scope d10) s.heap.objs.size f cdv)) (envOfC (He.DefD.qual d10) (He.DefD.scope d10) s.heap.objs.size f cdv) (cxOf (CX PR w) PR w K mg base N10 (He.DefD.qual d10) (He.DefD.scope d10) f cdv A outer s H E).xe := passes_of rfl
    show PSs _ _ (tS (cq _ M G W) b10)
    exact (qss_one (z_ret (x_f C tk 1 3 3 (a_c (x_v 1) (a_c x_i (a_c (x_sub (x_ix C (x_v 0) x_i) x_i) a_n))))))⟩, fun K f fd F => F.bindsN fun _ _ _ _ _ _ us hl => match us, hl with | [_, _], _ => rfl, ⟨rfl, rfl⟩⟩
def N11 : List PySem.Str := ["book", "cell", "found", "code"] -- code_of_cell
def b11 : WS := (wSeq (wAsg (wComp (wIter (wBin fIx (wVar 0) (wC (.int 3)))) (.nm 3) (wTst (wBin fEq (wBin fIx (wVar 3) (wC (.int 0))) (wVar 1))) (wVar 3) [3]) (gNm 2)) (wRet (wIf (wTru (wVar 2)) (wBin fIx (wVar 2) (wC (.int 0))) (wC .non))))
def e11 : Ent := ⟨2, 4, b11⟩
theorem sc11 : FnScope N11 (psOf d11) (He.DefD.scope d11) := ⟨rfl, rfl, rfl, by decide +kernel, rfl, by decide +kernel, by decide +kernel⟩
theorem ok11 : BodyOk LW PR d11 e11 := ⟨rfl, ⟨N11, rfl, sc11, fun w K mg base M G W f cdv A outer s H E ecd C3 C tk => by
    have hp : PassesOwn (model PR w) (A.deeper (envOfC (He.DefD.qual d11) (He.DefD.scope d11) s.heap.objs.size f cdv)) (envOfC (He.DefD.qual d11) (He.DefD.scope d11) s.heap.objs.size f cdv) (cxOf (CX PR w) PR w K mg base N11 (He.DefD.qual d11) (He.DefD.scope d11) f cdv A outer s H E).xe := passes_of rfl
    show PSs _ _ (tS (cq _ M G W) b11)
    exact (qss_cons (by first | exact (z_lc C 2 [("code", 3)] (i_v (x_ix C (x_v 0) x_i)) (fun _ _ _ _ _ => by exact (p_nm 3 (C.blk _ _ _ _ _).nd)) (fun _ _ _ _ _ => by exact (qts_one (t_cmp (o_eq (C.blk _ _ _ _ _)) (x_ix (C.blk _ _ _ _ _) (x_v 3) (x_con (C.blk _ _ _ _ _) 1)) (x_v 1)))) (fun _ _ _ _ _ => by exact (x_v 3))) | exact z_set C 2 (x_lc C [("code", 3)] (i_v (x_ix C (x_v 0) x_i)) (fun _ _ _ _ _ => by exact (p_nm 3 (C.blk _ _ _ _ _).nd)) (fun _ _ _ _ _ => by exact (qts_one (t_cmp (o_eq (C.blk _ _ _ _ _)) (x_ix (C.blk _ _ _ _ _) (x_v 3) (x_con (C.blk _ _ _ _ _) 1)) (x_v 1)))) (fun _ _ _ _ _ => by exact (x_v 3)))) (qss_one (z_ret (qe_ifx (qt_tru (x_v 2)) (x_ix C (x_v 2) x_i) x_n))))⟩, fun K f fd F => F.bindsN fun _ _ _ _ _ _ us hl => match us, hl with | [_, _], _ => rfl, ⟨rfl, rfl⟩⟩
def N12 : List PySem.Str := ["book", "cell"] -- is_passed
def b12 : WS := (wRet (wBin (fInG false) (wVar 1) (wTup (wCons (wC (.int 0)) (wCons (wCallN 7 1 (wCons (wVar 0) wNil)) wNil)))))
def e12 : Ent := ⟨2, 2, b12⟩
theorem sc12 : FnScope N12 (psOf d12) (He.DefD.scope d12) := ⟨rfl, rfl, rfl, by decide +kernel, rfl, by decide +kernel, by decide +kernel⟩
theorem ok12 : BodyOk LW PR d12 e12 := ⟨rfl, ⟨N12, rfl, sc12, fun w K mg base M G W f cdv A outer s H E ecd C3 C tk => by
    have hp : PassesOwn (model PR w) (A.deeper (envOfC (He.DefD.qual d12) (He.DefD.scope d12) s.heap.objs.size f cdv)) (envOfC (He.DefD.qual d12) (He.DefD.scope d12) s.heap.objs.size f cdv) (cxOf (CX PR w) PR w K mg base N12 (He.DefD.qual d12) (He.DefD.scope d12) f cdv A outer s H E).xe := passes_of rfl
    show PSs _ _ (tS (cq _ M G W) b12)
    exact (qss_one (z_ret (x_cmp (o_in C) (x_v 1) (qe_tup (a_c x_i (a_c (x_f C tk 7 1 9 (a_c (x_v 0) a_n)) a_n))))))⟩, fun K f fd F => F.bindsN fun _ _ _ _ _ _ us hl => match us, hl with | [_, _], _ => rfl, ⟨rfl, rfl⟩⟩
def N13 : List PySem.Str := ["book", "cell", "case", "code", "sign"] -- step_of
def b13 : WS := (wSeq (wIfS (wTru (wCallN 12 2 (wCons (wVar 0) (wCons (wVar 1) wNil)))) (wRet (wTup (wCons (wC (.str "")) (wCons (wVar 2) wNil)))) wNext) (wSeq (wAsg (wCallN 11 2 (wCons (wVar 0) (wCons (wVar 1) wNil))) (gNm 3)) (wSeq (wIfS (wTst (wBin fIs (wVar 3) (wC .non))) (wRet (wC .non)) wNext) (wSeq (wAsg (wBin fIx (wBin fIx (wVar 3) (wC (.int 1))) (wVar 2)) (gNm 4)) (wRet (wTup (wCons (wIf (wTst (wBin fIs (wVar 4) (wC .non))) (wC (.str "")) (wVar 4)) (wCons (wBin fIx (wBin fIx (wVar 3) (wC (.int 2))) (wVar 2)) wNil))))))))
def e13 : Ent := ⟨3, 5, b13⟩
theorem sc13 : FnScope N13 (psOf d13) (He.DefD.scope d13) := ⟨rfl, rfl, rfl, by decide +kernel, rfl, by decide +kernel, by decide +kernel⟩
theorem ok13 : BodyOk LW PR d13 e13 := ⟨rfl, ⟨N13, rfl, sc13, fun w K mg base M G W f cdv A outer s H E ecd C3 C tk => by
    have hp : PassesOwn (model PR w) (A.deeper (envOfC (He.DefD.qual d13) (He.DefD.scope d13) s.heap.objs.size f cdv)) (envOfC (He.DefD.qual d13) (He.DefD.scope d13) s.heap.objs.size f cdv) (cxOf (CX PR w) PR w K mg base N13 (He.DefD.qual d13) (He.DefD.scope d13) f cdv A outer s H E).xe := passes_of rfl
    show PSs _ _ (tS (cq _ M G W) b13)
    exact (qss_cons (qs_if (qt_tru (x_f C tk 12 2 14 (a_c (x_v 0) (a_c (x_v 1) a_n)))) (qss_one (z_ret (qe_tup (a_c x_s (a_c (x_v 2) a_n))))) qss_nil) (qss_cons (z_set C 3 (x_f C tk 11 2 13 (a_c (x_v 0) (a_c (x_v 1) a_n)))) (qss_cons (qs_if (t_cmp (o_is C) (x_v 3) x_n) (qss_one (z_ret x_n)) qss_nil) (qss_cons (z_set C 4 (x_ix C (x_ix C (x_v 3) (x_con C 2)) (x_v 2))) (qss_one (z_ret (qe_tup (a_c (qe_ifx (t_cmp (o_is C) (x_v 4) x_n) x_s (x_v 4)) (a_c (x_ix C (x_ix C (x_v 3) (x_con C 3)) (x_v 2)) a_n)))))))))⟩, fun K f fd F => F.bindsN fun _ _ _ _ _ _ us hl => match us, hl with | [_, _, _], _ => rfl, ⟨rfl, rfl⟩⟩
def N14 : List PySem.Str := ["book", "tape", "case", "found", "cell", "told"] -- read_tape
def b14 : WS := (wSeq (wAsg (wLst wNil) (gNm 3)) (wSeq (wFor (wIter (wVar 1)) (gPt (.nm 4)) (wSeq (wAsg (wCallN 13 3 (wCons (wVar 0) (wCons (wVar 4) (wCons (wVar 2) wNil)))) (gNm 5)) (wSeq (wIfS (wTst (wBin fIs (wVar 5) (wC .non))) (wRet (wC .non)) wNext) (wSeq (wExpr (wBM "list" fAppend (wVar 3) (wCons (wBin fIx (wVar 5) (wC (.int 0))) wNil))) (wAsg (wBin fIx (wVar 5) (wC (.int 1))) (gNm 2)))))) (wRet (wTup (wCons (wBM "str" fJoin (wC (.str "")) (wCons (wVar 3) wNil)) (wCons (wVar 2) wNil))))))
def e14 : Ent := ⟨3, 6, b14⟩
theorem sc14 : FnScope N14 (psOf d14) (He.DefD.scope d14) := ⟨rfl, rfl, rfl, by decide +kernel, rfl, by decide +kernel, by decide +kernel⟩
theorem ok14 : BodyOk LW PR d14 e14 := ⟨rfl, ⟨N14, rfl, sc14, fun w K mg base M G W f cdv A outer s H E ecd C3 C tk => by
    have hp : PassesOwn (model PR w) (A.deeper (envOfC (He.DefD.qual d14) (He.DefD.scope d14) s.heap.objs.size f cdv)) (envOfC (He.DefD.qual d14) (He.DefD.scope d14) s.heap.objs.size f cdv) (cxOf (CX PR w) PR w K mg base N14 (He.DefD.qual d14) (He.DefD.scope d14) f cdv A outer s H E).xe := passes_of rfl
    show PSs _ _ (tS (cq _ M G W) b14)
    exact (qss_cons (z_set C 3 (qe_lst a_n)) (qss_cons (z_for C hp (i_v (x_v 1)) (p_nm 4 C.nd) (qss_cons (z_set C 5 (x_f C tk 13 3 15 (a_c (x_v 0) (a_c (x_v 4) (a_c (x_v 2) a_n))))) (qss_cons (qs_if (t_cmp (o_is C) (x_v 5) x_n) (qss_one (z_ret x_n)) qss_nil) (qss_cons (z_ex (x_bm PySem.F.plainAttrs_list PySem.F.slot_list_append PySem.F.type_list_append qm_append (x_v 3) (a_c (x_ix C (x_v 5) x_i) a_n))) (qss_one (z_set C 2 (x_ix C (x_v 5) x_i))))))) (qss_one (z_ret (qe_tup (a_c (x_bm PySem.F.plainAttrs_str PySem.F.slot_str_join PySem.F.type_str_join qm_join x_s (a_c (x_v 3) a_n)) (a_c (x_v 2) a_n)))))))⟩, fun K f fd F => F.bindsN fun _ _ _ _ _ _ us hl => match us, hl with | [_, _, _], _ => rfl, ⟨rfl, rfl⟩⟩
def N15 : List PySem.Str := ["book", "cell"] -- good_cells
def b15 : WS := (wRet (wCB fTuple (wCons (wComp (wRange1 (wCons (wBin fAdd (wCallN 7 1 (wCons (wVar 0) wNil)) (wC (.int 1))) wNil)) (.nm 1) (wTst (wBin fIsNot (wCallN 13 3 (wCons (wVar 0) (wCons (wVar 1) (wCons (wC (.int 0)) wNil)))) (wC .non))) (wVar 1) [1]) wNil)))
def e15 : Ent := ⟨1, 2, b15⟩
theorem sc15 : FnScope N15 (psOf d15) (He.DefD.scope d15) := ⟨rfl, rfl, rfl, by decide +kernel, rfl, by decide +kernel, by decide +kernel⟩
theorem ok15 : BodyOk LW PR d15 e15 := ⟨rfl, ⟨N15, rfl, sc15, fun w K mg base M G W f cdv A outer s H E ecd C3 C tk => by
    have hp : PassesOwn (model PR w) (A.deeper (envOfC (He.DefD.qual d15) (He.DefD.scope d15) s.heap.objs.size f cdv)) (envOfC (He.DefD.qual d15) (He.DefD.scope d15) s.heap.objs.size f cdv) (cxOf (CX PR w) PR w K mg base N15 (He.DefD.qual d15) (He.DefD.scope d15) f cdv A outer s H E).xe := passes_of rfl
    show PSs _ _ (tS (cq _ M G W) b15)
    exact (qss_one (z_ret (x_ct C 73 qc_tuple boot_tuple (a_c (x_lc C [("cell", 1)] (i_r1 C 71 (a_c (x_add (x_f C tk 7 1 9 (a_c (x_v 0) a_n)) x_i) a_n)) (fun _ _ _ _ _ => by exact (p_nm 1 (C.blk _ _ _ _ _).nd)) (fun _ _ _ _ _ => by exact (qts_one (t_cmp (o_isn (C.blk _ _ _ _ _)) (x_f (C.blk _ _ _ _ _) tak0 13 3 15 (a_c (x_v 0) (a_c (x_v 1) (a_c (x_con (C.blk _ _ _ _ _) 4) a_n)))) x_n))) (fun _ _ _ _ _ => by exact (x_v 1))) a_n))))⟩, fun K f fd F => F.bindsN fun _ _ _ _ _ _ us hl => match us, hl with | [_], _ => rfl, ⟨rfl, rfl⟩⟩
def N16 : List PySem.Str := ["cell", "power"] -- holes_in
def b16 : WS := (wRet (wCB fSum (wCons (wComp (wIter (wC (.tup [.int 1, .int 2, .int 4, .int 8, .int 16, .int 32]))) (.nm 1) wTrue (wBin fMod (wBin fDiv (wVar 0) (wVar 1)) (wC (.int 2))) [1]) wNil)))
def e16 : Ent := ⟨1, 2, b16⟩
theorem sc16 : FnScope N16 (psOf d16) (He.DefD.scope d16) := ⟨rfl, rfl, rfl, by decide +kernel, rfl, by decide +kernel, by decide +kernel⟩
theorem ok16 : BodyOk LW PR d16 e16 := ⟨rfl, ⟨N16, rfl, sc16, fun w K mg base M G W f cdv A outer s H E ecd C3 C tk => by
    have hp : PassesOwn (model PR w) (A.deeper (envOfC (He.DefD.qual d16) (He.DefD.scope d16) s.heap.objs.size f cdv)) (envOfC (He.DefD.qual d16) (He.DefD.scope d16) s.heap.objs.size f cdv) (cxOf (CX PR w) PR w K mg base N16 (He.DefD.qual d16) (He.DefD.scope d16) f cdv A outer s H E).xe := passes_of rfl
    show PSs _ _ (tS (cq _ M G W) b16)
    exact (qss_one (z_ret (x_cb C 75 (qc_sum C.calm) boot_sum (a_c (x_lc C [("power", 1)] (i_v (x_con C 0)) (fun _ _ _ _ _ => by exact (p_nm 1 (C.blk _ _ _ _ _).nd)) (fun _ _ _ _ _ => by exact qts_nil) (fun _ _ _ _ _ => by exact (x_mod (x_div (x_v 0) (x_v 1)) x_i))) a_n))))⟩, fun K f fd F => F.bindsN fun _ _ _ _ _ _ us hl => match us, hl with | [_], _ => rfl, ⟨rfl, rfl⟩⟩
def N17 : List PySem.Str := ["cell", "other", "power"] -- joined
def b17 : WS := (wRet (wCB fSum (wCons (wComp (wIter (wC (.tup [.int 1, .int 2, .int 4, .int 8, .int 16, .int 32]))) (.nm 2) (wOr (wTst (wBin fEq (wBin fMod (wBin fDiv (wVar 0) (wVar 2)) (wC (.int 2))) (wC (.int 1)))) (wTst (wBin fEq (wBin fMod (wBin fDiv (wVar 1) (wVar 2)) (wC (.int 2))) (wC (.int 1))))) (wVar 2) [2]) wNil)))
def e17 : Ent := ⟨2, 3, b17⟩
theorem sc17 : FnScope N17 (psOf d17) (He.DefD.scope d17) := ⟨rfl, rfl, rfl, by decide +kernel, rfl, by decide +kernel, by decide +kernel⟩
theorem ok17 : BodyOk LW PR d17 e17 := ⟨rfl, ⟨N17, rfl, sc17, fun w K mg base M G W f cdv A outer s H E ecd C3 C tk => by
    have hp : PassesOwn (model PR w) (A.deeper (envOfC (He.DefD.qual d17) (He.DefD.scope d17) s.heap.objs.size f cdv)) (envOfC (He.DefD.qual d17) (He.DefD.scope d17) s.heap.objs.size f cdv) (cxOf (CX PR w) PR w K mg base N17 (He.DefD.qual d17) (He.DefD.scope d17) f cdv A outer s H E).xe := passes_of rfl
    show PSs _ _ (tS (cq _ M G W) b17)
    exact (qss_one (z_ret (x_cb C 75 (qc_sum C.calm) boot_sum (a_c (x_lc C [("power", 2)] (i_v (x_con C 0)) (fun _ _ _ _ _ => by exact (p_nm 2 (C.blk _ _ _ _ _).nd)) (fun _ _ _ _ _ => by exact (qts_one (qt_or (qw_or (t_cmp (o_eq (C.blk _ _ _ _ _)) (x_mod (x_div (x_v 0) (x_v 2)) x_i) x_i) (qw_or1 (t_cmp (o_eq (C.blk _ _ _ _ _)) (x_mod (x_div (x_v 1) (x_v 2)) x_i) x_i)))))) (fun _ _ _ _ _ => by exact (x_v 2))) a_n))))⟩, fun K f fd F => F.bindsN fun _ _ _ _ _ _ us hl => match us, hl with | [_, _], _ => rfl, ⟨rfl, rfl⟩⟩
def N18 : List PySem.Str := ["book", "torn", "case"] -- check_torn
def b18 : WS := (wSeq (wIfS (wNot (wTru (wCallN 1 3 (wCons (wVar 1) (wCons (wC (.int 0)) (wCons (wC (.int 9)) wNil)))))) (wRaise 2 "why" (wCons (wC (.str "torn")) wNil)) wNext) (wIfS (wNot (wTru (wCallN 10 2 (wCons (wVar 0) (wCons (wVar 2) wNil))))) (wRaise 2 "why" (wCons (wC (.str "case")) wNil)) wNext))
def e18 : Ent := ⟨3, 3, b18⟩
theorem sc18 : FnScope N18 (psOf d18) (He.DefD.scope d18) := ⟨rfl, rfl, rfl, by decide +kernel, rfl, by decide +kernel, by decide +kernel⟩
theorem ok18 : BodyOk LW PR d18 e18 := ⟨rfl, ⟨N18, rfl, sc18, fun w K mg base M G W f cdv A outer s H E ecd C3 C tk => by
    have hp : PassesOwn (model PR w) (A.deeper (envOfC (He.DefD.qual d18) (He.DefD.scope d18) s.heap.objs.size f cdv)) (envOfC (He.DefD.qual d18) (He.DefD.scope d18) s.heap.objs.size f cdv) (cxOf (CX PR w) PR w K mg base N18 (He.DefD.qual d18) (He.DefD.scope d18) f cdv A outer s H E).xe := passes_of rfl
    show PSs _ _ (tS (cq _ M G W) b18)
    exact (qss_cons (qs_if (qt_not (qt_tru (x_f C tk 1 3 3 (a_c (x_v 1) (a_c x_i (a_c (x_con C 5) a_n)))))) (qss_one (qs_raise (i := 0) (j := 1) (js := 87) (c := 2) C tk rfl xt0 rfl rfl rfl (a_c x_s a_n) rfl rfl rfl rfl)) qss_nil) (qss_one (qs_if (qt_not (qt_tru (x_f C tk 10 2 12 (a_c (x_v 0) (a_c (x_v 2) a_n))))) (qss_one (qs_raise (i := 0) (j := 1) (js := 87) (c := 2) C tk rfl xt0 rfl rfl rfl (a_c x_s a_n) rfl rfl rfl rfl)) qss_nil)))⟩, fun K f fd F => F.bindsN fun _ _ _ _ _ _ us hl => match us, hl with | [_, _, _], _ => rfl, ⟨rfl, rfl⟩⟩
def N19 : List PySem.Str := ["cell", "other", "both"] -- cost_of
def b19 : WS := (wSeq (wAsg (wCallN 16 1 (wCons (wCallN 17 2 (wCons (wVar 0) (wCons (wVar 1) wNil))) wNil)) (gNm 2)) (wRet (wTup (wCons (wBin fSub (wVar 2) (wCallN 16 1 (wCons (wVar 0) wNil))) (wCons (wBin fSub (wVar 2) (wCallN 16 1 (wCons (wVar 1) wNil))) wNil)))))
def e19 : Ent := ⟨2, 3, b19⟩
theorem sc19 : FnScope N19 (psOf d19) (He.DefD.scope d19) := ⟨rfl, rfl, rfl, by decide +kernel, rfl, by decide +kernel, by decide +kernel⟩
theorem ok19 : BodyOk LW PR d19 e19 := ⟨rfl, ⟨N19, rfl, sc19, fun w K mg base M G W f cdv A outer s H E ecd C3 C tk => by
    have hp : PassesOwn (model PR w) (A.deeper (envOfC (He.DefD.qual d19) (He.DefD.scope d19) s.heap.objs.size f cdv)) (envOfC (He.DefD.qual d19) (He.DefD.scope d19) s.heap.objs.size f cdv) (cxOf (CX PR w) PR w K mg base N19 (He.DefD.qual d19) (He.DefD.scope d19) f cdv A outer s H E).xe := passes_of rfl
    show PSs _ _ (tS (cq _ M G W) b19)
    exact (qss_cons (z_set C 2 (x_f C tk 16 1 18 (a_c (x_f C tk 17 2 19 (a_c (x_v 0) (a_c (x_v 1) a_n))) a_n))) (qss_one (z_ret (qe_tup (a_c (x_sub (x_v 2) (x_f C tk 16 1 18 (a_c (x_v 0) a_n))) (a_c (x_sub (x_v 2) (x_f C tk 16 1 18 (a_c (x_v 1) a_n))) a_n))))))⟩, fun K f fd F => F.bindsN fun _ _ _ _ _ _ us hl => match us, hl with | [_, _], _ => rfl, ⟨rfl, rfl⟩⟩
def N20 : List PySem.Str := ["book", "torn", "spot", "cell", "other", "one", "two", "gone", "lost", "said", "there", "its", "end"] -- spot_behind
def b20 : WS := (wSeq (wAsg (wCallN 19 2 (wCons (wVar 3) (wCons (wVar 4) wNil))) (gTp 2 (gCns (gNm 5) (gCns (gNm 6) gNl)))) (wSeq (wAsg (wTup (wCons (wBin fAdd (wBin fIx (wVar 2) (wC (.int 2))) (wVar 5)) (wCons (wBin fAdd (wBin fIx (wVar 2) (wC (.int 3))) (wVar 6)) wNil))) (gTp 2 (gCns (gNm 7) (gCns (gNm 8) gNl)))) (wSeq (wIfS (wTst (wBin gGt (wCB fMax (wCons (wVar 7) (wCons (wVar 8) wNil))) (wVar 1))) (wRet (wC .non)) wNext) (wSeq (wAsg (wTup (wCons (wCallN 13 3 (wCons (wVar 0) (wCons (wVar 3) (wCons (wBin fIx (wVar 2) (wC (.int 0))) wNil)))) (wCons (wCallN 13 3 (wCons (wVar 0) (wCons (wVar 4) (wCons (wBin fIx (wVar 2) (wC (.int 1))) wNil)))) wNil))) (gTp 2 (gCns (gTp 2 (gCns (gNm 9) (gCns (gNm 10) gNl))) (gCns (gTp 2 (gCns (gNm 11) (gCns (gNm 12) gNl))) gNl)))) (wRet (wIf (wTst (wBin fEq (wVar 9) (wVar 11))) (wTup (wCons (wVar 10) (wCons (wVar 12) (wCons (wVar 7) (wCons (wVar 8) wNil))))) (wTup wNil)))))))
def e20 : Ent := ⟨5, 13, b20⟩
theorem sc20 : FnScope N20 (psOf d20) (He.DefD.scope d20) := ⟨rfl, rfl, rfl, by decide +kernel, rfl, by decide +kernel, by decide +kernel⟩
theorem ok20 : BodyOk LW PR d20 e20 := ⟨rfl, ⟨N20, rfl, sc20, fun w K mg base M G W f cdv A outer s H E ecd C3 C tk => by
    have hp : PassesOwn (model PR w) (A.deeper (envOfC (He.DefD.qual d20) (He.DefD.scope d20) s.heap.objs.size f cdv)) (envOfC (He.DefD.qual d20) (He.DefD.scope d20) s.heap.objs.size f cdv) (cxOf (CX PR w) PR w K mg base N20 (He.DefD.qual d20) (He.DefD.scope d20) f cdv A outer s H E).xe := passes_of rfl
    show PSs _ _ (tS (cq _ M G W) b20)
    exact (qss_cons (z_asg (x_f C tk 19 2 21 (a_c (x_v 3) (a_c (x_v 4) a_n))) (g_t C 2 (g_c (g_nm C 5) (g_c (g_nm C 6) g_n)))) (qss_cons (by first | exact z_par C 7 8 (a_c (x_add (x_ix C (x_v 2) x_i) (x_v 5)) (a_c (x_add (x_ix C (x_v 2) x_i) (x_v 6)) a_n)) | exact z_asg (qe_tup (a_c (x_add (x_ix C (x_v 2) x_i) (x_v 5)) (a_c (x_add (x_ix C (x_v 2) x_i) (x_v 6)) a_n))) (g_t C 2 (g_c (g_nm C 7) (g_c (g_nm C 8) g_n)))) (qss_cons (qs_if (t_cmp (o_gt C) (x_cb C 76 (qc_max C.calm C.hu) boot_max (a_c (x_v 7) (a_c (x_v 8) a_n))) (x_v 1)) (qss_one (z_ret x_n)) qss_nil) (qss_cons (z_asg (qe_tup (a_c (x_f C tk 13 3 15 (a_c (x_v 0) (a_c (x_v 3) (a_c (x_ix C (x_v 2) x_i) a_n)))) (a_c (x_f C tk 13 3 15 (a_c (x_v 0) (a_c (x_v 4) (a_c (x_ix C (x_v 2) x_i) a_n)))) a_n))) (g_t C 2 (g_c (g_t C 2 (g_c (g_nm C 9) (g_c (g_nm C 10) g_n))) (g_c (g_t C 2 (g_c (g_nm C 11) (g_c (g_nm C 12) g_n))) g_n)))) (qss_one (z_ret (qe_ifx (t_cmp (o_eq C) (x_v 9) (x_v 11)) (qe_tup (a_c (x_v 10) (a_c (x_v 12) (a_c (x_v 7) (a_c (x_v 8) a_n))))) (qe_tup a_n))))))))⟩, fun K f fd F => F.bindsN fun _ _ _ _ _ _ us hl => match us, hl with | [_, _, _, _, _], _ => rfl, ⟨rfl, rfl⟩⟩
def N21 : List PySem.Str := ["book", "torn"] -- couple_by
def b21 : WS := (wRet (wFld 0 "its_couple" (wMake 55 3 0 (wCons (wVar 0) (wCons (wVar 1) wNil)))))
def e21 : Ent := ⟨2, 2, b21⟩
theorem sc21 : FnScope N21 (psOf d21) (He.DefD.scope d21) := ⟨rfl, rfl, rfl, by decide +kernel, rfl, by decide +kernel, by decide +kernel⟩
theorem ok21 : BodyOk LW PR d21 e21 := ⟨rfl, ⟨N21, rfl, sc21, fun w K mg base M G W f cdv A outer s H E ecd C3 C tk => by
    have hp : PassesOwn (model PR w) (A.deeper (envOfC (He.DefD.qual d21) (He.DefD.scope d21) s.heap.objs.size f cdv)) (envOfC (He.DefD.qual d21) (He.DefD.scope d21) s.heap.objs.size f cdv) (cxOf (CX PR w) PR w K mg base N21 (He.DefD.qual d21) (He.DefD.scope d21) f cdv A outer s H E).xe := passes_of rfl
    show PSs _ _ (tS (cq _ M G W) b21)
    exact (qss_one (z_ret (x_fl C 0 63 69 (x_mk C tk 55 3 0 22 64 (a_c (x_v 0) (a_c (x_v 1) a_n))))))⟩, fun K f fd F => F.bindsN fun _ _ _ _ _ _ us hl => match us, hl with | [_, _], _ => rfl, ⟨rfl, rfl⟩⟩
def N22 : List PySem.Str := ["book", "torn"] -- bears
def b22 : WS := (wRet (wBin fIs (wCallN 21 2 (wCons (wVar 0) (wCons (wVar 1) wNil))) (wC .non)))
def e22 : Ent := ⟨2, 2, b22⟩
theorem sc22 : FnScope N22 (psOf d22) (He.DefD.scope d22) := ⟨rfl, rfl, rfl, by decide +kernel, rfl, by decide +kernel, by decide +kernel⟩
theorem ok22 : BodyOk LW PR d22 e22 := ⟨rfl, ⟨N22, rfl, sc22, fun w K mg base M G W f cdv A outer s H E ecd C3 C tk => by
    have hp : PassesOwn (model PR w) (A.deeper (envOfC (He.DefD.qual d22) (He.DefD.scope d22) s.heap.objs.size f cdv)) (envOfC (He.DefD.qual d22) (He.DefD.scope d22) s.heap.objs.size f cdv) (cxOf (CX PR w) PR w K mg base N22 (He.DefD.qual d22) (He.DefD.scope d22) f cdv A outer s H E).xe := passes_of rfl
    show PSs _ _ (tS (cq _ M G W) b22)
    exact (qss_one (z_ret (x_cmp (o_is C) (x_f C tk 21 2 24 (a_c (x_v 0) (a_c (x_v 1) a_n))) x_n)))⟩, fun K f fd F => F.bindsN fun _ _ _ _ _ _ us hl => match us, hl with | [_, _], _ => rfl, ⟨rfl, rfl⟩⟩
def N23 : List PySem.Str := ["book", "some", "torn"] -- most_borne
def b23 : WS := (wSeq (wAsg (wComp (wRange1 (wCons (wBin fAdd (wC (.int 9)) (wC (.int 1))) wNil)) (.nm 2) (wTru (wCallN 22 2 (wCons (wVar 0) (wCons (wVar 2) wNil)))) (wVar 2) [2]) (gNm 1)) (wRet (wIf (wTst (wBin fEq (wCB fLen (wCons (wVar 1) wNil)) (wBin fAdd (wC (.int 9)) (wC (.int 1))))) (wC .non) (wBin fSub (wCB fLen (wCons (wVar 1) wNil)) (wC (.int 1))))))
def e23 : Ent := ⟨1, 3, b23⟩
theorem sc23 : FnScope N23 (psOf d23) (He.DefD.scope d23) := ⟨rfl, rfl, rfl, by decide +kernel, rfl, by decide +kernel, by decide +kernel⟩
theorem ok23 : BodyOk LW PR d23 e23 := ⟨rfl, ⟨N23, rfl, sc23, fun w K mg base M G W f cdv A outer s H E ecd C3 C tk => by
    have hp : PassesOwn (model PR w) (A.deeper (envOfC (He.DefD.qual d23) (He.DefD.scope d23) s.heap.objs.size f cdv)) (envOfC (He.DefD.qual d23) (He.DefD.scope d23) s.heap.objs.size f cdv) (cxOf (CX PR w) PR w K mg base N23 (He.DefD.qual d23) (He.DefD.scope d23) f cdv A outer s H E).xe := passes_of rfl
    show PSs _ _ (tS (cq _ M G W) b23)
    exact (qss_cons (by first | exact (z_lc C 1 [("torn", 2)] (i_r1 C 71 (a_c (x_add (x_con C 6) x_i) a_n)) (fun _ _ _ _ _ => by exact (p_nm 2 (C.blk _ _ _ _ _).nd)) (fun _ _ _ _ _ => by exact (qts_one (qt_tru (x_f (C.blk _ _ _ _ _) tak0 22 2 25 (a_c (x_v 0) (a_c (x_v 2) a_n)))))) (fun _ _ _ _ _ => by exact (x_v 2))) | exact z_set C 1 (x_lc C [("torn", 2)] (i_r1 C 71 (a_c (x_add (x_con C 6) x_i) a_n)) (fun _ _ _ _ _ => by exact (p_nm 2 (C.blk _ _ _ _ _).nd)) (fun _ _ _ _ _ => by exact (qts_one (qt_tru (x_f (C.blk _ _ _ _ _) tak0 22 2 25 (a_c (x_v 0) (a_c (x_v 2) a_n)))))) (fun _ _ _ _ _ => by exact (x_v 2)))) (qss_one (z_ret (qe_ifx (t_cmp (o_eq C) (x_cb C 70 qc_len boot_len (a_c (x_v 1) a_n)) (x_add (x_con C 6) x_i)) x_n (x_sub (x_cb C 70 qc_len boot_len (a_c (x_v 1) a_n)) x_i)))))⟩, fun K f fd F => F.bindsN fun _ _ _ _ _ _ us hl => match us, hl with | [_], _ => rfl, ⟨rfl, rfl⟩⟩
def N24 : List PySem.Str := ["tape", "other", "cell", "its"] -- meeting_tape
def b24 : WS := (wRet (wCB fTuple (wCons (wComp (wZip (wCons (wVar 0) (wCons (wVar 1) wNil))) (.tp [(.nm 2), (.nm 3)]) wTrue (wCallN 17 2 (wCons (wVar 2) (wCons (wVar 3) wNil))) [2, 3]) wNil)))
def e24 : Ent := ⟨2, 4, b24⟩
theorem sc24 : FnScope N24 (psOf d24) (He.DefD.scope d24) := ⟨rfl, rfl, rfl, by decide +kernel, rfl, by decide +kernel, by decide +kernel⟩
theorem ok24 : BodyOk LW PR d24 e24 := ⟨rfl, ⟨N24, rfl, sc24, fun w K mg base M G W f cdv A outer s H E ecd C3 C tk => by
    have hp : PassesOwn (model PR w) (A.deeper (envOfC (He.DefD.qual d24) (He.DefD.scope d24) s.heap.objs.size f cdv)) (envOfC (He.DefD.qual d24) (He.DefD.scope d24) s.heap.objs.size f cdv) (cxOf (CX PR w) PR w K mg base N24 (He.DefD.qual d24) (He.DefD.scope d24) f cdv A outer s H E).xe := passes_of rfl
    show PSs _ _ (tS (cq _ M G W) b24)
    exact (qss_one (z_ret (x_ct C 73 qc_tuple boot_tuple (a_c (x_lc C [("cell", 2), ("its", 3)] (i_z C 81 (a_c (x_v 0) (a_c (x_v 1) a_n))) (fun _ _ _ _ _ => by exact (p_t (C.blk _ _ _ _ _).calm (p_c (p_nm 2 (C.blk _ _ _ _ _).nd) (p_c (p_nm 3 (C.blk _ _ _ _ _).nd) p_n)))) (fun _ _ _ _ _ => by exact qts_nil) (fun _ _ _ _ _ => by exact (x_f (C.blk _ _ _ _ _) tak0 17 2 19 (a_c (x_v 2) (a_c (x_v 3) a_n))))) a_n))))⟩, fun K f fd F => F.bindsN fun _ _ _ _ _ _ us hl => match us, hl with | [_, _], _ => rfl, ⟨rfl, rfl⟩⟩
def N25 : List PySem.Str := ["tape", "other", "costs", "cell", "its", "one", "two"] -- torn_between
def b25 : WS := (wSeq (wAsg (wComp (wZip (wCons (wVar 0) (wCons (wVar 1) wNil))) (.tp [(.nm 3), (.nm 4)]) wTrue (wCallN 19 2 (wCons (wVar 3) (wCons (wVar 4) wNil))) [3, 4]) (gNm 2)) (wRet (wTup (wCons (wCB fSum (wCons (wComp (wIter (wVar 2)) (.tp [(.nm 5), (.nm 6)]) wTrue (wVar 5) [5, 6]) wNil)) (wCons (wCB fSum (wCons (wComp (wIter (wVar 2)) (.tp [(.nm 5), (.nm 6)]) wTrue (wVar 6) [5, 6]) wNil)) wNil)))))
def e25 : Ent := ⟨2, 7, b25⟩
theorem sc25 : FnScope N25 (psOf d25) (He.DefD.scope d25) := ⟨rfl, rfl, rfl, by decide +kernel, rfl, by decide +kernel, by decide +kernel⟩
theorem ok25 : BodyOk LW PR d25 e25 := ⟨rfl, ⟨N25, rfl, sc25, fun w K mg base M G W f cdv A outer s H E ecd C3 C tk => by
    have hp : PassesOwn (model PR w) (A.deeper (envOfC (He.DefD.qual d25) (He.DefD.scope d25) s.heap.objs.size f cdv)) (envOfC (He.DefD.qual d25) (He.DefD.scope d25) s.heap.objs.size f cdv) (cxOf (CX PR w) PR w K mg base N25 (He.DefD.qual d25) (He.DefD.scope d25) f cdv A outer s H E).xe := passes_of rfl
    show PSs _ _ (tS (cq _ M G W) b25)
    exact (qss_cons (by first | exact (z_lc C 2 [("cell", 3), ("its", 4)] (i_z C 81 (a_c (x_v 0) (a_c (x_v 1) a_n))) (fun _ _ _ _ _ => by exact (p_t (C.blk _ _ _ _ _).calm (p_c (p_nm 3 (C.blk _ _ _ _ _).nd) (p_c (p_nm 4 (C.blk _ _ _ _ _).nd) p_n)))) (fun _ _ _ _ _ => by exact qts_nil) (fun _ _ _ _ _ => by exact (x_f (C.blk _ _ _ _ _) tak0 19 2 21 (a_c (x_v 3) (a_c (x_v 4) a_n))))) | exact z_set C 2 (x_lc C [("cell", 3), ("its", 4)] (i_z C 81 (a_c (x_v 0) (a_c (x_v 1) a_n))) (fun _ _ _ _ _ => by exact (p_t (C.blk _ _ _ _ _).calm (p_c (p_nm 3 (C.blk _ _ _ _ _).nd) (p_c (p_nm 4 (C.blk _ _ _ _ _).nd) p_n)))) (fun _ _ _ _ _ => by exact qts_nil) (fun _ _ _ _ _ => by exact (x_f (C.blk _ _ _ _ _) tak0 19 2 21 (a_c (x_v 3) (a_c (x_v 4) a_n)))))) (qss_one (z_ret (qe_tup (a_c (x_cb C 75 (qc_sum C.calm) boot_sum (a_c (x_lc C [("one", 5), ("two", 6)] (i_v (x_v 2)) (fun _ _ _ _ _ => by exact (p_t (C.blk _ _ _ _ _).calm (p_c (p_nm 5 (C.blk _ _ _ _ _).nd) (p_c (p_nm 6 (C.blk _ _ _ _ _).nd) p_n)))) (fun _ _ _ _ _ => by exact qts_nil) (fun _ _ _ _ _ => by exact (x_v 5))) a_n)) (a_c (x_cb C 75 (qc_sum C.calm) boot_sum (a_c (x_lc C [("one", 5), ("two", 6)] (i_v (x_v 2)) (fun _ _ _ _ _ => by exact (p_t (C.blk _ _ _ _ _).calm (p_c (p_nm 5 (C.blk _ _ _ _ _).nd) (p_c (p_nm 6 (C.blk _ _ _ _ _).nd) p_n)))) (fun _ _ _ _ _ => by exact qts_nil) (fun _ _ _ _ _ => by exact (x_v 6))) a_n)) a_n))))))⟩, fun K f fd F => F.bindsN fun _ _ _ _ _ _ us hl => match us, hl with | [_, _], _ => rfl, ⟨rfl, rfl⟩⟩
def N26 : List PySem.Str := ["book", "torn", "thing", "tape", "one", "other"] -- is_couple
def b26 : WS := (wSeq (wExpr (wCallN 18 3 (wCons (wVar 0) (wCons (wVar 1) (wCons (wC (.int 0)) wNil))))) (wSeq (wIfS (wOr (wNot (wTru (wCallN 2 2 (wCons (wVar 2) (wCons (wC (.int 2)) wNil))))) (wOr (wNot (wTru (wCB fAll (wCons (wComp (wIter (wVar 2)) (.nm 3) wTrue (wCallN 9 2 (wCons (wVar 0) (wCons (wVar 3) wNil))) [3]) wNil)))) (wTst (wBin fNe (wCB fLen (wCons (wBin fIx (wVar 2) (wC (.int 0))) wNil)) (wCB fLen (wCons (wBin fIx (wVar 2) (wC (.int 1))) wNil)))))) (wRet (wC (.bl false))) wNext) (wSeq (wAsg (wTup (wCons (wCallN 14 3 (wCons (wVar 0) (wCons (wBin fIx (wVar 2) (wC (.int 0))) (wCons (wC (.int 0)) wNil)))) (wCons (wCallN 14 3 (wCons (wVar 0) (wCons (wBin fIx (wVar 2) (wC (.int 1))) (wCons (wC (.int 0)) wNil)))) wNil))) (gTp 2 (gCns (gNm 4) (gCns (gNm 5) gNl)))) (wSeq (wIfS (wOr (wTst (wBin fIs (wVar 4) (wC .non))) (wOr (wTst (wBin fIs (wVar 5) (wC .non))) (wTst (wBin fEq (wBin fIx (wVar 4) (wC (.int 0))) (wBin fIx (wVar 5) (wC (.int 0))))))) (wRet (wC (.bl false))) wNext) (wRet (wBin gLe (wCB fMax (wCons (wCallN 25 2 (wCons (wBin fIx (wVar 2) (wC (.int 0))) (wCons (wBin fIx (wVar 2) (wC (.int 1))) wNil))) wNil)) (wVar 1)))))))
def e26 : Ent := ⟨3, 6, b26⟩
theorem sc26 : FnScope N26 (psOf d26) (He.DefD.scope d26) := ⟨rfl, rfl, rfl, by decide +kernel, rfl, by decide +kernel, by decide +kernel⟩
theorem ok26 : BodyOk LW PR d26 e26 := ⟨rfl, ⟨N26, rfl, sc26, fun w K mg base M G W f cdv A outer s H E ecd C3 C tk => by
    have hp : PassesOwn (model PR w) (A.deeper (envOfC (He.DefD.qual d26) (He.DefD.scope d26) s.heap.objs.size f cdv)) (envOfC (He.DefD.qual d26) (He.DefD.scope d26) s.heap.objs.size f cdv) (cxOf (CX PR w) PR w K mg base N26 (He.DefD.qual d26) (He.DefD.scope d26) f cdv A outer s H E).xe := passes_of rfl
    show PSs _ _ (tS (cq _ M G W) b26)
    exact (qss_cons (z_ex (x_f C tk 18 3 20 (a_c (x_v 0) (a_c (x_v 1) (a_c x_i a_n))))) (qss_cons (qs_if (qt_or (qw_or (qt_not (qt_tru (x_f C tk 2 2 4 (a_c (x_v 2) (a_c x_i a_n))))) (qw_or (qt_not (qt_tru (x_cb C 78 (qc_all C.calm) boot_all (a_c (x_lc C [("tape", 3)] (i_v (x_v 2)) (fun _ _ _ _ _ => by exact (p_nm 3 (C.blk _ _ _ _ _).nd)) (fun _ _ _ _ _ => by exact qts_nil) (fun _ _ _ _ _ => by exact (x_f (C.blk _ _ _ _ _) tak0 9 2 11 (a_c (x_v 0) (a_c (x_v 3) a_n))))) a_n)))) (qw_or1 (t_cmp (o_ne C) (x_cb C 70 qc_len boot_len (a_c (x_ix C (x_v 2) x_i) a_n)) (x_cb C 70 qc_len boot_len (a_c (x_ix C (x_v 2) x_i) a_n))))))) (qss_one (z_ret x_b)) qss_nil) (qss_cons (by first | exact z_par C 4 5 (a_c (x_f C tk 14 3 16 (a_c (x_v 0) (a_c (x_ix C (x_v 2) x_i) (a_c x_i a_n)))) (a_c (x_f C tk 14 3 16 (a_c (x_v 0) (a_c (x_ix C (x_v 2) x_i) (a_c x_i a_n)))) a_n)) | exact z_asg (qe_tup (a_c (x_f C tk 14 3 16 (a_c (x_v 0) (a_c (x_ix C (x_v 2) x_i) (a_c x_i a_n)))) (a_c (x_f C tk 14 3 16 (a_c (x_v 0) (a_c (x_ix C (x_v 2) x_i) (a_c x_i a_n)))) a_n))) (g_t C 2 (g_c (g_nm C 4) (g_c (g_nm C 5) g_n)))) (qss_cons (qs_if (qt_or (qw_or (t_cmp (o_is C) (x_v 4) x_n) (qw_or (t_cmp (o_is C) (x_v 5) x_n) (qw_or1 (t_cmp (o_eq C) (x_ix C (x_v 4) x_i) (x_ix C (x_v 5) x_i)))))) (qss_one (z_ret x_b)) qss_nil) (qss_one (z_ret (x_cmp (o_le C) (x_cb C 76 (qc_max C.calm C.hu) boot_max (a_c (x_f C tk 25 2 28 (a_c (x_ix C (x_v 2) x_i) (a_c (x_ix C (x_v 2) x_i) a_n))) a_n)) (x_v 1))))))))⟩, fun K f fd F => F.bindsN fun _ _ _ _ _ _ us hl => match us, hl with | [_, _, _], _ => rfl, ⟨rfl, rfl⟩⟩
def N27 : List PySem.Str := ["book", "torn", "couples"] -- paper_of
def b27 : WS := (wSeq (wAsg (wMake 55 3 0 (wCons (wVar 0) (wCons (wVar 1) wNil))) (gNm 2)) (wSeq (wIfS (wTst (wBin fIsNot (wFld 0 "its_couple" (wVar 2)) (wC .non))) (wRaise 2 "why" (wCons (wC (.str "couple")) wNil)) wNext) (wRet (wCB fTuple (wCons (wCB fSorted (wCons (wFld 0 "its_line" (wVar 2)) wNil)) wNil)))))
def e27 : Ent := ⟨2, 3, b27⟩
theorem sc27 : FnScope N27 (psOf d27) (He.DefD.scope d27) := ⟨rfl, rfl, rfl, by decide +kernel, rfl, by decide +kernel, by decide +kernel⟩
theorem ok27 : BodyOk LW PR d27 e27 := ⟨rfl, ⟨N27, rfl, sc27, fun w K mg base M G W f cdv A outer s H E ecd C3 C tk => by
    have hp : PassesOwn (model PR w) (A.deeper (envOfC (He.DefD.qual d27) (He.DefD.scope d27) s.heap.objs.size f cdv)) (envOfC (He.DefD.qual d27) (He.DefD.scope d27) s.heap.objs.size f cdv) (cxOf (CX PR w) PR w K mg base N27 (He.DefD.qual d27) (He.DefD.scope d27) f cdv A outer s H E).xe := passes_of rfl
    show PSs _ _ (tS (cq _ M G W) b27)
    exact (qss_cons (z_set C 2 (x_mk C tk 55 3 0 22 64 (a_c (x_v 0) (a_c (x_v 1) a_n)))) (qss_cons (qs_if (t_cmp (o_isn C) (x_fl C 0 63 69 (x_v 2)) x_n) (qss_one (qs_raise (i := 0) (j := 1) (js := 87) (c := 2) C tk rfl xt0 rfl rfl rfl (a_c x_s a_n) rfl rfl rfl rfl)) qss_nil) (qss_one (z_ret (x_ct C 73 qc_tuple boot_tuple (a_c (x_cb C 79 (qc_sorted C.hu) boot_sorted (a_c (x_fl C 0 63 67 (x_v 2)) a_n)) a_n))))))⟩, fun K f fd F => F.bindsN fun _ _ _ _ _ _ us hl => match us, hl with | [_, _], _ => rfl, ⟨rfl, rfl⟩⟩
def N28 : List PySem.Str := ["book", "torn", "thing", "part", "cases", "case"] -- is_spot
def b28 : WS := (wSeq (wIfS (wOr (wNot (wTru (wCallN 2 2 (wCons (wVar 2) (wCons (wC (.int 4)) wNil))))) (wNot (wTru (wCB fAll (wCons (wComp (wIter (wVar 2)) (.nm 3) wTrue (wCallN 0 1 (wCons (wVar 3) wNil)) [3]) wNil))))) (wRet (wC (.bl false))) wNext) (wSeq (wAsg (wCB fAll (wCons (wComp (wIter (wSl (wVar 2) pNo (pAt (wC (.int 2))))) (.nm 5) wTrue (wCallN 1 3 (wCons (wVar 5) (wCons (wC (.int 0)) (wCons (wBin fSub (wBin fIx (wVar 0) (wC (.int 2))) (wC (.int 1))) wNil)))) [5]) wNil)) (gNm 4)) (wRet (wAndV (wVar 4) (wCB fAll (wCons (wComp (wIter (wSl (wVar 2) (pAt (wC (.int 2))) pNo)) (.nm 3) wTrue (wCallN 1 3 (wCons (wVar 3) (wCons (wC (.int 0)) (wCons (wVar 1) wNil)))) [3]) wNil))))))
def e28 : Ent := ⟨3, 6, b28⟩
theorem sc28 : FnScope N28 (psOf d28) (He.DefD.scope d28) := ⟨rfl, rfl, rfl, by decide +kernel, rfl, by decide +kernel, by decide +kernel⟩
theorem ok28 : BodyOk LW PR d28 e28 := ⟨rfl, ⟨N28, rfl, sc28, fun w K mg base M G W f cdv A outer s H E ecd C3 C tk => by
    have hp : PassesOwn (model PR w) (A.deeper (envOfC (He.DefD.qual d28) (He.DefD.scope d28) s.heap.objs.size f cdv)) (envOfC (He.DefD.qual d28) (He.DefD.scope d28) s.heap.objs.size f cdv) (cxOf (CX PR w) PR w K mg base N28 (He.DefD.qual d28) (He.DefD.scope d28) f cdv A outer s H E).xe := passes_of rfl
    show PSs _ _ (tS (cq _ M G W) b28)
    exact (qss_cons (qs_if (qt_or (qw_or (qt_not (qt_tru (x_f C tk 2 2 4 (a_c (x_v 2) (a_c x_i a_n))))) (qw_or1 (qt_not (qt_tru (x_cb C 78 (qc_all C.calm) boot_all (a_c (x_lc C [("part", 3)] (i_v (x_v 2)) (fun _ _ _ _ _ => by exact (p_nm 3 (C.blk _ _ _ _ _).nd)) (fun _ _ _ _ _ => by exact qts_nil) (fun _ _ _ _ _ => by exact (x_f (C.blk _ _ _ _ _) tak0 0 1 2 (a_c (x_v 3) a_n)))) a_n))))))) (qss_one (z_ret x_b)) qss_nil) (qss_cons (z_set C 4 (x_cb C 78 (qc_all C.calm) boot_all (a_c (x_lc C [("case", 5)] (i_v (qe_sl (x_v 2) qp_none (qp_some x_i))) (fun _ _ _ _ _ => by exact (p_nm 5 (C.blk _ _ _ _ _).nd)) (fun _ _ _ _ _ => by exact qts_nil) (fun _ _ _ _ _ => by exact (x_f (C.blk _ _ _ _ _) tak0 1 3 3 (a_c (x_v 5) (a_c x_i (a_c (x_sub (x_ix (C.blk _ _ _ _ _) (x_v 0) x_i) x_i) a_n)))))) a_n))) (qss_one (z_ret (qe_andV (x_v 4) (qe_and1 (x_cb C 78 (qc_all C.calm) boot_all (a_c (x_lc C [("part", 3)] (i_v (qe_sl (x_v 2) (qp_some x_i) qp_none)) (fun _ _ _ _ _ => by exact (p_nm 3 (C.blk _ _ _ _ _).nd)) (fun _ _ _ _ _ => by exact qts_nil) (fun _ _ _ _ _ => by exact (x_f (C.blk _ _ _ _ _) tak0 1 3 3 (a_c (x_v 3) (a_c x_i (a_c (x_v 1) a_n)))))) a_n))))))))⟩, fun K f fd F => F.bindsN fun _ _ _ _ _ _ us hl => match us, hl with | [_, _, _], _ => rfl, ⟨rfl, rfl⟩⟩
def N29 : List PySem.Str := ["book", "torn", "spots", "spot", "cell", "other", "later"] -- spot_fault
def b29 : WS := (wSeq (wFor (wIter (wCallN 15 1 (wCons (wVar 0) wNil))) (gPt (.nm 4)) (wFor (wIter (wCallN 15 1 (wCons (wVar 0) wNil))) (gPt (.nm 5)) (wSeq (wAsg (wCallN 20 5 (wCons (wVar 0) (wCons (wVar 1) (wCons (wVar 3) (wCons (wVar 4) (wCons (wVar 5) wNil)))))) (gNm 6)) (wSeq (wIfS (wTst (wBin fEq (wVar 6) (wTup wNil))) (wRet (wC (.str "unlike"))) wNext) (wIfS (wAnd (wTst (wBin fIsNot (wVar 6) (wC .non))) (wTst (wBin (fInG true) (wVar 6) (wVar 2)))) (wRet (wC (.str "open"))) wNext))))) (wRet (wC .non)))
def e29 : Ent := ⟨4, 7, b29⟩
theorem sc29 : FnScope N29 (psOf d29) (He.DefD.scope d29) := ⟨rfl, rfl, rfl, by decide +kernel, rfl, by decide +kernel, by decide +kernel⟩
theorem ok29 : BodyOk LW PR d29 e29 := ⟨rfl, ⟨N29, rfl, sc29, fun w K mg base M G W f cdv A outer s H E ecd C3 C tk => by
    have hp : PassesOwn (model PR w) (A.deeper (envOfC (He.DefD.qual d29) (He.DefD.scope d29) s.heap.objs.size f cdv)) (envOfC (He.DefD.qual d29) (He.DefD.scope d29) s.heap.objs.size f cdv) (cxOf (CX PR w) PR w K mg base N29 (He.DefD.qual d29) (He.DefD.scope d29) f cdv A outer s H E).xe := passes_of rfl
    show PSs _ _ (tS (cq _ M G W) b29)
    exact (qss_cons (z_for C hp (i_v (x_f C tk 15 1 17 (a_c (x_v 0) a_n))) (p_nm 4 C.nd) (qss_one (z_for C hp (i_v (x_f C tk 15 1 17 (a_c (x_v 0) a_n))) (p_nm 5 C.nd) (qss_cons (z_set C 6 (x_f C tk 20 5 23 (a_c (x_v 0) (a_c (x_v 1) (a_c (x_v 3) (a_c (x_v 4) (a_c (x_v 5) a_n))))))) (qss_cons (qs_if (t_cmp (o_eq C) (x_v 6) (qe_tup a_n)) (qss_one (z_ret x_s)) qss_nil) (qss_one (qs_if (qt_and (qw_and (t_cmp (o_isn C) (x_v 6) x_n) (qw_and1 (t_cmp (o_nin C) (x_v 6) (x_v 2))))) (qss_one (z_ret x_s)) qss_nil))))))) (qss_one (z_ret x_n)))⟩, fun K f fd F => F.bindsN fun _ _ _ _ _ _ us hl => match us, hl with | [_, _, _, _], _ => rfl, ⟨rfl, rfl⟩⟩
def N30 : List PySem.Str := ["book", "torn", "thing", "index", "spot", "spots", "fault"] -- paper_fault
def b30 : WS := (wSeq (wExpr (wCallN 18 3 (wCons (wVar 0) (wCons (wVar 1) (wCons (wC (.int 0)) wNil))))) (wSeq (wIfS (wNot (wTru (wCB fIsi (wCons (wVar 2) (wCons (wC (.ty "tuple")) wNil))))) (wRet (wTup (wCons (wUn fNeg (wC (.int 1))) (wCons (wC (.str "form")) wNil)))) wNext) (wSeq (wFor (wEnum (wCons (wVar 2) wNil)) (gPt (.tp [(.nm 3), (.nm 4)])) (wIfS (wOr (wNot (wTru (wCallN 28 3 (wCons (wVar 0) (wCons (wVar 1) (wCons (wVar 4) wNil)))))) (wAnd (wTst (wBin gGt (wVar 3) (wC (.int 0)))) (wTst (wBin gLe (wVar 4) (wBin fIx (wVar 2) (wBin fSub (wVar 3) (wC (.int 1)))))))) (wRet (wTup (wCons (wVar 3) (wCons (wC (.str "form")) wNil)))) wNext)) (wSeq (wAsg (wDCT (wIter (wVar 2)) (.nm 4) wTrue (wVar 4) (wC (.bl true)) [4]) (gNm 5)) (wSeq (wIfS (wTst (wBin (fInG true) (wC (.tup [.int 0, .int 0, .int 0, .int 0])) (wVar 5))) (wRet (wTup (wCons (wUn fNeg (wC (.int 1))) (wCons (wC (.str "first")) wNil)))) wNext) (wSeq (wFor (wEnum (wCons (wVar 2) wNil)) (gPt (.tp [(.nm 3), (.nm 4)])) (wSeq (wAsg (wCallN 29 4 (wCons (wVar 0) (wCons (wVar 1) (wCons (wVar 5) (wCons (wVar 4) wNil))))) (gNm 6)) (wIfS (wTst (wBin fIsNot (wVar 6) (wC .non))) (wRet (wTup (wCons (wVar 3) (wCons (wVar 6) wNil)))) wNext))) (wRet (wC .non))))))))
def e30 : Ent := ⟨3, 7, b30⟩
theorem sc30 : FnScope N30 (psOf d30) (He.DefD.scope d30) := ⟨rfl, rfl, rfl, by decide +kernel, rfl, by decide +kernel, by decide +kernel⟩
theorem ok30 : BodyOk LW PR d30 e30 := ⟨rfl, ⟨N30, rfl, sc30, fun w K mg base M G W f cdv A outer s H E ecd C3 C tk => by
    have hp : PassesOwn (model PR w) (A.deeper (envOfC (He.DefD.qual d30) (He.DefD.scope d30) s.heap.objs.size f cdv)) (envOfC (He.DefD.qual d30) (He.DefD.scope d30) s.heap.objs.size f cdv) (cxOf (CX PR w) PR w K mg base N30 (He.DefD.qual d30) (He.DefD.scope d30) f cdv A outer s H E).xe := passes_of rfl
    show PSs _ _ (tS (cq _ M G W) b30)
    exact (qss_cons (z_ex (x_f C tk 18 3 20 (a_c (x_v 0) (a_c (x_v 1) (a_c x_i a_n))))) (qss_cons (qs_if (qt_not (qt_tru (x_cb C 72 qc_isi boot_isinstance (a_c (x_v 2) (a_c (x_ty C 73 boot_tuple) a_n))))) (qss_one (z_ret (qe_tup (a_c (x_neg x_i) (a_c x_s a_n))))) qss_nil) (qss_cons (z_for C hp (i_e C 80 (a_c (x_v 2) a_n)) (p_t C.calm (p_c (p_nm 3 C.nd) (p_c (p_nm 4 C.nd) p_n))) (qss_one (qs_if (qt_or (qw_or (qt_not (qt_tru (x_f C tk 28 3 31 (a_c (x_v 0) (a_c (x_v 1) (a_c (x_v 4) a_n)))))) (qw_or1 (qt_and (qw_and (t_cmp (o_gt C) (x_v 3) x_i) (qw_and1 (t_cmp (o_le C) (x_v 4) (x_ix C (x_v 2) (x_sub (x_v 3) x_i))))))))) (qss_one (z_ret (qe_tup (a_c (x_v 3) (a_c x_s a_n))))) qss_nil))) (qss_cons (by first | exact (z_dc C 5 [("spot", 4)] (i_v (x_v 2)) (fun _ _ _ _ _ => by exact (p_nm 4 (C.blk _ _ _ _ _).nd)) (fun _ _ _ _ _ => by exact qts_nil) (fun _ _ _ _ _ => by exact (x_v 4)) (fun _ _ _ _ _ => by exact x_b)) | exact z_set C 5 (x_dc C [("spot", 4)] (i_v (x_v 2)) (fun _ _ _ _ _ => by exact (p_nm 4 (C.blk _ _ _ _ _).nd)) (fun _ _ _ _ _ => by exact qts_nil) (fun _ _ _ _ _ => by exact (x_v 4)) (fun _ _ _ _ _ => by exact x_b))) (qss_cons (qs_if (t_cmp (o_nin C) (x_con C 7) (x_v 5)) (qss_one (z_ret (qe_tup (a_c (x_neg x_i) (a_c x_s a_n))))) qss_nil) (qss_cons (z_for C hp (i_e C 80 (a_c (x_v 2) a_n)) (p_t C.calm (p_c (p_nm 3 C.nd) (p_c (p_nm 4 C.nd) p_n))) (qss_cons (z_set C 6 (x_f C tk 29 4 32 (a_c (x_v 0) (a_c (x_v 1) (a_c (x_v 5) (a_c (x_v 4) a_n)))))) (qss_one (qs_if (t_cmp (o_isn C) (x_v 6) x_n) (qss_one (z_ret (qe_tup (a_c (x_v 3) (a_c (x_v 6) a_n))))) qss_nil)))) (qss_one (z_ret x_n))))))))⟩, fun K f fd F => F.bindsN fun _ _ _ _ _ _ us hl => match us, hl with | [_, _, _], _ => rfl, ⟨rfl, rfl⟩⟩
def N31 : List PySem.Str := ["book", "torn", "thing"] -- takes_paper
def b31 : WS := (wRet (wBin fIs (wCallN 30 3 (wCons (wVar 0) (wCons (wVar 1) (wCons (wVar 2) wNil)))) (wC .non)))
def e31 : Ent := ⟨3, 3, b31⟩
theorem sc31 : FnScope N31 (psOf d31) (He.DefD.scope d31) := ⟨rfl, rfl, rfl, by decide +kernel, rfl, by decide +kernel, by decide +kernel⟩
theorem ok31 : BodyOk LW PR d31 e31 := ⟨rfl, ⟨N31, rfl, sc31, fun w K mg base M G W f cdv A outer s H E ecd C3 C tk => by
    have hp : PassesOwn (model PR w) (A.deeper (envOfC (He.DefD.qual d31) (He.DefD.scope d31) s.heap.objs.size f cdv)) (envOfC (He.DefD.qual d31) (He.DefD.scope d31) s.heap.objs.size f cdv) (cxOf (CX PR w) PR w K mg base N31 (He.DefD.qual d31) (He.DefD.scope d31) f cdv A outer s H E).xe := passes_of rfl
    show PSs _ _ (tS (cq _ M G W) b31)
    exact (qss_one (z_ret (x_cmp (o_is C) (x_f C tk 30 3 33 (a_c (x_v 0) (a_c (x_v 1) (a_c (x_v 2) a_n)))) x_n)))⟩, fun K f fd F => F.bindsN fun _ _ _ _ _ _ us hl => match us, hl with | [_, _, _], _ => rfl, ⟨rfl, rfl⟩⟩
def N32 : List PySem.Str := ["book", "torn", "found"] -- told_apart
def b32 : WS := (wSeq (wAsg (wCallN 21 2 (wCons (wVar 0) (wCons (wVar 1) wNil))) (gNm 2)) (wRet (wIf (wTst (wBin fIsNot (wVar 2) (wC .non))) (wTup (wCons (wC (.str "couple")) (wCons (wVar 2) wNil))) (wTup (wCons (wC (.str "paper")) (wCons (wCallN 27 2 (wCons (wVar 0) (wCons (wVar 1) wNil))) wNil))))))
def e32 : Ent := ⟨2, 3, b32⟩
theorem sc32 : FnScope N32 (psOf d32) (He.DefD.scope d32) := ⟨rfl, rfl, rfl, by decide +kernel, rfl, by decide +kernel, by decide +kernel⟩
theorem ok32 : BodyOk LW PR d32 e32 := ⟨rfl, ⟨N32, rfl, sc32, fun w K mg base M G W f cdv A outer s H E ecd C3 C tk => by
    have hp : PassesOwn (model PR w) (A.deeper (envOfC (He.DefD.qual d32) (He.DefD.scope d32) s.heap.objs.size f cdv)) (envOfC (He.DefD.qual d32) (He.DefD.scope d32) s.heap.objs.size f cdv) (cxOf (CX PR w) PR w K mg base N32 (He.DefD.qual d32) (He.DefD.scope d32) f cdv A outer s H E).xe := passes_of rfl
    show PSs _ _ (tS (cq _ M G W) b32)
    exact (qss_cons (z_set C 2 (x_f C tk 21 2 24 (a_c (x_v 0) (a_c (x_v 1) a_n)))) (qss_one (z_ret (qe_ifx (t_cmp (o_isn C) (x_v 2) x_n) (qe_tup (a_c x_s (a_c (x_v 2) a_n))) (qe_tup (a_c x_s (a_c (x_f C tk 27 2 30 (a_c (x_v 0) (a_c (x_v 1) a_n))) a_n)))))))⟩, fun K f fd F => F.bindsN fun _ _ _ _ _ _ us hl => match us, hl with | [_, _], _ => rfl, ⟨rfl, rfl⟩⟩
def N33 : List PySem.Str := ["book", "torn", "thing"] -- is_told
def b33 : WS := (wSeq (wExpr (wCallN 18 3 (wCons (wVar 0) (wCons (wVar 1) (wCons (wC (.int 0)) wNil))))) (wSeq (wIfS (wOr (wNot (wTru (wCallN 2 2 (wCons (wVar 2) (wCons (wC (.int 2)) wNil))))) (wNot (wTru (wCallN 6 2 (wCons (wBin fIx (wVar 2) (wC (.int 0))) (wCons (wLst (wCons (wC (.str "couple")) (wCons (wC (.str "paper")) wNil))) wNil)))))) (wRet (wC (.bl false))) wNext) (wRet (wIf (wTst (wBin fEq (wBin fIx (wVar 2) (wC (.int 0))) (wC (.str "couple")))) (wCallN 26 3 (wCons (wVar 0) (wCons (wVar 1) (wCons (wBin fIx (wVar 2) (wC (.int 1))) wNil)))) (wCallN 31 3 (wCons (wVar 0) (wCons (wVar 1) (wCons (wBin fIx (wVar 2) (wC (.int 1))) wNil))))))))
def e33 : Ent := ⟨3, 3, b33⟩
theorem sc33 : FnScope N33 (psOf d33) (He.DefD.scope d33) := ⟨rfl, rfl, rfl, by decide +kernel, rfl, by decide +kernel, by decide +kernel⟩
theorem ok33 : BodyOk LW PR d33 e33 := ⟨rfl, ⟨N33, rfl, sc33, fun w K mg base M G W f cdv A outer s H E ecd C3 C tk => by
    have hp : PassesOwn (model PR w) (A.deeper (envOfC (He.DefD.qual d33) (He.DefD.scope d33) s.heap.objs.size f cdv)) (envOfC (He.DefD.qual d33) (He.DefD.scope d33) s.heap.objs.size f cdv) (cxOf (CX PR w) PR w K mg base N33 (He.DefD.qual d33) (He.DefD.scope d33) f cdv A outer s H E).xe := passes_of rfl
    show PSs _ _ (tS (cq _ M G W) b33)
    exact (qss_cons (z_ex (x_f C tk 18 3 20 (a_c (x_v 0) (a_c (x_v 1) (a_c x_i a_n))))) (qss_cons (qs_if (qt_or (qw_or (qt_not (qt_tru (x_f C tk 2 2 4 (a_c (x_v 2) (a_c x_i a_n))))) (qw_or1 (qt_not (qt_tru (x_f C tk 6 2 8 (a_c (x_ix C (x_v 2) x_i) (a_c (qe_lst (a_c x_s (a_c x_s a_n))) a_n)))))))) (qss_one (z_ret x_b)) qss_nil) (qss_one (z_ret (qe_ifx (t_cmp (o_eq C) (x_ix C (x_v 2) x_i) x_s) (x_f C tk 26 3 29 (a_c (x_v 0) (a_c (x_v 1) (a_c (x_ix C (x_v 2) x_i) a_n)))) (x_f C tk 31 3 34 (a_c (x_v 0) (a_c (x_v 1) (a_c (x_ix C (x_v 2) x_i) a_n)))))))))⟩, fun K f fd F => F.bindsN fun _ _ _ _ _ _ us hl => match us, hl with | [_, _, _], _ => rfl, ⟨rfl, rfl⟩⟩
def N34 : List PySem.Str := ["bag", "many", "cell", "stirred", "value", "begin", "second"] -- _law_take
def b34 : WS := (wSeq (wIfS (wTst (wBin fEq (wBin fIx (wVar 0) (wC (.int 0))) (wC (.int 0)))) (wSeq (wAsg (wBin fIx (wBin fAdd (wSl (wBin fIx (wVar 0) (wC (.int 3))) (pAt (wBin fIx (wVar 0) (wC (.int 2)))) pNo) (wLst (wCons (wC (.int 0)) wNil))) (wC (.int 0))) (gNm 2)) (wSeq (wAugS fGi fIAdd fSet (wVar 0) (wC (.int 2)) (wC (.int 1))) (wSeq (wIfS (wTst (wBin gGe (wVar 2) (wBin fPow (wC (.int 10)) (wC (.int 18))))) (wAsg (wVar 2) (gSb fSet (wVar 0) (wC (.int 0)))) wNext) (wSeq (wAsg (wBin fAdd (wBin fAdd (wBin fMul (wBin fIx (wVar 0) (wC (.int 1))) (wC (.int 48271))) (wBin fMod (wCB fInt (wCons (wVar 2) wNil)) (wC (.int 2147483647)))) (wBin fMul (wC (.int 7919)) (wBin fIx (wVar 0) (wC (.int 2))))) (gNm 3)) (wAsg (wBin fMod (wCB fInt (wCons (wVar 3) wNil)) (wC (.int 2147483647))) (gSb fSet (wVar 0) (wC (.int 1)))))))) wNext) (wSeq (wIfS (wTst (wBin gGt (wBin fIx (wVar 0) (wC (.int 0))) (wC (.int 0)))) (wSeq (wAsg (wBin fMod (wCB fInt (wCons (wBin fIx (wVar 0) (wC (.int 0))) wNil)) (wVar 1)) (gNm 4)) (wSeq (wAsg (wBin fDiv (wCB fInt (wCons (wBin fIx (wVar 0) (wC (.int 0))) wNil)) (wVar 1)) (gSb fSet (wVar 0) (wC (.int 0)))) (wRet (wVar 4)))) wNext) (wSeq (wAsg (wBin fMod (wCB fInt (wCons (wBin fMul (wBin fAdd (wBin fIx (wVar 0) (wC (.int 1))) (wC (.int 1))) (wC (.int 39373))) wNil)) (wC (.int 1000000007))) (gNm 5)) (wSeq (wAsg (wBin fMod (wCB fInt (wCons (wBin fMul (wBin fMod (wCB fInt (wCons (wBin fMul (wVar 5) (wVar 5)) wNil)) (wC (.int 998244353))) (wC (.int 30011))) wNil)) (wC (.int 998244353))) (gNm 6)) (wRet (wBin fMod (wCB fInt (wCons (wBin fDiv (wVar 6) (wC (.int 7))) wNil)) (wVar 1)))))))
def e34 : Ent := ⟨2, 7, b34⟩
theorem sc34 : FnScope N34 (psOf d34) (He.DefD.scope d34) := ⟨rfl, rfl, rfl, by decide +kernel, rfl, by decide +kernel, by decide +kernel⟩
theorem ok34 : BodyOk LW PR d34 e34 := ⟨rfl, ⟨N34, rfl, sc34, fun w K mg base M G W f cdv A outer s H E ecd C3 C tk => by
    have hp : PassesOwn (model PR w) (A.deeper (envOfC (He.DefD.qual d34) (He.DefD.scope d34) s.heap.objs.size f cdv)) (envOfC (He.DefD.qual d34) (He.DefD.scope d34) s.heap.objs.size f cdv) (cxOf (CX PR w) PR w K mg base N34 (He.DefD.qual d34) (He.DefD.scope d34) f cdv A outer s H E).xe := passes_of rfl
    show PSs _ _ (tS (cq _ M G W) b34)
    exact (qss_cons (qs_if (t_cmp (o_eq C) (x_ix C (x_v 0) x_i) x_i) (qss_cons (z_set C 2 (x_ix C (x_add (qe_sl (x_ix C (x_v 0) x_i) (qp_some (x_ix C (x_v 0) x_i)) qp_none) (qe_lst (a_c x_i a_n))) x_i)) (qss_cons (z_augS C (x_v 0) x_i x_i qp_iadd) (qss_cons (qs_if (t_cmp (o_ge C) (x_v 2) (x_pow x_i x_i)) (qss_one (z_asg (x_v 2) (g_sb C tk (x_v 0) x_i))) qss_nil) (qss_cons (z_set C 3 (x_add (x_add (x_mul (x_ix C (x_v 0) x_i) x_i) (x_mod (x_ct C 82 qc_int boot_int (a_c (x_v 2) a_n)) x_i)) (x_mul x_i (x_ix C (x_v 0) x_i)))) (qss_one (z_asg (x_mod (x_ct C 82 qc_int boot_int (a_c (x_v 3) a_n)) x_i) (g_sb C tk (x_v 0) x_i))))))) qss_nil) (qss_cons (qs_if (t_cmp (o_gt C) (x_ix C (x_v 0) x_i) x_i) (qss_cons (z_set C 4 (x_mod (x_ct C 82 qc_int boot_int (a_c (x_ix C (x_v 0) x_i) a_n)) (x_v 1))) (qss_cons (z_asg (x_div (x_ct C 82 qc_int boot_int (a_c (x_ix C (x_v 0) x_i) a_n)) (x_v 1)) (g_sb C tk (x_v 0) x_i)) (qss_one (z_ret (x_v 4))))) qss_nil) (qss_cons (z_set C 5 (x_mod (x_ct C 82 qc_int boot_int (a_c (x_mul (x_add (x_ix C (x_v 0) x_i) x_i) x_i) a_n)) x_i)) (qss_cons (z_set C 6 (x_mod (x_ct C 82 qc_int boot_int (a_c (x_mul (x_mod (x_ct C 82 qc_int boot_int (a_c (x_mul (x_v 5) (x_v 5)) a_n)) x_i) x_i) a_n)) x_i)) (qss_one (z_ret (x_mod (x_ct C 82 qc_int boot_int (a_c (x_div (x_v 6) x_i) a_n)) (x_v 1))))))))⟩, fun K f fd F => F.bindsN fun _ _ _ _ _ _ us hl => match us, hl with | [_, _], _ => rfl, ⟨rfl, rfl⟩⟩
def N35 : List PySem.Str := ["bag", "things"] -- _law_some
def b35 : WS := (wRet (wBin fIx (wVar 1) (wCallN 34 2 (wCons (wVar 0) (wCons (wCB fLen (wCons (wVar 1) wNil)) wNil)))))
def e35 : Ent := ⟨2, 2, b35⟩
theorem sc35 : FnScope N35 (psOf d35) (He.DefD.scope d35) := ⟨rfl, rfl, rfl, by decide +kernel, rfl, by decide +kernel, by decide +kernel⟩
theorem ok35 : BodyOk LW PR d35 e35 := ⟨rfl, ⟨N35, rfl, sc35, fun w K mg base M G W f cdv A outer s H E ecd C3 C tk => by
    have hp : PassesOwn (model PR w) (A.deeper (envOfC (He.DefD.qual d35) (He.DefD.scope d35) s.heap.objs.size f cdv)) (envOfC (He.DefD.qual d35) (He.DefD.scope d35) s.heap.objs.size f cdv) (cxOf (CX PR w) PR w K mg base N35 (He.DefD.qual d35) (He.DefD.scope d35) f cdv A outer s H E).xe := passes_of rfl
    show PSs _ _ (tS (cq _ M G W) b35)
    exact (qss_one (z_ret (x_ix C (x_v 1) (x_f C tk 34 2 37 (a_c (x_v 0) (a_c (x_cb C 70 qc_len boot_len (a_c (x_v 1) a_n)) a_n))))))⟩, fun K f fd F => F.bindsN fun _ _ _ _ _ _ us hl => match us, hl with | [_, _], _ => rfl, ⟨rfl, rfl⟩⟩
def N36 : List PySem.Str := ["book"] -- _law_full
def b36 : WS := (wRet (wBin fIx (wLst (wCons (wC (.int 1)) (wCons (wC (.int 3)) (wCons (wC (.int 7)) (wCons (wC (.int 15)) (wCons (wC (.int 31)) wNil)))))) (wBin fSub (wBin fIx (wVar 0) (wC (.int 1))) (wC (.int 1)))))
def e36 : Ent := ⟨1, 1, b36⟩
theorem sc36 : FnScope N36 (psOf d36) (He.DefD.scope d36) := ⟨rfl, rfl, rfl, by decide +kernel, rfl, by decide +kernel, by decide +kernel⟩
theorem ok36 : BodyOk LW PR d36 e36 := ⟨rfl, ⟨N36, rfl, sc36, fun w K mg base M G W f cdv A outer s H E ecd C3 C tk => by
    have hp : PassesOwn (model PR w) (A.deeper (envOfC (He.DefD.qual d36) (He.DefD.scope d36) s.heap.objs.size f cdv)) (envOfC (He.DefD.qual d36) (He.DefD.scope d36) s.heap.objs.size f cdv) (cxOf (CX PR w) PR w K mg base N36 (He.DefD.qual d36) (He.DefD.scope d36) f cdv A outer s H E).xe := passes_of rfl
    show PSs _ _ (tS (cq _ M G W) b36)
    exact (qss_one (z_ret (x_ix C (qe_lst (a_c x_i (a_c x_i (a_c x_i (a_c x_i (a_c x_i a_n)))))) (x_sub (x_ix C (x_v 0) x_i) x_i))))⟩, fun K f fd F => F.bindsN fun _ _ _ _ _ _ us hl => match us, hl with | [_], _ => rfl, ⟨rfl, rfl⟩⟩
def N37 : List PySem.Str := ["book", "cell", "case", "found", "code"] -- _law_step
def b37 : WS := (wSeq (wIfS (wOr (wTst (wBin fEq (wVar 1) (wC (.int 0)))) (wTst (wBin fEq (wVar 1) (wCallN 36 1 (wCons (wVar 0) wNil))))) (wRet (wTup (wCons (wC (.str "")) (wCons (wVar 2) wNil)))) wNext) (wSeq (wAsg (wComp (wIter (wBin fIx (wVar 0) (wC (.int 3)))) (.nm 4) (wTst (wBin fEq (wBin fIx (wVar 4) (wC (.int 0))) (wVar 1))) (wVar 4) [4]) (gNm 3)) (wSeq (wIfS (wTst (wBin fEq (wVar 3) (wLst wNil))) (wRet (wC .non)) wNext) (wRet (wTup (wCons (wIf (wTst (wBin fIs (wBin fIx (wBin fIx (wBin fIx (wVar 3) (wC (.int 0))) (wC (.int 1))) (wVar 2)) (wC .non))) (wC (.str "")) (wBin fIx (wBin fIx (wBin fIx (wVar 3) (wC (.int 0))) (wC (.int 1))) (wVar 2))) (wCons (wBin fIx (wBin fIx (wBin fIx (wVar 3) (wC (.int 0))) (wC (.int 2))) (wVar 2)) wNil)))))))
def e37 : Ent := ⟨3, 5, b37⟩
theorem sc37 : FnScope N37 (psOf d37) (He.DefD.scope d37) := ⟨rfl, rfl, rfl, by decide +kernel, rfl, by decide +kernel, by decide +kernel⟩
theorem ok37 : BodyOk LW PR d37 e37 := ⟨rfl, ⟨N37, rfl, sc37, fun w K mg base M G W f cdv A outer s H E ecd C3 C tk => by
    have hp : PassesOwn (model PR w) (A.deeper (envOfC (He.DefD.qual d37) (He.DefD.scope d37) s.heap.objs.size f cdv)) (envOfC (He.DefD.qual d37) (He.DefD.scope d37) s.heap.objs.size f cdv) (cxOf (CX PR w) PR w K mg base N37 (He.DefD.qual d37) (He.DefD.scope d37) f cdv A outer s H E).xe := passes_of rfl
    show PSs _ _ (tS (cq _ M G W) b37)
    exact (qss_cons (qs_if (qt_or (qw_or (t_cmp (o_eq C) (x_v 1) x_i) (qw_or1 (t_cmp (o_eq C) (x_v 1) (x_f C tk 36 1 39 (a_c (x_v 0) a_n)))))) (qss_one (z_ret (qe_tup (a_c x_s (a_c (x_v 2) a_n))))) qss_nil) (qss_cons (by first | exact (z_lc C 3 [("code", 4)] (i_v (x_ix C (x_v 0) x_i)) (fun _ _ _ _ _ => by exact (p_nm 4 (C.blk _ _ _ _ _).nd)) (fun _ _ _ _ _ => by exact (qts_one (t_cmp (o_eq (C.blk _ _ _ _ _)) (x_ix (C.blk _ _ _ _ _) (x_v 4) x_i) (x_v 1)))) (fun _ _ _ _ _ => by exact (x_v 4))) | exact z_set C 3 (x_lc C [("code", 4)] (i_v (x_ix C (x_v 0) x_i)) (fun _ _ _ _ _ => by exact (p_nm 4 (C.blk _ _ _ _ _).nd)) (fun _ _ _ _ _ => by exact (qts_one (t_cmp (o_eq (C.blk _ _ _ _ _)) (x_ix (C.blk _ _ _ _ _) (x_v 4) x_i) (x_v 1)))) (fun _ _ _ _ _ => by exact (x_v 4)))) (qss_cons (qs_if (t_cmp (o_eq C) (x_v 3) (qe_lst a_n)) (qss_one (z_ret x_n)) qss_nil) (qss_one (z_ret (qe_tup (a_c (qe_ifx (t_cmp (o_is C) (x_ix C (x_ix C (x_ix C (x_v 3) x_i) x_i) (x_v 2)) x_n) x_s (x_ix C (x_ix C (x_ix C (x_v 3) x_i) x_i) (x_v 2))) (a_c (x_ix C (x_ix C (x_ix C (x_v 3) x_i) x_i) (x_v 2)) a_n))))))))⟩, fun K f fd F => F.bindsN fun _ _ _ _ _ _ us hl => match us, hl with | [_, _, _], _ => rfl, ⟨rfl, rfl⟩⟩
def N38 : List PySem.Str := ["book", "cell"] -- _law_good
def b38 : WS := (wRet (wComp (wRange1 (wCons (wBin fAdd (wCallN 36 1 (wCons (wVar 0) wNil)) (wC (.int 1))) wNil)) (.nm 1) (wTst (wBin fIsNot (wCallN 37 3 (wCons (wVar 0) (wCons (wVar 1) (wCons (wC (.int 0)) wNil)))) (wC .non))) (wVar 1) [1]))
def e38 : Ent := ⟨1, 2, b38⟩
theorem sc38 : FnScope N38 (psOf d38) (He.DefD.scope d38) := ⟨rfl, rfl, rfl, by decide +kernel, rfl, by decide +kernel, by decide +kernel⟩
theorem ok38 : BodyOk LW PR d38 e38 := ⟨rfl, ⟨N38, rfl, sc38, fun w K mg base M G W f cdv A outer s H E ecd C3 C tk => by
    have hp : PassesOwn (model PR w) (A.deeper (envOfC (He.DefD.qual d38) (He.DefD.scope d38) s.heap.objs.size f cdv)) (envOfC (He.DefD.qual d38) (He.DefD.scope d38) s.heap.objs.size f cdv) (cxOf (CX PR w) PR w K mg base N38 (He.DefD.qual d38) (He.DefD.scope d38) f cdv A outer s H E).xe := passes_of rfl
    show PSs _ _ (tS (cq _ M G W) b38)
    exact (qss_one (z_ret (x_lc C [("cell", 1)] (i_r1 C 71 (a_c (x_add (x_f C tk 36 1 39 (a_c (x_v 0) a_n)) x_i) a_n)) (fun _ _ _ _ _ => by exact (p_nm 1 (C.blk _ _ _ _ _).nd)) (fun _ _ _ _ _ => by exact (qts_one (t_cmp (o_isn (C.blk _ _ _ _ _)) (x_f (C.blk _ _ _ _ _) tak0 37 3 40 (a_c (x_v 0) (a_c (x_v 1) (a_c x_i a_n)))) x_n))) (fun _ _ _ _ _ => by exact (x_v 1)))))⟩, fun K f fd F => F.bindsN fun _ _ _ _ _ _ us hl => match us, hl with | [_], _ => rfl, ⟨rfl, rfl⟩⟩
def N39 : List PySem.Str := ["bag", "things", "left", "found"] -- _law_mixed
def b39 : WS := (wSeq (wAsg (wTup (wCons (wCB fList (wCons (wVar 1) wNil)) (wCons (wLst wNil) wNil))) (gTp 2 (gCns (gNm 2) (gCns (gNm 3) gNl)))) (wSeq (wWhile (wTst (wBin fNe (wVar 2) (wLst wNil))) (wExpr (wBM "list" fAppend (wVar 3) (wCons (wBM "list" fPop (wVar 2) (wCons (wCallN 34 2 (wCons (wVar 0) (wCons (wCB fLen (wCons (wVar 2) wNil)) wNil))) wNil)) wNil)))) (wRet (wVar 3))))
def e39 : Ent := ⟨2, 4, b39⟩
theorem sc39 : FnScope N39 (psOf d39) (He.DefD.scope d39) := ⟨rfl, rfl, rfl, by decide +kernel, rfl, by decide +kernel, by decide +kernel⟩
theorem ok39 : BodyOk LW PR d39 e39 := ⟨rfl, ⟨N39, rfl, sc39, fun w K mg base M G W f cdv A outer s H E ecd C3 C tk => by
    have hp : PassesOwn (model PR w) (A.deeper (envOfC (He.DefD.qual d39) (He.DefD.scope d39) s.heap.objs.size f cdv)) (envOfC (He.DefD.qual d39) (He.DefD.scope d39) s.heap.objs.size f cdv) (cxOf (CX PR w) PR w K mg base N39 (He.DefD.qual d39) (He.DefD.scope d39) f cdv A outer s H E).xe := passes_of rfl
    show PSs _ _ (tS (cq _ M G W) b39)
    exact (qss_cons (by first | exact z_par C 2 3 (a_c (x_ct C 74 qc_list boot_list (a_c (x_v 1) a_n)) (a_c (qe_lst a_n) a_n)) | exact z_asg (qe_tup (a_c (x_ct C 74 qc_list boot_list (a_c (x_v 1) a_n)) (a_c (qe_lst a_n) a_n))) (g_t C 2 (g_c (g_nm C 2) (g_c (g_nm C 3) g_n)))) (qss_cons (qs_while hp (t_cmp (o_ne C) (x_v 2) (qe_lst a_n)) (qss_one (z_ex (x_bm PySem.F.plainAttrs_list PySem.F.slot_list_append PySem.F.type_list_append qm_append (x_v 3) (a_c (x_bm PySem.F.plainAttrs_list PySem.F.slot_list_pop PySem.F.type_list_pop qm_pop (x_v 2) (a_c (x_f C tk 34 2 37 (a_c (x_v 0) (a_c (x_cb C 70 qc_len boot_len (a_c (x_v 2) a_n)) a_n))) a_n)) a_n))))) (qss_one (z_ret (x_v 3)))))⟩, fun K f fd F => F.bindsN fun _ _ _ _ _ _ us hl => match us, hl with | [_, _], _ => rfl, ⟨rfl, rfl⟩⟩
def N40 : List PySem.Str := ["cell", "power"] -- _law_bits
def b40 : WS := (wRet (wComp (wIter (wTup (wCons (wC (.int 1)) (wCons (wC (.int 2)) (wCons (wC (.int 4)) (wCons (wC (.int 8)) (wCons (wC (.int 16)) wNil))))))) (.nm 1) (wTst (wBin fEq (wBin fMod (wCB fInt (wCons (wBin fDiv (wVar 0) (wVar 1)) wNil)) (wC (.int 2))) (wC (.int 1)))) (wVar 1) [1]))
def e40 : Ent := ⟨1, 2, b40⟩
theorem sc40 : FnScope N40 (psOf d40) (He.DefD.scope d40) := ⟨rfl, rfl, rfl, by decide +kernel, rfl, by decide +kernel, by decide +kernel⟩
theorem ok40 : BodyOk LW PR d40 e40 := ⟨rfl, ⟨N40, rfl, sc40, fun w K mg base M G W f cdv A outer s H E ecd C3 C tk => by
    have hp : PassesOwn (model PR w) (A.deeper (envOfC (He.DefD.qual d40) (He.DefD.scope d40) s.heap.objs.size f cdv)) (envOfC (He.DefD.qual d40) (He.DefD.scope d40) s.heap.objs.size f cdv) (cxOf (CX PR w) PR w K mg base N40 (He.DefD.qual d40) (He.DefD.scope d40) f cdv A outer s H E).xe := passes_of rfl
    show PSs _ _ (tS (cq _ M G W) b40)
    exact (qss_one (z_ret (x_lc C [("power", 1)] (i_v (qe_tup (a_c x_i (a_c x_i (a_c x_i (a_c x_i (a_c x_i a_n))))))) (fun _ _ _ _ _ => by exact (p_nm 1 (C.blk _ _ _ _ _).nd)) (fun _ _ _ _ _ => by exact (qts_one (t_cmp (o_eq (C.blk _ _ _ _ _)) (x_mod (x_ct (C.blk _ _ _ _ _) 82 qc_int boot_int (a_c (x_div (x_v 0) (x_v 1)) a_n)) x_i) x_i))) (fun _ _ _ _ _ => by exact (x_v 1)))))⟩, fun K f fd F => F.bindsN fun _ _ _ _ _ _ us hl => match us, hl with | [_], _ => rfl, ⟨rfl, rfl⟩⟩
def N41 : List PySem.Str := ["cell", "other", "power"] -- _law_joined
def b41 : WS := (wRet (wCB fSum (wCons (wComp (wIter (wTup (wCons (wC (.int 1)) (wCons (wC (.int 2)) (wCons (wC (.int 4)) (wCons (wC (.int 8)) (wCons (wC (.int 16)) wNil))))))) (.nm 2) (wOr (wTst (wBin (fInG false) (wVar 2) (wCallN 40 1 (wCons (wVar 0) wNil)))) (wTst (wBin (fInG false) (wVar 2) (wCallN 40 1 (wCons (wVar 1) wNil))))) (wVar 2) [2]) wNil)))
def e41 : Ent := ⟨2, 3, b41⟩
theorem sc41 : FnScope N41 (psOf d41) (He.DefD.scope d41) := ⟨rfl, rfl, rfl, by decide +kernel, rfl, by decide +kernel, by decide +kernel⟩
theorem ok41 : BodyOk LW PR d41 e41 := ⟨rfl, ⟨N41, rfl, sc41, fun w K mg base M G W f cdv A outer s H E ecd C3 C tk => by
    have hp : PassesOwn (model PR w) (A.deeper (envOfC (He.DefD.qual d41) (He.DefD.scope d41) s.heap.objs.size f cdv)) (envOfC (He.DefD.qual d41) (He.DefD.scope d41) s.heap.objs.size f cdv) (cxOf (CX PR w) PR w K mg base N41 (He.DefD.qual d41) (He.DefD.scope d41) f cdv A outer s H E).xe := passes_of rfl
    show PSs _ _ (tS (cq _ M G W) b41)
    exact (qss_one (z_ret (x_cb C 75 (qc_sum C.calm) boot_sum (a_c (x_lc C [("power", 2)] (i_v (qe_tup (a_c x_i (a_c x_i (a_c x_i (a_c x_i (a_c x_i a_n))))))) (fun _ _ _ _ _ => by exact (p_nm 2 (C.blk _ _ _ _ _).nd)) (fun _ _ _ _ _ => by exact (qts_one (qt_or (qw_or (t_cmp (o_in (C.blk _ _ _ _ _)) (x_v 2) (x_f (C.blk _ _ _ _ _) tak0 40 1 43 (a_c (x_v 0) a_n))) (qw_or1 (t_cmp (o_in (C.blk _ _ _ _ _)) (x_v 2) (x_f (C.blk _ _ _ _ _) tak0 40 1 43 (a_c (x_v 1) a_n)))))))) (fun _ _ _ _ _ => by exact (x_v 2))) a_n))))⟩, fun K f fd F => F.bindsN fun _ _ _ _ _ _ us hl => match us, hl with | [_, _], _ => rfl, ⟨rfl, rfl⟩⟩
def N42 : List PySem.Str := ["thing"] -- _law_is_int
def b42 : WS := (wRet (wAndV (wCB fIsi (wCons (wVar 0) (wCons (wC (.ty "int")) wNil))) (wNotV (wCB fIsi (wCons (wVar 0) (wCons (wC (.ty "bool")) wNil))))))
def e42 : Ent := ⟨1, 1, b42⟩
theorem sc42 : FnScope N42 (psOf d42) (He.DefD.scope d42) := ⟨rfl, rfl, rfl, by decide +kernel, rfl, by decide +kernel, by decide +kernel⟩
theorem ok42 : BodyOk LW PR d42 e42 := ⟨rfl, ⟨N42, rfl, sc42, fun w K mg base M G W f cdv A outer s H E ecd C3 C tk => by
    have hp : PassesOwn (model PR w) (A.deeper (envOfC (He.DefD.qual d42) (He.DefD.scope d42) s.heap.objs.size f cdv)) (envOfC (He.DefD.qual d42) (He.DefD.scope d42) s.heap.objs.size f cdv) (cxOf (CX PR w) PR w K mg base N42 (He.DefD.qual d42) (He.DefD.scope d42) f cdv A outer s H E).xe := passes_of rfl
    show PSs _ _ (tS (cq _ M G W) b42)
    exact (qss_one (z_ret (qe_andV (x_cb C 72 qc_isi boot_isinstance (a_c (x_v 0) (a_c (x_ty C 82 boot_int) a_n))) (qe_and1 (qe_notV (x_cb C 72 qc_isi boot_isinstance (a_c (x_v 0) (a_c (x_ty C 83 boot_bool) a_n))))))))⟩, fun K f fd F => F.bindsN fun _ _ _ _ _ _ us hl => match us, hl with | [_], _ => rfl, ⟨rfl, rfl⟩⟩
def N43 : List PySem.Str := ["book", "tape", "case", "found", "cell", "told"] -- _law_read
def b43 : WS := (wSeq (wAsg (wC (.str "")) (gNm 3)) (wSeq (wFor (wIter (wVar 1)) (gPt (.nm 4)) (wSeq (wAsg (wCallN 37 3 (wCons (wVar 0) (wCons (wVar 4) (wCons (wVar 2) wNil)))) (gNm 5)) (wSeq (wIfS (wTst (wBin fIs (wVar 5) (wC .non))) (wRet (wC .non)) wNext) (wAsg (wTup (wCons (wBin fAdd (wVar 3) (wBin fIx (wVar 5) (wC (.int 0)))) (wCons (wBin fIx (wVar 5) (wC (.int 1))) wNil))) (gTp 2 (gCns (gNm 3) (gCns (gNm 2) gNl))))))) (wRet (wTup (wCons (wVar 3) (wCons (wVar 2) wNil))))))
def e43 : Ent := ⟨3, 6, b43⟩
theorem sc43 : FnScope N43 (psOf d43) (He.DefD.scope d43) := ⟨rfl, rfl, rfl, by decide +kernel, rfl, by decide +kernel, by decide +kernel⟩
theorem ok43 : BodyOk LW PR d43 e43 := ⟨rfl, ⟨N43, rfl, sc43, fun w K mg base M G W f cdv A outer s H E ecd C3 C tk => by
    have hp : PassesOwn (model PR w) (A.deeper (envOfC (He.DefD.qual d43) (He.DefD.scope d43) s.heap.objs.size f cdv)) (envOfC (He.DefD.qual d43) (He.DefD.scope d43) s.heap.objs.size f cdv) (cxOf (CX PR w) PR w K mg base N43 (He.DefD.qual d43) (He.DefD.scope d43) f cdv A outer s H E).xe := passes_of rfl
    show PSs _ _ (tS (cq _ M G W) b43)
    exact (qss_cons (z_set C 3 x_s) (qss_cons (z_for C hp (i_v (x_v 1)) (p_nm 4 C.nd) (qss_cons (z_set C 5 (x_f C tk 37 3 40 (a_c (x_v 0) (a_c (x_v 4) (a_c (x_v 2) a_n))))) (qss_cons (qs_if (t_cmp (o_is C) (x_v 5) x_n) (qss_one (z_ret x_n)) qss_nil) (qss_one (by first | exact z_par C 3 2 (a_c (x_add (x_v 3) (x_ix C (x_v 5) x_i)) (a_c (x_ix C (x_v 5) x_i) a_n)) | exact z_asg (qe_tup (a_c (x_add (x_v 3) (x_ix C (x_v 5) x_i)) (a_c (x_ix C (x_v 5) x_i) a_n))) (g_t C 2 (g_c (g_nm C 3) (g_c (g_nm C 2) g_n)))))))) (qss_one (z_ret (qe_tup (a_c (x_v 3) (a_c (x_v 2) a_n)))))))⟩, fun K f fd F => F.bindsN fun _ _ _ _ _ _ us hl => match us, hl with | [_, _, _], _ => rfl, ⟨rfl, rfl⟩⟩
def N44 : List PySem.Str := ["script", "cell"] -- _law_bag
def b44 : WS := (wRet (wLst (wCons (wC (.int 0)) (wCons (wC (.int 1234567891)) (wCons (wC (.int 0)) (wCons (wComp (wIter (wSl (wVar 0) pNo (pAt (wC (.int 63))))) (.nm 1) wTrue (wCB fAbs (wCons (wVar 1) wNil)) [1]) wNil))))))
def e44 : Ent := ⟨1, 2, b44⟩
theorem sc44 : FnScope N44 (psOf d44) (He.DefD.scope d44) := ⟨rfl, rfl, rfl, by decide +kernel, rfl, by decide +kernel, by decide +kernel⟩
theorem ok44 : BodyOk LW PR d44 e44 := ⟨rfl, ⟨N44, rfl, sc44, fun w K mg base M G W f cdv A outer s H E ecd C3 C tk => by
    have hp : PassesOwn (model PR w) (A.deeper (envOfC (He.DefD.qual d44) (He.DefD.scope d44) s.heap.objs.size f cdv)) (envOfC (He.DefD.qual d44) (He.DefD.scope d44) s.heap.objs.size f cdv) (cxOf (CX PR w) PR w K mg base N44 (He.DefD.qual d44) (He.DefD.scope d44) f cdv A outer s H E).xe := passes_of rfl
    show PSs _ _ (tS (cq _ M G W) b44)
    exact (qss_one (z_ret (qe_lst (a_c x_i (a_c x_i (a_c x_i (a_c (x_lc C [("cell", 1)] (i_v (qe_sl (x_v 0) qp_none (qp_some x_i))) (fun _ _ _ _ _ => by exact (p_nm 1 (C.blk _ _ _ _ _).nd)) (fun _ _ _ _ _ => by exact qts_nil) (fun _ _ _ _ _ => by exact (x_cb (C.blk _ _ _ _ _) 86 qc_abs boot_abs (a_c (x_v 1) a_n)))) a_n)))))))⟩, fun K f fd F => F.bindsN fun _ _ _ _ _ _ us hl => match us, hl with | [_], _ => rfl, ⟨rfl, rfl⟩⟩
def N45 : List PySem.Str := ["found", "due", "pairs", "at", "one", "other"] -- _law_alike
def b45 : WS := (wSeq (wAsg (wTup (wCons (wLst (wCons (wTup (wCons (wVar 0) (wCons (wVar 1) wNil))) wNil)) (wCons (wC (.int 0)) wNil))) (gTp 2 (gCns (gNm 2) (gCns (gNm 3) gNl)))) (wSeq (wWhile (wTst (wBin gLt (wVar 3) (wCB fLen (wCons (wVar 2) wNil)))) (wSeq (wAsg (wBin fIx (wVar 2) (wVar 3)) (gTp 2 (gCns (gNm 4) (gCns (gNm 5) gNl)))) (wSeq (wAug 3 fIAdd (wC (.int 1))) (wSeq (wIfS (wOr (wTst (wBin fNe (wCB fIsi (wCons (wVar 4) (wCons (wC (.ty "bool")) wNil))) (wCB fIsi (wCons (wVar 5) (wCons (wC (.ty "bool")) wNil))))) (wTst (wBin fNe (wCB fIsi (wCons (wVar 4) (wCons (wC (.ty "str")) wNil))) (wCB fIsi (wCons (wVar 5) (wCons (wC (.ty "str")) wNil)))))) (wRet (wC (.bl false))) wNext) (wSeq (wIfS (wTst (wBin fNe (wCB fIsi (wCons (wVar 4) (wCons (wTup (wCons (wC (.ty "tuple")) (wCons (wC (.ty "list")) wNil))) wNil))) (wCB fIsi (wCons (wVar 5) (wCons (wTup (wCons (wC (.ty "tuple")) (wCons (wC (.ty "list")) wNil))) wNil))))) (wRet (wC (.bl false))) wNext) (wIfS (wTru (wCB fIsi (wCons (wVar 4) (wCons (wTup (wCons (wC (.ty "tuple")) (wCons (wC (.ty "list")) wNil))) wNil)))) (wSeq (wIfS (wOr (wTst (wBin fNe (wCB fIsi (wCons (wVar 4) (wCons (wC (.ty "tuple")) wNil))) (wCB fIsi (wCons (wVar 5) (wCons (wC (.ty "tuple")) wNil))))) (wTst (wBin fNe (wCB fLen (wCons (wVar 4) wNil)) (wCB fLen (wCons (wVar 5) wNil))))) (wRet (wC (.bl false))) wNext) (wExpr (wBM "list" fExtend (wVar 2) (wCons (wLZ (wCons (wVar 4) (wCons (wVar 5) wNil))) wNil)))) (wIfS (wTst (wBin fNe (wVar 4) (wVar 5))) (wRet (wC (.bl false))) wNext))))))) (wRet (wC (.bl true)))))
def e45 : Ent := ⟨2, 6, b45⟩
theorem sc45 : FnScope N45 (psOf d45) (He.DefD.scope d45) := ⟨rfl, rfl, rfl, by decide +kernel, rfl, by decide +kernel, by decide +kernel⟩
theorem ok45 : BodyOk LW PR d45 e45 := ⟨rfl, ⟨N45, rfl, sc45, fun w K mg base M G W f cdv A outer s H E ecd C3 C tk => by
    have hp : PassesOwn (model PR w) (A.deeper (envOfC (He.DefD.qual d45) (He.DefD.scope d45) s.heap.objs.size f cdv)) (envOfC (He.DefD.qual d45) (He.DefD.scope d45) s.heap.objs.size f cdv) (cxOf (CX PR w) PR w K mg base N45 (He.DefD.qual d45) (He.DefD.scope d45) f cdv A outer s H E).xe := passes_of rfl
    show PSs _ _ (tS (cq _ M G W) b45)
    exact (qss_cons (by first | exact z_par C 2 3 (a_c (qe_lst (a_c (qe_tup (a_c (x_v 0) (a_c (x_v 1) a_n))) a_n)) (a_c x_i a_n)) | exact z_asg (qe_tup (a_c (qe_lst (a_c (qe_tup (a_c (x_v 0) (a_c (x_v 1) a_n))) a_n)) (a_c x_i a_n))) (g_t C 2 (g_c (g_nm C 2) (g_c (g_nm C 3) g_n)))) (qss_cons (qs_while hp (t_cmp (o_lt C) (x_v 3) (x_cb C 70 qc_len boot_len (a_c (x_v 2) a_n))) (qss_cons (z_asg (x_ix C (x_v 2) (x_v 3)) (g_t C 2 (g_c (g_nm C 4) (g_c (g_nm C 5) g_n)))) (qss_cons (z_aug C 3 x_i qp_iadd) (qss_cons (qs_if (qt_or (qw_or (t_cmp (o_ne C) (x_cb C 72 qc_isi boot_isinstance (a_c (x_v 4) (a_c (x_ty C 83 boot_bool) a_n))) (x_cb C 72 qc_isi boot_isinstance (a_c (x_v 5) (a_c (x_ty C 83 boot_bool) a_n)))) (qw_or1 (t_cmp (o_ne C) (x_cb C 72 qc_isi boot_isinstance (a_c (x_v 4) (a_c (x_ty C 84 boot_str) a_n))) (x_cb C 72 qc_isi boot_isinstance (a_c (x_v 5) (a_c (x_ty C 84 boot_str) a_n))))))) (qss_one (z_ret x_b)) qss_nil) (qss_cons (qs_if (t_cmp (o_ne C) (x_cb C 72 qc_isi boot_isinstance (a_c (x_v 4) (a_c (qe_tup (a_c (x_ty C 73 boot_tuple) (a_c (x_ty C 74 boot_list) a_n))) a_n))) (x_cb C 72 qc_isi boot_isinstance (a_c (x_v 5) (a_c (qe_tup (a_c (x_ty C 73 boot_tuple) (a_c (x_ty C 74 boot_list) a_n))) a_n)))) (qss_one (z_ret x_b)) qss_nil) (qss_one (qs_if (qt_tru (x_cb C 72 qc_isi boot_isinstance (a_c (x_v 4) (a_c (qe_tup (a_c (x_ty C 73 boot_tuple) (a_c (x_ty C 74 boot_list) a_n))) a_n)))) (qss_cons (qs_if (qt_or (qw_or (t_cmp (o_ne C) (x_cb C 72 qc_isi boot_isinstance (a_c (x_v 4) (a_c (x_ty C 73 boot_tuple) a_n))) (x_cb C 72 qc_isi boot_isinstance (a_c (x_v 5) (a_c (x_ty C 73 boot_tuple) a_n)))) (qw_or1 (t_cmp (o_ne C) (x_cb C 70 qc_len boot_len (a_c (x_v 4) a_n)) (x_cb C 70 qc_len boot_len (a_c (x_v 5) a_n)))))) (qss_one (z_ret x_b)) qss_nil) (qss_one (z_ex (x_bm PySem.F.plainAttrs_list PySem.F.slot_list_extend PySem.F.type_list_extend qm_extend (x_v 2) (a_c (x_lz C 74 81 (a_c (x_v 4) (a_c (x_v 5) a_n))) a_n))))) (qss_one (qs_if (t_cmp (o_ne C) (x_v 4) (x_v 5)) (qss_one (z_ret x_b)) qss_nil))))))))) (qss_one (z_ret x_b))))⟩, fun K f fd F => F.bindsN fun _ _ _ _ _ _ us hl => match us, hl with | [_, _], _ => rfl, ⟨rfl, rfl⟩⟩
def N46 : List PySem.Str := ["deed", "e"] -- _law_why
def b46 : WS := (wSeq wNevS (wRet (wC .non)))
def e46 : Ent := ⟨1, 2, b46⟩
theorem sc46 : FnScope N46 (psOf d46) (He.DefD.scope d46) := ⟨rfl, rfl, rfl, by decide +kernel, rfl, by decide +kernel, by decide +kernel⟩
theorem ok46 : BodyOk LW PR d46 e46 := ⟨rfl, ⟨N46, rfl, sc46, fun w K mg base M G W f cdv A outer s H E ecd C3 C tk => by
    have hp : PassesOwn (model PR w) (A.deeper (envOfC (He.DefD.qual d46) (He.DefD.scope d46) s.heap.objs.size f cdv)) (envOfC (He.DefD.qual d46) (He.DefD.scope d46) s.heap.objs.size f cdv) (cxOf (CX PR w) PR w K mg base N46 (He.DefD.qual d46) (He.DefD.scope d46) f cdv A outer s H E).xe := passes_of rfl
    show PSs _ _ (tS (cq _ M G W) b46)
    exact (qss_cons qs_nev (qss_one (z_ret x_n)))⟩, fun K f fd F => F.bindsN fun _ _ _ _ _ _ us hl => match us, hl with | [_], _ => rfl, ⟨rfl, rfl⟩⟩
theorem wh46 : WhyT d46 N46 "_law_why" "deed" "e" "Refused" "why" := ⟨rfl, rfl, rfl, rfl, ⟨_, _, _, _, _, _, _, _, _, _, _, _, rfl⟩, rfl, rfl, rfl, by decide, by decide, by decide, by decide, by decide, by decide⟩
def N47 : List PySem.Str := ["bag", "book", "most", "turn"] -- _law_good_tape
def b47 : WS := (wRet (wCB fTuple (wCons (wComp (wRange1 (wCons (wCallN 34 2 (wCons (wVar 0) (wCons (wBin fAdd (wVar 2) (wC (.int 1))) wNil))) wNil)) (.nm 3) wTrue (wCallN 35 2 (wCons (wVar 0) (wCons (wCallN 38 1 (wCons (wVar 1) wNil)) wNil))) [3]) wNil)))
def e47 : Ent := ⟨3, 4, b47⟩
theorem sc47 : FnScope N47 (psOf d47) (He.DefD.scope d47) := ⟨rfl, rfl, rfl, by decide +kernel, rfl, by decide +kernel, by decide +kernel⟩
theorem ok47 : BodyOk LW PR d47 e47 := ⟨rfl, ⟨N47, rfl, sc47, fun w K mg base M G W f cdv A outer s H E ecd C3 C tk => by
    have hp : PassesOwn (model PR w) (A.deeper (envOfC (He.DefD.qual d47) (He.DefD.scope d47) s.heap.objs.size f cdv)) (envOfC (He.DefD.qual d47) (He.DefD.scope d47) s.heap.objs.size f cdv) (cxOf (CX PR w) PR w K mg base N47 (He.DefD.qual d47) (He.DefD.scope d47) f cdv A outer s H E).xe := passes_of rfl
    show PSs _ _ (tS (cq _ M G W) b47)
    exact (qss_one (z_ret (x_ct C 73 qc_tuple boot_tuple (a_c (x_lc C [("turn", 3)] (i_r1 C 71 (a_c (x_f C tk 34 2 37 (a_c (x_v 0) (a_c (x_add (x_v 2) x_i) a_n))) a_n)) (fun _ _ _ _ _ => by exact (p_nm 3 (C.blk _ _ _ _ _).nd)) (fun _ _ _ _ _ => by exact qts_nil) (fun _ _ _ _ _ => by exact (x_f (C.blk _ _ _ _ _) tak0 35 2 38 (a_c (x_v 0) (a_c (x_f (C.blk _ _ _ _ _) tak0 38 1 41 (a_c (x_v 1) a_n)) a_n))))) a_n))))⟩, fun K f fd F => F.bindsN fun _ _ _ _ _ _ us hl => match us, hl with | [_, _, _], _ => rfl, ⟨rfl, rfl⟩⟩
def N48 : List PySem.Str := ["bag", "holes", "signs", "codes", "at", "pair", "cell", "said", "turns"] -- _law_five
def b48 : WS := (wSeq (wAsg (wTup (wCons (wCallN 39 2 (wCons (wVar 0) (wCons (wLst (wCons (wC (.int 1)) (wCons (wC (.int 2)) (wCons (wC (.int 4)) (wCons (wC (.int 8)) (wCons (wC (.int 16)) wNil)))))) wNil))) (wCons (wCallN 39 2 (wCons (wVar 0) (wCons (wLst (wCons (wC (.str "a")) (wCons (wC (.str "b")) (wCons (wC (.str "c")) (wCons (wC (.str "d")) wNil))))) wNil))) (wCons (wLst wNil) wNil)))) (gTp 3 (gCns (gNm 1) (gCns (gNm 2) (gCns (gNm 3) gNl))))) (wSeq (wFor (wEnum (wCons (wTup (wCons (wTup (wCons (wC (.int 0)) (wCons (wC (.int 1)) wNil))) (wCons (wTup (wCons (wC (.int 2)) (wCons (wC (.int 3)) wNil))) wNil))) wNil)) (gPt (.tp [(.nm 4), (.nm 5)])) (wSeq (wAsg (wBin fAdd (wBin fIx (wVar 1) (wBin fIx (wVar 5) (wC (.int 0)))) (wBin fIx (wVar 1) (wBin fIx (wVar 5) (wC (.int 1))))) (gNm 6)) (wSeq (wAsg (wTup (wCons (wBin fIx (wVar 2) (wVar 4)) (wCons (wIf (wTst (wBin fEq (wCallN 34 2 (wCons (wVar 0) (wCons (wC (.int 2)) wNil))) (wC (.int 0)))) (wBin fIx (wVar 2) (wVar 4)) (wBin fIx (wVar 2) (wBin fAdd (wVar 4) (wC (.int 2))))) wNil))) (gNm 7)) (wSeq (wAsg (wTup (wCons (wCallN 34 2 (wCons (wVar 0) (wCons (wC (.int 2)) wNil))) (wCons (wCallN 34 2 (wCons (wVar 0) (wCons (wC (.int 2)) wNil))) wNil))) (gNm 8)) (wAsg (wBin fAdd (wVar 3) (wLst (wCons (wTup (wCons (wVar 6) (wCons (wVar 7) (wCons (wVar 8) wNil)))) (wCons (wTup (wCons (wBin fAdd (wVar 6) (wBin fIx (wVar 1) (wC (.int 4)))) (wCons (wVar 7) (wCons (wTup (wCons (wBin fSub (wC (.int 1)) (wBin fIx (wVar 8) (wC (.int 0)))) (wCons (wBin fSub (wC (.int 1)) (wBin fIx (wVar 8) (wC (.int 1)))) wNil))) wNil)))) wNil)))) (gNm 3)))))) (wRet (wTup (wCons (wC (.str "five")) (wCons (wC (.int 5)) (wCons (wC (.int 2)) (wCons (wCB fTuple (wCons (wCB fSorted (wCons (wVar 3) wNil)) wNil)) wNil))))))))
def e48 : Ent := ⟨1, 9, b48⟩
theorem sc48 : FnScope N48 (psOf d48) (He.DefD.scope d48) := ⟨rfl, rfl, rfl, by decide +kernel, rfl, by decide +kernel, by decide +kernel⟩
theorem ok48 : BodyOk LW PR d48 e48 := ⟨rfl, ⟨N48, rfl, sc48, fun w K mg base M G W f cdv A outer s H E ecd C3 C tk => by
    have hp : PassesOwn (model PR w) (A.deeper (envOfC (He.DefD.qual d48) (He.DefD.scope d48) s.heap.objs.size f cdv)) (envOfC (He.DefD.qual d48) (He.DefD.scope d48) s.heap.objs.size f cdv) (cxOf (CX PR w) PR w K mg base N48 (He.DefD.qual d48) (He.DefD.scope d48) f cdv A outer s H E).xe := passes_of rfl
    show PSs _ _ (tS (cq _ M G W) b48)
    exact (qss_cons (by first | exact z_par3 C 1 2 3 (a_c (x_f C tk 39 2 42 (a_c (x_v 0) (a_c (qe_lst (a_c x_i (a_c x_i (a_c x_i (a_c x_i (a_c x_i a_n)))))) a_n))) (a_c (x_f C tk 39 2 42 (a_c (x_v 0) (a_c (qe_lst (a_c x_s (a_c x_s (a_c x_s (a_c x_s a_n))))) a_n))) (a_c (qe_lst a_n) a_n))) | exact z_asg (qe_tup (a_c (x_f C tk 39 2 42 (a_c (x_v 0) (a_c (qe_lst (a_c x_i (a_c x_i (a_c x_i (a_c x_i (a_c x_i a_n)))))) a_n))) (a_c (x_f C tk 39 2 42 (a_c (x_v 0) (a_c (qe_lst (a_c x_s (a_c x_s (a_c x_s (a_c x_s a_n))))) a_n))) (a_c (qe_lst a_n) a_n)))) (g_t C 3 (g_c (g_nm C 1) (g_c (g_nm C 2) (g_c (g_nm C 3) g_n))))) (qss_cons (z_for C hp (i_e C 80 (a_c (qe_tup (a_c (qe_tup (a_c x_i (a_c x_i a_n))) (a_c (qe_tup (a_c x_i (a_c x_i a_n))) a_n))) a_n)) (p_t C.calm (p_c (p_nm 4 C.nd) (p_c (p_nm 5 C.nd) p_n))) (qss_cons (z_set C 6 (x_add (x_ix C (x_v 1) (x_ix C (x_v 5) x_i)) (x_ix C (x_v 1) (x_ix C (x_v 5) x_i)))) (qss_cons (z_set C 7 (qe_tup (a_c (x_ix C (x_v 2) (x_v 4)) (a_c (qe_ifx (t_cmp (o_eq C) (x_f C tk 34 2 37 (a_c (x_v 0) (a_c x_i a_n))) x_i) (x_ix C (x_v 2) (x_v 4)) (x_ix C (x_v 2) (x_add (x_v 4) x_i))) a_n)))) (qss_cons (z_set C 8 (qe_tup (a_c (x_f C tk 34 2 37 (a_c (x_v 0) (a_c x_i a_n))) (a_c (x_f C tk 34 2 37 (a_c (x_v 0) (a_c x_i a_n))) a_n)))) (qss_one (z_set C 3 (x_add (x_v 3) (qe_lst (a_c (qe_tup (a_c (x_v 6) (a_c (x_v 7) (a_c (x_v 8) a_n)))) (a_c (qe_tup (a_c (x_add (x_v 6) (x_ix C (x_v 1) x_i)) (a_c (x_v 7) (a_c (qe_tup (a_c (x_sub x_i (x_ix C (x_v 8) x_i)) (a_c (x_sub x_i (x_ix C (x_v 8) x_i)) a_n))) a_n)))) a_n)))))))))) (qss_one (z_ret (qe_tup (a_c x_s (a_c x_i (a_c x_i (a_c (x_ct C 73 qc_tuple boot_tuple (a_c (x_cb C 79 (qc_sorted C.hu) boot_sorted (a_c (x_v 3) a_n)) a_n)) a_n)))))))))⟩, fun K f fd F => F.bindsN fun _ _ _ _ _ _ us hl => match us, hl with | [_], _ => rfl, ⟨rfl, rfl⟩⟩
def N49 : List PySem.Str := ["one", "other", "both"] -- _law_cost
def b49 : WS := (wSeq (wAsg (wCB fLen (wCons (wCallN 40 1 (wCons (wCallN 41 2 (wCons (wVar 0) (wCons (wVar 1) wNil))) wNil)) wNil)) (gNm 2)) (wRet (wTup (wCons (wBin fSub (wVar 2) (wCB fLen (wCons (wCallN 40 1 (wCons (wVar 0) wNil)) wNil))) (wCons (wBin fSub (wVar 2) (wCB fLen (wCons (wCallN 40 1 (wCons (wVar 1) wNil)) wNil))) wNil)))))
def e49 : Ent := ⟨2, 3, b49⟩
theorem sc49 : FnScope N49 (psOf d49) (He.DefD.scope d49) := ⟨rfl, rfl, rfl, by decide +kernel, rfl, by decide +kernel, by decide +kernel⟩
theorem ok49 : BodyOk LW PR d49 e49 := ⟨rfl, ⟨N49, rfl, sc49, fun w K mg base M G W f cdv A outer s H E ecd C3 C tk => by
    have hp : PassesOwn (model PR w) (A.deeper (envOfC (He.DefD.qual d49) (He.DefD.scope d49) s.heap.objs.size f cdv)) (envOfC (He.DefD.qual d49) (He.DefD.scope d49) s.heap.objs.size f cdv) (cxOf (CX PR w) PR w K mg base N49 (He.DefD.qual d49) (He.DefD.scope d49) f cdv A outer s H E).xe := passes_of rfl
    show PSs _ _ (tS (cq _ M G W) b49)
    exact (qss_cons (z_set C 2 (x_cb C 70 qc_len boot_len (a_c (x_f C tk 40 1 43 (a_c (x_f C tk 41 2 44 (a_c (x_v 0) (a_c (x_v 1) a_n))) a_n)) a_n))) (qss_one (z_ret (qe_tup (a_c (x_sub (x_v 2) (x_cb C 70 qc_len boot_len (a_c (x_f C tk 40 1 43 (a_c (x_v 0) a_n)) a_n))) (a_c (x_sub (x_v 2) (x_cb C 70 qc_len boot_len (a_c (x_f C tk 40 1 43 (a_c (x_v 1) a_n)) a_n))) a_n))))))⟩, fun K f fd F => F.bindsN fun _ _ _ _ _ _ us hl => match us, hl with | [_, _], _ => rfl, ⟨rfl, rfl⟩⟩
def N50 : List PySem.Str := ["book", "good", "found", "one", "other", "mine", "its", "here", "there", "step", "far", "told"] -- _law_pairs_of
def b50 : WS := (wSeq (wAsg (wTup (wCons (wCallN 38 1 (wCons (wVar 0) wNil)) (wCons wDict0 wNil))) (gTp 2 (gCns (gNm 1) (gCns (gNm 2) gNl)))) (wSeq (wFor (wIter (wVar 1)) (gPt (.nm 3)) (wFor (wIter (wVar 1)) (gPt (.nm 4)) (wSeq (wAsg (wCallN 49 2 (wCons (wVar 3) (wCons (wVar 4) wNil))) (gTp 2 (gCns (gNm 5) (gCns (gNm 6) gNl)))) (wFor (wRange1 (wCons (wBin fIx (wVar 0) (wC (.int 2))) wNil)) (gPt (.nm 7)) (wFor (wRange1 (wCons (wBin fIx (wVar 0) (wC (.int 2))) wNil)) (gPt (.nm 8)) (wSeq (wAsg (wTup (wCons (wCallN 37 3 (wCons (wVar 0) (wCons (wVar 3) (wCons (wVar 7) wNil)))) (wCons (wCallN 37 3 (wCons (wVar 0) (wCons (wVar 4) (wCons (wVar 8) wNil)))) wNil))) (gTp 2 (gCns (gNm 9) (gCns (gNm 10) gNl)))) (wSeq (wAsg (wTup (wCons (wTup (wCons (wVar 3) (wCons (wVar 4) wNil))) (wCons (wBin fEq (wBin fIx (wVar 9) (wC (.int 0))) (wBin fIx (wVar 10) (wC (.int 0)))) (wCons (wTup (wCons (wBin fIx (wVar 9) (wC (.int 1))) (wCons (wBin fIx (wVar 10) (wC (.int 1))) wNil))) (wCons (wTup (wCons (wVar 5) (wCons (wVar 6) wNil))) wNil))))) (gNm 11)) (wExpr (wBM "list" fAppend (wBM "dict" fSetd (wVar 2) (wCons (wTup (wCons (wVar 7) (wCons (wVar 8) wNil))) (wCons (wLst wNil) wNil))) (wCons (wVar 11) wNil)))))))))) (wRet (wVar 2))))
def e50 : Ent := ⟨1, 12, b50⟩
theorem sc50 : FnScope N50 (psOf d50) (He.DefD.scope d50) := ⟨rfl, rfl, rfl, by decide +kernel, rfl, by decide +kernel, by decide +kernel⟩
theorem ok50 : BodyOk LW PR d50 e50 := ⟨rfl, ⟨N50, rfl, sc50, fun w K mg base M G W f cdv A outer s H E ecd C3 C tk => by
    have hp : PassesOwn (model PR w) (A.deeper (envOfC (He.DefD.qual d50) (He.DefD.scope d50) s.heap.objs.size f cdv)) (envOfC (He.DefD.qual d50) (He.DefD.scope d50) s.heap.objs.size f cdv) (cxOf (CX PR w) PR w K mg base N50 (He.DefD.qual d50) (He.DefD.scope d50) f cdv A outer s H E).xe := passes_of rfl
    show PSs _ _ (tS (cq _ M G W) b50)
    exact (qss_cons (by first | exact z_par C 1 2 (a_c (x_f C tk 38 1 41 (a_c (x_v 0) a_n)) (a_c (qe_dict0 C.hP C.hw) a_n)) | exact z_asg (qe_tup (a_c (x_f C tk 38 1 41 (a_c (x_v 0) a_n)) (a_c (qe_dict0 C.hP C.hw) a_n))) (g_t C 2 (g_c (g_nm C 1) (g_c (g_nm C 2) g_n)))) (qss_cons (z_for C hp (i_v (x_v 1)) (p_nm 3 C.nd) (qss_one (z_for C hp (i_v (x_v 1)) (p_nm 4 C.nd) (qss_cons (z_asg (x_f C tk 49 2 52 (a_c (x_v 3) (a_c (x_v 4) a_n))) (g_t C 2 (g_c (g_nm C 5) (g_c (g_nm C 6) g_n)))) (qss_one (z_for C hp (i_r1 C 71 (a_c (x_ix C (x_v 0) x_i) a_n)) (p_nm 7 C.nd) (qss_one (z_for C hp (i_r1 C 71 (a_c (x_ix C (x_v 0) x_i) a_n)) (p_nm 8 C.nd) (qss_cons (by first | exact z_par C 9 10 (a_c (x_f C tk 37 3 40 (a_c (x_v 0) (a_c (x_v 3) (a_c (x_v 7) a_n)))) (a_c (x_f C tk 37 3 40 (a_c (x_v 0) (a_c (x_v 4) (a_c (x_v 8) a_n)))) a_n)) | exact z_asg (qe_tup (a_c (x_f C tk 37 3 40 (a_c (x_v 0) (a_c (x_v 3) (a_c (x_v 7) a_n)))) (a_c (x_f C tk 37 3 40 (a_c (x_v 0) (a_c (x_v 4) (a_c (x_v 8) a_n)))) a_n))) (g_t C 2 (g_c (g_nm C 9) (g_c (g_nm C 10) g_n)))) (qss_cons (z_set C 11 (qe_tup (a_c (qe_tup (a_c (x_v 3) (a_c (x_v 4) a_n))) (a_c (x_cmp (o_eq C) (x_ix C (x_v 9) x_i) (x_ix C (x_v 10) x_i)) (a_c (qe_tup (a_c (x_ix C (x_v 9) x_i) (a_c (x_ix C (x_v 10) x_i) a_n))) (a_c (qe_tup (a_c (x_v 5) (a_c (x_v 6) a_n))) a_n)))))) (qss_one (z_ex (x_bm PySem.F.plainAttrs_list PySem.F.slot_list_append PySem.F.type_list_append qm_append (x_bm PySem.F.plainAttrs_dict PySem.F.slot_dict_setdefault PySem.F.type_dict_setdefault (qm_setd C.hu C.hP C.hw) (x_v 2) (a_c (qe_tup (a_c (x_v 7) (a_c (x_v 8) a_n))) (a_c (qe_lst a_n) a_n))) (a_c (x_v 11) a_n)))))))))))))) (qss_one (z_ret (x_v 2)))))⟩, fun K f fd F => F.bindsN fun _ _ _ _ _ _ us hl => match us, hl with | [_], _ => rfl, ⟨rfl, rfl⟩⟩
def N51 : List PySem.Str := ["book", "torn", "line", "at", "found", "met", "pairs", "here", "there", "lost", "gone", "cells", "is_like", "ends", "mine", "its", "spot"] -- _law_unlike
def b51 : WS := (wSeq (wAsg (wTup (wCons (wLst (wCons (wTup (wCons (wC (.int 0)) (wCons (wC (.int 0)) (wCons (wC (.int 0)) (wCons (wC (.int 0)) wNil))))) wNil)) (wCons (wC (.int 0)) (wCons (wLst wNil) (wCons (wDisp [((wTup (wCons (wC (.int 0)) (wCons (wC (.int 0)) (wCons (wC (.int 0)) (wCons (wC (.int 0)) wNil))))), (wC (.bl true)))]) wNil))))) (gTp 4 (gCns (gNm 2) (gCns (gNm 3) (gCns (gNm 4) (gCns (gNm 5) gNl)))))) (wSeq (wAsg (wCallN 50 1 (wCons (wVar 0) wNil)) (gNm 6)) (wSeq (wWhile (wTst (wBin gLt (wVar 3) (wCB fLen (wCons (wVar 2) wNil)))) (wSeq (wAsg (wBin fIx (wVar 2) (wVar 3)) (gTp 4 (gCns (gNm 7) (gCns (gNm 8) (gCns (gNm 9) (gCns (gNm 10) gNl)))))) (wSeq (wAug 3 fIAdd (wC (.int 1))) (wFor (wIter (wBin fIx (wVar 6) (wTup (wCons (wVar 7) (wCons (wVar 8) wNil))))) (gPt (.tp [(.nm 11), (.nm 12), (.nm 13), (.tp [(.nm 14), (.nm 15)])])) (wSeq (wAsg (wBin fAdd (wVar 13) (wTup (wCons (wBin fAdd (wVar 9) (wVar 14)) (wCons (wBin fAdd (wVar 10) (wVar 15)) wNil)))) (gNm 16)) (wSeq (wIfS (wTst (wBin gGt (wCB fMax (wCons (wSl (wVar 16) (pAt (wC (.int 2))) pNo) wNil)) (wVar 1))) wCont wNext) (wSeq (wAsg (wBin fAdd (wVar 4) (wIf (wNot (wTru (wVar 12))) (wLst (wCons (wVar 11) wNil)) (wLst wNil))) (gNm 4)) (wIfS (wAnd (wTru (wVar 12)) (wTst (wBin (fInG true) (wVar 16) (wVar 5)))) (wSeq (wAsg (wC (.bl true)) (gSb fSet (wVar 5) (wVar 16))) (wExpr (wBM "list" fAppend (wVar 2) (wCons (wVar 16) wNil)))) wNext)))))))) (wRet (wVar 4)))))
def e51 : Ent := ⟨2, 17, b51⟩
theorem sc51 : FnScope N51 (psOf d51) (He.DefD.scope d51) := ⟨rfl, rfl, rfl, by decide +kernel, rfl, by decide +kernel, by decide +kernel⟩
theorem ok51 : BodyOk LW PR d51 e51 := ⟨rfl, ⟨N51, rfl, sc51, fun w K mg base M G W f cdv A outer s H E ecd C3 C tk => by
    have hp : PassesOwn (model PR w) (A.deeper (envOfC (He.DefD.qual d51) (He.DefD.scope d51) s.heap.objs.size f cdv)) (envOfC (He.DefD.qual d51) (He.DefD.scope d51) s.heap.objs.size f cdv) (cxOf (CX PR w) PR w K mg base N51 (He.DefD.qual d51) (He.DefD.scope d51) f cdv A outer s H E).xe := passes_of rfl
    show PSs _ _ (tS (cq _ M G W) b51)
    exact (qss_cons (z_asg (qe_tup (a_c (qe_lst (a_c (qe_tup (a_c x_i (a_c x_i (a_c x_i (a_c x_i a_n))))) a_n)) (a_c x_i (a_c (qe_lst a_n) (a_c (qe_disp C.hP C.hw C.hu (qps_cons (qe_tup (a_c x_i (a_c x_i (a_c x_i (a_c x_i a_n))))) x_b qps_nil) rfl rfl (by intro z; cases z) (by decide)) a_n))))) (g_t C 4 (g_c (g_nm C 2) (g_c (g_nm C 3) (g_c (g_nm C 4) (g_c (g_nm C 5) g_n)))))) (qss_cons (z_set C 6 (x_f C tk 50 1 53 (a_c (x_v 0) a_n))) (qss_cons (qs_while hp (t_cmp (o_lt C) (x_v 3) (x_cb C 70 qc_len boot_len (a_c (x_v 2) a_n))) (qss_cons (z_asg (x_ix C (x_v 2) (x_v 3)) (g_t C 4 (g_c (g_nm C 7) (g_c (g_nm C 8) (g_c (g_nm C 9) (g_c (g_nm C 10) g_n)))))) (qss_cons (z_aug C 3 x_i qp_iadd) (qss_one (z_for C hp (i_v (x_ix C (x_v 6) (qe_tup (a_c (x_v 7) (a_c (x_v 8) a_n))))) (p_t C.calm (p_c (p_nm 11 C.nd) (p_c (p_nm 12 C.nd) (p_c (p_nm 13 C.nd) (p_c (p_t C.calm (p_c (p_nm 14 C.nd) (p_c (p_nm 15 C.nd) p_n))) p_n))))) (qss_cons (z_set C 16 (x_add (x_v 13) (qe_tup (a_c (x_add (x_v 9) (x_v 14)) (a_c (x_add (x_v 10) (x_v 15)) a_n))))) (qss_cons (qs_if (t_cmp (o_gt C) (x_cb C 76 (qc_max C.calm C.hu) boot_max (a_c (qe_sl (x_v 16) (qp_some x_i) qp_none) a_n)) (x_v 1)) (qss_one qs_cont) qss_nil) (qss_cons (z_set C 4 (x_add (x_v 4) (qe_ifx (qt_not (qt_tru (x_v 12))) (qe_lst (a_c (x_v 11) a_n)) (qe_lst a_n)))) (qss_one (qs_if (qt_and (qw_and (qt_tru (x_v 12)) (qw_and1 (t_cmp (o_nin C) (x_v 16) (x_v 5))))) (qss_cons (z_asg x_b (g_sb C tk (x_v 5) (x_v 16))) (qss_one (z_ex (x_bm PySem.F.plainAttrs_list PySem.F.slot_list_append PySem.F.type_list_append qm_append (x_v 2) (a_c (x_v 16) a_n))))) qss_nil)))))))))) (qss_one (z_ret (x_v 4))))))⟩, fun K f fd F => F.bindsN fun _ _ _ _ _ _ us hl => match us, hl with | [_, _], _ => rfl, ⟨rfl, rfl⟩⟩
def N52 : List PySem.Str := ["book", "torn", "thing", "one", "two", "bad", "cell", "mine", "its", "costs", "other", "cost"] -- _law_is_couple
def b52 : WS := (wSeq (wIfS (wOr (wNot (wTru (wCB fIsi (wCons (wVar 2) (wCons (wC (.ty "tuple")) wNil))))) (wOr (wTst (wBin fNe (wCB fLen (wCons (wVar 2) wNil)) (wC (.int 2)))) (wTst (wBin fNe (wComp (wIter (wVar 2)) (.nm 3) (wNot (wTru (wCB fIsi (wCons (wVar 3) (wCons (wC (.ty "tuple")) wNil))))) (wC (.int 1)) [3]) (wLst wNil))))) (wRet (wC (.bl false))) wNext) (wSeq (wAsg (wVar 2) (gTp 2 (gCns (gNm 3) (gCns (gNm 4) gNl)))) (wSeq (wAsg (wComp (wIter (wBin fAdd (wVar 3) (wVar 4))) (.nm 6) (wOr (wNot (wTru (wCallN 42 1 (wCons (wVar 6) wNil)))) (wNot (wTst (wChn gLe gLe (wC (.int 0)) (wVar 6) (wCallN 36 1 (wCons (wVar 0) wNil)))))) (wC (.int 1)) [6]) (gNm 5)) (wSeq (wIfS (wOr (wTst (wBin fNe (wCB fLen (wCons (wVar 3) wNil)) (wCB fLen (wCons (wVar 4) wNil)))) (wTst (wBin fNe (wVar 5) (wLst wNil)))) (wRet (wC (.bl false))) wNext) (wSeq (wAsg (wTup (wCons (wCallN 43 3 (wCons (wVar 0) (wCons (wVar 3) (wCons (wC (.int 0)) wNil)))) (wCons (wCallN 43 3 (wCons (wVar 0) (wCons (wVar 4) (wCons (wC (.int 0)) wNil)))) wNil))) (gTp 2 (gCns (gNm 7) (gCns (gNm 8) gNl)))) (wSeq (wIfS (wOr (wTst (wBin fIs (wVar 7) (wC .non))) (wOr (wTst (wBin fIs (wVar 8) (wC .non))) (wTst (wBin fEq (wBin fIx (wVar 7) (wC (.int 0))) (wBin fIx (wVar 8) (wC (.int 0))))))) (wRet (wC (.bl false))) wNext) (wSeq (wAsg (wComp (wZip (wCons (wVar 3) (wCons (wVar 4) wNil))) (.tp [(.nm 6), (.nm 10)]) wTrue (wCallN 49 2 (wCons (wVar 6) (wCons (wVar 10) wNil))) [6, 10]) (gNm 9)) (wRet (wBin gLe (wCB fMax (wCons (wCB fSum (wCons (wComp (wIter (wVar 9)) (.nm 11) wTrue (wBin fIx (wVar 11) (wC (.int 0))) [11]) wNil)) (wCons (wCB fSum (wCons (wComp (wIter (wVar 9)) (.nm 11) wTrue (wBin fIx (wVar 11) (wC (.int 1))) [11]) wNil)) wNil))) (wVar 1))))))))))
def e52 : Ent := ⟨3, 12, b52⟩
theorem sc52 : FnScope N52 (psOf d52) (He.DefD.scope d52) := ⟨rfl, rfl, rfl, by decide +kernel, rfl, by decide +kernel, by decide +kernel⟩
theorem ok52 : BodyOk LW PR d52 e52 := ⟨rfl, ⟨N52, rfl, sc52, fun w K mg base M G W f cdv A outer s H E ecd C3 C tk => by
    have hp : PassesOwn (model PR w) (A.deeper (envOfC (He.DefD.qual d52) (He.DefD.scope d52) s.heap.objs.size f cdv)) (envOfC (He.DefD.qual d52) (He.DefD.scope d52) s.heap.objs.size f cdv) (cxOf (CX PR w) PR w K mg base N52 (He.DefD.qual d52) (He.DefD.scope d52) f cdv A outer s H E).xe := passes_of rfl
    show PSs _ _ (tS (cq _ M G W) b52)
    exact (qss_cons (qs_if (qt_or (qw_or (qt_not (qt_tru (x_cb C 72 qc_isi boot_isinstance (a_c (x_v 2) (a_c (x_ty C 73 boot_tuple) a_n))))) (qw_or (t_cmp (o_ne C) (x_cb C 70 qc_len boot_len (a_c (x_v 2) a_n)) x_i) (qw_or1 (t_cmp (o_ne C) (x_lc C [("one", 3)] (i_v (x_v 2)) (fun _ _ _ _ _ => by exact (p_nm 3 (C.blk _ _ _ _ _).nd)) (fun _ _ _ _ _ => by exact (qts_one (qt_not (qt_tru (x_cb (C.blk _ _ _ _ _) 72 qc_isi boot_isinstance (a_c (x_v 3) (a_c (x_ty (C.blk _ _ _ _ _) 73 boot_tuple) a_n))))))) (fun _ _ _ _ _ => by exact x_i)) (qe_lst a_n)))))) (qss_one (z_ret x_b)) qss_nil) (qss_cons (z_asg (x_v 2) (g_t C 2 (g_c (g_nm C 3) (g_c (g_nm C 4) g_n)))) (qss_cons (by first | exact (z_lc C 5 [("cell", 6)] (i_v (x_add (x_v 3) (x_v 4))) (fun _ _ _ _ _ => by exact (p_nm 6 (C.blk _ _ _ _ _).nd)) (fun _ _ _ _ _ => by exact (qts_one (qt_or (qw_or (qt_not (qt_tru (x_f (C.blk _ _ _ _ _) tak0 42 1 45 (a_c (x_v 6) a_n)))) (qw_or1 (qt_not (qt_chain (o_le (C.blk _ _ _ _ _)) (o_le (C.blk _ _ _ _ _)) x_i (x_v 6) (x_f (C.blk _ _ _ _ _) tak0 36 1 39 (a_c (x_v 0) a_n))))))))) (fun _ _ _ _ _ => by exact x_i)) | exact z_set C 5 (x_lc C [("cell", 6)] (i_v (x_add (x_v 3) (x_v 4))) (fun _ _ _ _ _ => by exact (p_nm 6 (C.blk _ _ _ _ _).nd)) (fun _ _ _ _ _ => by exact (qts_one (qt_or (qw_or (qt_not (qt_tru (x_f (C.blk _ _ _ _ _) tak0 42 1 45 (a_c (x_v 6) a_n)))) (qw_or1 (qt_not (qt_chain (o_le (C.blk _ _ _ _ _)) (o_le (C.blk _ _ _ _ _)) x_i (x_v 6) (x_f (C.blk _ _ _ _ _) tak0 36 1 39 (a_c (x_v 0) a_n))))))))) (fun _ _ _ _ _ => by exact x_i))) (qss_cons (qs_if (qt_or (qw_or (t_cmp (o_ne C) (x_cb C 70 qc_len boot_len (a_c (x_v 3) a_n)) (x_cb C 70 qc_len boot_len (a_c (x_v 4) a_n))) (qw_or1 (t_cmp (o_ne C) (x_v 5) (qe_lst a_n))))) (qss_one (z_ret x_b)) qss_nil) (qss_cons (by first | exact z_par C 7 8 (a_c (x_f C tk 43 3 46 (a_c (x_v 0) (a_c (x_v 3) (a_c x_i a_n)))) (a_c (x_f C tk 43 3 46 (a_c (x_v 0) (a_c (x_v 4) (a_c x_i a_n)))) a_n)) | exact z_asg (qe_tup (a_c (x_f C tk 43 3 46 (a_c (x_v 0) (a_c (x_v 3) (a_c x_i a_n)))) (a_c (x_f C tk 43 3 46 (a_c (x_v 0) (a_c (x_v 4) (a_c x_i a_n)))) a_n))) (g_t C 2 (g_c (g_nm C 7) (g_c (g_nm C 8) g_n)))) (qss_cons (qs_if (qt_or (qw_or (t_cmp (o_is C) (x_v 7) x_n) (qw_or (t_cmp (o_is C) (x_v 8) x_n) (qw_or1 (t_cmp (o_eq C) (x_ix C (x_v 7) x_i) (x_ix C (x_v 8) x_i)))))) (qss_one (z_ret x_b)) qss_nil) (qss_cons (by first | exact (z_lc C 9 [("cell", 6), ("other", 10)] (i_z C 81 (a_c (x_v 3) (a_c (x_v 4) a_n))) (fun _ _ _ _ _ => by exact (p_t (C.blk _ _ _ _ _).calm (p_c (p_nm 6 (C.blk _ _ _ _ _).nd) (p_c (p_nm 10 (C.blk _ _ _ _ _).nd) p_n)))) (fun _ _ _ _ _ => by exact qts_nil) (fun _ _ _ _ _ => by exact (x_f (C.blk _ _ _ _ _) tak0 49 2 52 (a_c (x_v 6) (a_c (x_v 10) a_n))))) | exact z_set C 9 (x_lc C [("cell", 6), ("other", 10)] (i_z C 81 (a_c (x_v 3) (a_c (x_v 4) a_n))) (fun _ _ _ _ _ => by exact (p_t (C.blk _ _ _ _ _).calm (p_c (p_nm 6 (C.blk _ _ _ _ _).nd) (p_c (p_nm 10 (C.blk _ _ _ _ _).nd) p_n)))) (fun _ _ _ _ _ => by exact qts_nil) (fun _ _ _ _ _ => by exact (x_f (C.blk _ _ _ _ _) tak0 49 2 52 (a_c (x_v 6) (a_c (x_v 10) a_n)))))) (qss_one (z_ret (x_cmp (o_le C) (x_cb C 76 (qc_max C.calm C.hu) boot_max (a_c (x_cb C 75 (qc_sum C.calm) boot_sum (a_c (x_lc C [("cost", 11)] (i_v (x_v 9)) (fun _ _ _ _ _ => by exact (p_nm 11 (C.blk _ _ _ _ _).nd)) (fun _ _ _ _ _ => by exact qts_nil) (fun _ _ _ _ _ => by exact (x_ix (C.blk _ _ _ _ _) (x_v 11) x_i))) a_n)) (a_c (x_cb C 75 (qc_sum C.calm) boot_sum (a_c (x_lc C [("cost", 11)] (i_v (x_v 9)) (fun _ _ _ _ _ => by exact (p_nm 11 (C.blk _ _ _ _ _).nd)) (fun _ _ _ _ _ => by exact qts_nil) (fun _ _ _ _ _ => by exact (x_ix (C.blk _ _ _ _ _) (x_v 11) x_i))) a_n)) a_n))) (x_v 1)))))))))))⟩, fun K f fd F => F.bindsN fun _ _ _ _ _ _ us hl => match us, hl with | [_, _, _], _ => rfl, ⟨rfl, rfl⟩⟩
def N53 : List PySem.Str := ["book", "torn", "line", "at", "met", "pairs", "here", "there", "lost", "gone", "cells", "is_like", "ends", "mine", "its", "spot"] -- _law_spots
def b53 : WS := (wSeq (wAsg (wTup (wCons (wLst (wCons (wTup (wCons (wC (.int 0)) (wCons (wC (.int 0)) (wCons (wC (.int 0)) (wCons (wC (.int 0)) wNil))))) wNil)) (wCons (wC (.int 0)) (wCons (wDisp [((wTup (wCons (wC (.int 0)) (wCons (wC (.int 0)) (wCons (wC (.int 0)) (wCons (wC (.int 0)) wNil))))), (wC (.bl true)))]) (wCons (wCallN 50 1 (wCons (wVar 0) wNil)) wNil))))) (gTp 4 (gCns (gNm 2) (gCns (gNm 3) (gCns (gNm 4) (gCns (gNm 5) gNl)))))) (wSeq (wWhile (wTst (wBin gLt (wVar 3) (wCB fLen (wCons (wVar 2) wNil)))) (wSeq (wAsg (wBin fIx (wVar 2) (wVar 3)) (gTp 4 (gCns (gNm 6) (gCns (gNm 7) (gCns (gNm 8) (gCns (gNm 9) gNl)))))) (wSeq (wAug 3 fIAdd (wC (.int 1))) (wFor (wIter (wBin fIx (wVar 5) (wTup (wCons (wVar 6) (wCons (wVar 7) wNil))))) (gPt (.tp [(.nm 10), (.nm 11), (.nm 12), (.tp [(.nm 13), (.nm 14)])])) (wSeq (wAsg (wBin fAdd (wVar 12) (wTup (wCons (wBin fAdd (wVar 8) (wVar 13)) (wCons (wBin fAdd (wVar 9) (wVar 14)) wNil)))) (gNm 15)) (wIfS (wAnd (wTst (wBin gLe (wCB fMax (wCons (wSl (wVar 15) (pAt (wC (.int 2))) pNo) wNil)) (wVar 1))) (wTst (wBin (fInG true) (wVar 15) (wVar 4)))) (wSeq (wAsg (wC (.bl true)) (gSb fSet (wVar 4) (wVar 15))) (wExpr (wBM "list" fAppend (wVar 2) (wCons (wVar 15) wNil)))) wNext)))))) (wRet (wCB fTuple (wCons (wCB fSorted (wCons (wVar 2) wNil)) wNil)))))
def e53 : Ent := ⟨2, 16, b53⟩
theorem sc53 : FnScope N53 (psOf d53) (He.DefD.scope d53) := ⟨rfl, rfl, rfl, by decide +kernel, rfl, by decide +kernel, by decide +kernel⟩
theorem ok53 : BodyOk LW PR d53 e53 := ⟨rfl, ⟨N53, rfl, sc53, fun w K mg base M G W f cdv A outer s H E ecd C3 C tk => by
    have hp : PassesOwn (model PR w) (A.deeper (envOfC (He.DefD.qual d53) (He.DefD.scope d53) s.heap.objs.size f cdv)) (envOfC (He.DefD.qual d53) (He.DefD.scope d53) s.heap.objs.size f cdv) (cxOf (CX PR w) PR w K mg base N53 (He.DefD.qual d53) (He.DefD.scope d53) f cdv A outer s H E).xe := passes_of rfl
    show PSs _ _ (tS (cq _ M G W) b53)
    exact (qss_cons (z_asg (qe_tup (a_c (qe_lst (a_c (qe_tup (a_c x_i (a_c x_i (a_c x_i (a_c x_i a_n))))) a_n)) (a_c x_i (a_c (qe_disp C.hP C.hw C.hu (qps_cons (qe_tup (a_c x_i (a_c x_i (a_c x_i (a_c x_i a_n))))) x_b qps_nil) rfl rfl (by intro z; cases z) (by decide)) (a_c (x_f C tk 50 1 53 (a_c (x_v 0) a_n)) a_n))))) (g_t C 4 (g_c (g_nm C 2) (g_c (g_nm C 3) (g_c (g_nm C 4) (g_c (g_nm C 5) g_n)))))) (qss_cons (qs_while hp (t_cmp (o_lt C) (x_v 3) (x_cb C 70 qc_len boot_len (a_c (x_v 2) a_n))) (qss_cons (z_asg (x_ix C (x_v 2) (x_v 3)) (g_t C 4 (g_c (g_nm C 6) (g_c (g_nm C 7) (g_c (g_nm C 8) (g_c (g_nm C 9) g_n)))))) (qss_cons (z_aug C 3 x_i qp_iadd) (qss_one (z_for C hp (i_v (x_ix C (x_v 5) (qe_tup (a_c (x_v 6) (a_c (x_v 7) a_n))))) (p_t C.calm (p_c (p_nm 10 C.nd) (p_c (p_nm 11 C.nd) (p_c (p_nm 12 C.nd) (p_c (p_t C.calm (p_c (p_nm 13 C.nd) (p_c (p_nm 14 C.nd) p_n))) p_n))))) (qss_cons (z_set C 15 (x_add (x_v 12) (qe_tup (a_c (x_add (x_v 8) (x_v 13)) (a_c (x_add (x_v 9) (x_v 14)) a_n))))) (qss_one (qs_if (qt_and (qw_and (t_cmp (o_le C) (x_cb C 76 (qc_max C.calm C.hu) boot_max (a_c (qe_sl (x_v 15) (qp_some x_i) qp_none) a_n)) (x_v 1)) (qw_and1 (t_cmp (o_nin C) (x_v 15) (x_v 4))))) (qss_cons (z_asg x_b (g_sb C tk (x_v 4) (x_v 15))) (qss_one (z_ex (x_bm PySem.F.plainAttrs_list PySem.F.slot_list_append PySem.F.type_list_append qm_append (x_v 2) (a_c (x_v 15) a_n))))) qss_nil)))))))) (qss_one (z_ret (x_ct C 73 qc_tuple boot_tuple (a_c (x_cb C 79 (qc_sorted C.hu) boot_sorted (a_c (x_v 2) a_n)) a_n))))))⟩, fun K f fd F => F.bindsN fun _ _ _ _ _ _ us hl => match us, hl with | [_, _], _ => rfl, ⟨rfl, rfl⟩⟩
def N54 : List PySem.Str := ["script", "bag", "turn", "book", "ahead", "least", "torn", "borne", "word", "thing", "spots", "told", "couple", "meet", "one", "two", "holes", "cell", "lost", "some", "again"] -- law
def b54 : WS := (wSeq (wAsg (wCallN 44 1 (wCons (wVar 0) wNil)) (gNm 1)) (wSeq (wFor (wRange1 (wCons (wC (.int 2)) wNil)) (gPt (.nm 2)) (wSeq (wAsg (wTup (wCons (wCallN 48 1 (wCons (wVar 1) wNil)) (wCons (wC (.bl true)) (wCons (wC .non) wNil)))) (gTp 3 (gCns (gNm 3) (gCns (gNm 4) (gCns (gNm 5) gNl))))) (wSeq (wFor (wRange1 (wCons (wC (.int 3)) wNil)) (gPt (.nm 6)) (wSeq (wAsg (wBin fEq (wCallN 51 2 (wCons (wVar 3) (wCons (wVar 6) wNil))) (wLst wNil)) (gNm 7)) (wSeq (wIfS (wOr (wAnd (wTru (wVar 7)) (wNot (wTru (wVar 4)))) (wNot (wTru (wCallN 45 2 (wCons (wCallN 22 2 (wCons (wVar 3) (wCons (wVar 6) wNil))) (wCons (wVar 7) wNil)))))) (wRet (wC (.bl false))) wNext) (wSeq (wAsg (wTup (wCons (wVar 7) (wCons (wCallN 32 2 (wCons (wVar 3) (wCons (wVar 6) wNil))) wNil))) (gTp 2 (gCns (gNm 4) (gCns (gTp 2 (gCns (gNm 8) (gCns (gNm 9) gNl))) gNl)))) (wSeq (wAsg (wIf (wAnd (wNot (wTru (wVar 7))) (wTst (wBin fIs (wVar 5) (wC .non)))) (wVar 6) (wVar 5)) (gNm 5)) (wSeq (wIfS (wOr (wTst (wBin fNe (wVar 8) (wIf (wTru (wVar 7)) (wC (.str "paper")) (wC (.str "couple"))))) (wTst (wBin fIsNot (wCallN 33 3 (wCons (wVar 3) (wCons (wVar 6) (wCons (wTup (wCons (wVar 8) (wCons (wVar 9) wNil))) wNil)))) (wC (.bl true))))) (wRet (wC (.bl false))) wNext) (wSeq (wIfS (wTru (wVar 7)) (wSeq (wAsg (wCallN 53 2 (wCons (wVar 3) (wCons (wVar 6) wNil))) (gNm 10)) (wSeq (wAsg (wLst (wCons (wCallN 27 2 (wCons (wVar 3) (wCons (wVar 6) wNil))) (wCons (wCallN 30 3 (wCons (wVar 3) (wCons (wVar 6) (wCons (wVar 10) wNil)))) (wCons (wCallN 31 3 (wCons (wVar 3) (wCons (wVar 6) (wCons (wVar 10) wNil)))) (wCons (wCallN 21 2 (wCons (wVar 3) (wCons (wVar 6) wNil))) wNil))))) (gNm 11)) (wSeq (wIfS (wNot (wTru (wCallN 45 2 (wCons (wVar 11) (wCons (wLst (wCons (wVar 10) (wCons (wC .non) (wCons (wC (.bl true)) (wCons (wC .non) wNil))))) wNil))))) (wRet (wC (.bl false))) wNext) (wSeq (wIfS (wAnd (wTst (wBin gGt (wCB fLen (wCons (wVar 10) wNil)) (wC (.int 1)))) (wTst (wBin fNe (wCallN 30 3 (wCons (wVar 3) (wCons (wVar 6) (wCons (wSl (wVar 10) (pAt (wC (.int 1))) pNo) wNil)))) (wTup (wCons (wUn fNeg (wC (.int 1))) (wCons (wC (.str "first")) wNil)))))) (wRet (wC (.bl false))) wNext) wCont)))) wNext) (wSeq (wAsg (wCallN 21 2 (wCons (wVar 3) (wCons (wVar 6) wNil))) (gNm 12)) (wSeq (wIfS (wOr (wNot (wTru (wCallN 52 3 (wCons (wVar 3) (wCons (wVar 6) (wCons (wVar 12) wNil)))))) (wTst (wBin fNe (wWhy 2 "why" (wCallN 27 2 (wCons (wVar 3) (wCons (wVar 6) wNil)))) (wC (.str "couple"))))) (wRet (wC (.bl false))) wNext) (wSeq (wAsg (wCB fTuple (wCons (wComp (wZip (wCons (wBin fIx (wVar 12) (wC (.int 0))) (wCons (wBin fIx (wVar 12) (wC (.int 1))) wNil))) (.tp [(.nm 14), (.nm 15)]) wTrue (wCallN 41 2 (wCons (wVar 14) (wCons (wVar 15) wNil))) [14, 15]) wNil)) (gNm 13)) (wSeq (wAsg (wComp (wIter (wTup (wCons (wVar 13) (wCons (wBin fIx (wVar 12) (wC (.int 0))) (wCons (wBin fIx (wVar 12) (wC (.int 1))) wNil))))) (.nm 14) wTrue (wCB fSum (wCons (wComp (wIter (wVar 14)) (.nm 17) wTrue (wCB fLen (wCons (wCallN 40 1 (wCons (wVar 17) wNil)) wNil)) [17]) wNil)) [14]) (gNm 16)) (wSeq (wAsg (wTup (wCons (wBin fSub (wBin fIx (wVar 16) (wC (.int 0))) (wBin fIx (wVar 16) (wC (.int 1)))) (wCons (wBin fSub (wBin fIx (wVar 16) (wC (.int 0))) (wBin fIx (wVar 16) (wC (.int 2)))) wNil))) (gNm 18)) (wSeq (wIfS (wNot (wTru (wCallN 45 2 (wCons (wLst (wCons (wCallN 24 2 (wCons (wBin fIx (wVar 12) (wC (.int 0))) (wCons (wBin fIx (wVar 12) (wC (.int 1))) wNil))) (wCons (wCallN 25 2 (wCons (wBin fIx (wVar 12) (wC (.int 0))) (wCons (wBin fIx (wVar 12) (wC (.int 1))) wNil))) wNil))) (wCons (wLst (wCons (wVar 13) (wCons (wVar 18) wNil))) wNil))))) (wRet (wC (.bl false))) wNext) (wSeq (wAsg (wLst (wCons (wVar 12) (wCons (wUn fRev (wVar 12)) (wCons (wSl (wVar 12) pNo (pAt (wC (.int 1)))) (wCons (wCB fList (wCons (wVar 12) wNil)) (wCons (wC .non) (wCons (wTup (wCons (wBin fIx (wVar 12) (wC (.int 0))) (wCons (wBin fIx (wVar 12) (wC (.int 0))) wNil))) wNil))))))) (gNm 19)) (wFor (wIter (wBin fAdd (wVar 19) (wComp (wRange1 (wCons (wC (.int 4)) wNil)) (.nm 20) wTrue (wTup (wCons (wCallN 47 3 (wCons (wVar 1) (wCons (wVar 3) (wCons (wC (.int 2)) wNil)))) (wCons (wCallN 47 3 (wCons (wVar 1) (wCons (wVar 3) (wCons (wC (.int 2)) wNil)))) wNil))) [20]))) (gPt (.nm 9)) (wIfS (wNot (wTru (wCallN 45 2 (wCons (wCallN 26 3 (wCons (wVar 3) (wCons (wVar 6) (wCons (wVar 9) wNil)))) (wCons (wCallN 52 3 (wCons (wVar 3) (wCons (wVar 6) (wCons (wVar 9) wNil)))) wNil))))) (wRet (wC (.bl false))) wNext)))))))))))))))) (wIfS (wAnd (wTst (wBin fIsNot (wVar 5) (wC .non))) (wNot (wTru (wCallN 45 2 (wCons (wCallN 23 1 (wCons (wVar 3) wNil)) (wCons (wBin fSub (wVar 5) (wC (.int 1))) wNil)))))) (wRet (wC (.bl false))) wNext)))) (wRet (wC (.bl true)))))
def e54 : Ent := ⟨1, 21, b54⟩
theorem sc54 : FnScope N54 (psOf d54) (He.DefD.scope d54) := ⟨rfl, rfl, rfl, by decide +kernel, rfl, by decide +kernel, by decide +kernel⟩
theorem ok54 : BodyOk LW PR d54 e54 := ⟨rfl, ⟨N54, rfl, sc54, fun w K mg base M G W f cdv A outer s H E ecd C3 C tk => by
    have hp : PassesOwn (model PR w) (A.deeper (envOfC (He.DefD.qual d54) (He.DefD.scope d54) s.heap.objs.size f cdv)) (envOfC (He.DefD.qual d54) (He.DefD.scope d54) s.heap.objs.size f cdv) (cxOf (CX PR w) PR w K mg base N54 (He.DefD.qual d54) (He.DefD.scope d54) f cdv A outer s H E).xe := passes_of rfl
    show PSs _ _ (tS (cq _ M G W) b54)
    exact (qss_cons (z_set C 1 (x_f C tk 44 1 47 (a_c (x_v 0) a_n))) (qss_cons (z_for C hp (i_r1 C 71 (a_c x_i a_n)) (p_nm 2 C.nd) (qss_cons (by first | exact z_par3 C 3 4 5 (a_c (x_f C tk 48 1 51 (a_c (x_v 1) a_n)) (a_c x_b (a_c x_n a_n))) | exact z_asg (qe_tup (a_c (x_f C tk 48 1 51 (a_c (x_v 1) a_n)) (a_c x_b (a_c x_n a_n)))) (g_t C 3 (g_c (g_nm C 3) (g_c (g_nm C 4) (g_c (g_nm C 5) g_n))))) (qss_cons (z_for C hp (i_r1 C 71 (a_c x_i a_n)) (p_nm 6 C.nd) (qss_cons (z_set C 7 (x_cmp (o_eq C) (x_f C tk 51 2 54 (a_c (x_v 3) (a_c (x_v 6) a_n))) (qe_lst a_n))) (qss_cons (qs_if (qt_or (qw_or (qt_and (qw_and (qt_tru (x_v 7)) (qw_and1 (qt_not (qt_tru (x_v 4)))))) (qw_or1 (qt_not (qt_tru (x_f C tk 45 2 48 (a_c (x_f C tk 22 2 25 (a_c (x_v 3) (a_c (x_v 6) a_n))) (a_c (x_v 7) a_n)))))))) (qss_one (z_ret x_b)) qss_nil) (qss_cons (z_asg (qe_tup (a_c (x_v 7) (a_c (x_f C tk 32 2 35 (a_c (x_v 3) (a_c (x_v 6) a_n))) a_n))) (g_t C 2 (g_c (g_nm C 4) (g_c (g_t C 2 (g_c (g_nm C 8) (g_c (g_nm C 9) g_n))) g_n)))) (qss_cons (z_set C 5 (qe_ifx (qt_and (qw_and (qt_not (qt_tru (x_v 7))) (qw_and1 (t_cmp (o_is C) (x_v 5) x_n)))) (x_v 6) (x_v 5))) (qss_cons (qs_if (qt_or (qw_or (t_cmp (o_ne C) (x_v 8) (qe_ifx (qt_tru (x_v 7)) x_s x_s)) (qw_or1 (t_cmp (o_isn C) (x_f C tk 33 3 36 (a_c (x_v 3) (a_c (x_v 6) (a_c (qe_tup (a_c (x_v 8) (a_c (x_v 9) a_n))) a_n)))) x_b)))) (qss_one (z_ret x_b)) qss_nil) (qss_cons (qs_if (qt_tru (x_v 7)) (qss_cons (z_set C 10 (x_f C tk 53 2 56 (a_c (x_v 3) (a_c (x_v 6) a_n)))) (qss_cons (z_set C 11 (qe_lst (a_c (x_f C tk 27 2 30 (a_c (x_v 3) (a_c (x_v 6) a_n))) (a_c (x_f C tk 30 3 33 (a_c (x_v 3) (a_c (x_v 6) (a_c (x_v 10) a_n)))) (a_c (x_f C tk 31 3 34 (a_c (x_v 3) (a_c (x_v 6) (a_c (x_v 10) a_n)))) (a_c (x_f C tk 21 2 24 (a_c (x_v 3) (a_c (x_v 6) a_n))) a_n)))))) (qss_cons (qs_if (qt_not (qt_tru (x_f C tk 45 2 48 (a_c (x_v 11) (a_c (qe_lst (a_c (x_v 10) (a_c x_n (a_c x_b (a_c x_n a_n))))) a_n))))) (qss_one (z_ret x_b)) qss_nil) (qss_cons (qs_if (qt_and (qw_and (t_cmp (o_gt C) (x_cb C 70 qc_len boot_len (a_c (x_v 10) a_n)) x_i) (qw_and1 (t_cmp (o_ne C) (x_f C tk 30 3 33 (a_c (x_v 3) (a_c (x_v 6) (a_c (qe_sl (x_v 10) (qp_some x_i) qp_none) a_n)))) (qe_tup (a_c (x_neg x_i) (a_c x_s a_n))))))) (qss_one (z_ret x_b)) qss_nil) (qss_one qs_cont))))) qss_nil) (qss_cons (z_set C 12 (x_f C tk 21 2 24 (a_c (x_v 3) (a_c (x_v 6) a_n)))) (qss_cons (qs_if (qt_or (qw_or (qt_not (qt_tru (x_f C tk 52 3 55 (a_c (x_v 3) (a_c (x_v 6) (a_c (x_v 12) a_n)))))) (qw_or1 (t_cmp (o_ne C) (qe_why (PR := PR) (n := 46) (i := 0) (c := 2) (jx := 49) (jn := 1) (je := 89) (t := 0) (dl := d54) C C3 rfl ok46 wh46 sc46 rfl rfl rfl rfl rfl rfl rfl ecd rfl (.inl rfl) rfl (LamX.lamS_by rfl) rfl (fun _ _ _ _ _ => rfl) (fun Al outerl sl Hl El fl cl Wl Cl tkl => by exact (x_f Cl tkl 27 2 30 (a_c (x_v 3) (a_c (x_v 6) a_n))))) x_s)))) (qss_one (z_ret x_b)) qss_nil) (qss_cons (z_set C 13 (x_ct C 73 qc_tuple boot_tuple (a_c (x_lc C [("one", 14), ("two", 15)] (i_z C 81 (a_c (x_ix C (x_v 12) x_i) (a_c (x_ix C (x_v 12) x_i) a_n))) (fun _ _ _ _ _ => by exact (p_t (C.blk _ _ _ _ _).calm (p_c (p_nm 14 (C.blk _ _ _ _ _).nd) (p_c (p_nm 15 (C.blk _ _ _ _ _).nd) p_n)))) (fun _ _ _ _ _ => by exact qts_nil) (fun _ _ _ _ _ => by exact (x_f (C.blk _ _ _ _ _) tak0 41 2 44 (a_c (x_v 14) (a_c (x_v 15) a_n))))) a_n))) (qss_cons (by first | exact (z_lc C 16 [("one", 14)] (i_v (qe_tup (a_c (x_v 13) (a_c (x_ix C (x_v 12) x_i) (a_c (x_ix C (x_v 12) x_i) a_n))))) (fun _ _ _ _ _ => by exact (p_nm 14 (C.blk _ _ _ _ _).nd)) (fun _ _ _ _ _ => by exact qts_nil) (fun _ _ _ _ _ => by exact (x_cb (C.blk _ _ _ _ _) 75 (qc_sum (C.blk _ _ _ _ _).calm) boot_sum (a_c (x_lc (C.blk _ _ _ _ _) [("cell", 17)] (i_v (x_v 14)) (fun _ _ _ _ _ => by exact (p_nm 17 ((C.blk _ _ _ _ _).blk _ _ _ _ _).nd)) (fun _ _ _ _ _ => by exact qts_nil) (fun _ _ _ _ _ => by exact (x_cb ((C.blk _ _ _ _ _).blk _ _ _ _ _) 70 qc_len boot_len (a_c (x_f ((C.blk _ _ _ _ _).blk _ _ _ _ _) tak0 40 1 43 (a_c (x_v 17) a_n)) a_n)))) a_n)))) | exact z_set C 16 (x_lc C [("one", 14)] (i_v (qe_tup (a_c (x_v 13) (a_c (x_ix C (x_v 12) x_i) (a_c (x_ix C (x_v 12) x_i) a_n))))) (fun _ _ _ _ _ => by exact (p_nm 14 (C.blk _ _ _ _ _).nd)) (fun _ _ _ _ _ => by exact qts_nil) (fun _ _ _ _ _ => by exact (x_cb (C.blk _ _ _ _ _) 75 (qc_sum (C.blk _ _ _ _ _).calm) boot_sum (a_c (x_lc (C.blk _ _ _ _ _) [("cell", 17)] (i_v (x_v 14)) (fun _ _ _ _ _ => by exact (p_nm 17 ((C.blk _ _ _ _ _).blk _ _ _ _ _).nd)) (fun _ _ _ _ _ => by exact qts_nil) (fun _ _ _ _ _ => by exact (x_cb ((C.blk _ _ _ _ _).blk _ _ _ _ _) 70 qc_len boot_len (a_c (x_f ((C.blk _ _ _ _ _).blk _ _ _ _ _) tak0 40 1 43 (a_c (x_v 17) a_n)) a_n)))) a_n))))) (qss_cons (z_set C 18 (qe_tup (a_c (x_sub (x_ix C (x_v 16) x_i) (x_ix C (x_v 16) x_i)) (a_c (x_sub (x_ix C (x_v 16) x_i) (x_ix C (x_v 16) x_i)) a_n)))) (qss_cons (qs_if (qt_not (qt_tru (x_f C tk 45 2 48 (a_c (qe_lst (a_c (x_f C tk 24 2 27 (a_c (x_ix C (x_v 12) x_i) (a_c (x_ix C (x_v 12) x_i) a_n))) (a_c (x_f C tk 25 2 28 (a_c (x_ix C (x_v 12) x_i) (a_c (x_ix C (x_v 12) x_i) a_n))) a_n))) (a_c (qe_lst (a_c (x_v 13) (a_c (x_v 18) a_n))) a_n))))) (qss_one (z_ret x_b)) qss_nil) (qss_cons (z_set C 19 (qe_lst (a_c (x_v 12) (a_c (qe_rev (x_v 12)) (a_c (qe_sl (x_v 12) qp_none (qp_some x_i)) (a_c (x_ct C 74 qc_list boot_list (a_c (x_v 12) a_n)) (a_c x_n (a_c (qe_tup (a_c (x_ix C (x_v 12) x_i) (a_c (x_ix C (x_v 12) x_i) a_n))) a_n)))))))) (qss_one (z_for C hp (i_v (x_add (x_v 19) (x_lc C [("again", 20)] (i_r1 C 71 (a_c x_i a_n)) (fun _ _ _ _ _ => by exact (p_nm 20 (C.blk _ _ _ _ _).nd)) (fun _ _ _ _ _ => by exact qts_nil) (fun _ _ _ _ _ => by exact (qe_tup (a_c (x_f (C.blk _ _ _ _ _) tak0 47 3 50 (a_c (x_v 1) (a_c (x_v 3) (a_c x_i a_n)))) (a_c (x_f (C.blk _ _ _ _ _) tak0 47 3 50 (a_c (x_v 1) (a_c (x_v 3) (a_c x_i a_n)))) a_n))))))) (p_nm 9 C.nd) (qss_one (qs_if (qt_not (qt_tru (x_f C tk 45 2 48 (a_c (x_f C tk 26 3 29 (a_c (x_v 3) (a_c (x_v 6) (a_c (x_v 9) a_n)))) (a_c (x_f C tk 52 3 55 (a_c (x_v 3) (a_c (x_v 6) (a_c (x_v 9) a_n)))) a_n))))) (qss_one (z_ret x_b)) qss_nil)))))))))))))))))) (qss_one (qs_if (qt_and (qw_and (t_cmp (o_isn C) (x_v 5) x_n) (qw_and1 (qt_not (qt_tru (x_f C tk 45 2 48 (a_c (x_f C tk 23 1 26 (a_c (x_v 3) a_n)) (a_c (x_sub (x_v 5) x_i) a_n)))))))) (qss_one (z_ret x_b)) qss_nil))))) (qss_one (z_ret x_b))))⟩, fun K f fd F => F.bindsN fun _ _ _ _ _ _ us hl => match us, hl with | [_], _ => rfl, ⟨rfl, rfl⟩⟩
def N55 : List PySem.Str := ["self", "book", "torn"] -- Couples___init__
def b55 : WS := (wSeq (wExpr (wCallN 18 3 (wCons (wVar 1) (wCons (wVar 2) (wCons (wC (.int 0)) wNil))))) (wSeq (wAsg (wTup (wCons (wVar 1) (wCons (wVar 2) wNil))) (gTp 2 (gCns (gFl 0 "its_book" (wVar 0)) (gCns (gFl 0 "its_torn" (wVar 0)) gNl)))) (wSeq (wAsg (wTup (wCons (wLst (wCons (wC (.tup [.int 0, .int 0, .int 0, .int 0])) wNil)) (wCons (wDisp [((wC (.tup [.int 0, .int 0, .int 0, .int 0])), (wC .non))]) (wCons (wC .non) wNil)))) (gTp 3 (gCns (gFl 0 "its_line" (wVar 0)) (gCns (gFl 0 "its_from" (wVar 0)) (gCns (gFl 0 "its_couple" (wVar 0)) gNl))))) (wExpr (wMeth 56 1 0 "look" (wVar 0) wNil)))))
def e55 : Ent := ⟨3, 3, b55⟩
theorem sc55 : FnScope N55 (psOf d55) (He.DefD.scope d55) := ⟨rfl, rfl, rfl, by decide +kernel, rfl, by decide +kernel, by decide +kernel⟩
theorem ok55 : BodyOk LW PR d55 e55 := ⟨rfl, ⟨N55, rfl, sc55, fun w K mg base M G W f cdv A outer s H E ecd C3 C tk => by
    have hp : PassesOwn (model PR w) (A.deeper (envOfC (He.DefD.qual d55) (He.DefD.scope d55) s.heap.objs.size f cdv)) (envOfC (He.DefD.qual d55) (He.DefD.scope d55) s.heap.objs.size f cdv) (cxOf (CX PR w) PR w K mg base N55 (He.DefD.qual d55) (He.DefD.scope d55) f cdv A outer s H E).xe := passes_of rfl
    show PSs _ _ (tS (cq _ M G W) b55)
    exact (qss_cons (z_ex (x_f C tk 18 3 20 (a_c (x_v 1) (a_c (x_v 2) (a_c x_i a_n))))) (qss_cons (z_asg (qe_tup (a_c (x_v 1) (a_c (x_v 2) a_n))) (g_t C 2 (g_c (g_fl C 0 63 65 (x_v 0)) (g_c (g_fl C 0 63 66 (x_v 0)) g_n)))) (qss_cons (z_asg (qe_tup (a_c (qe_lst (a_c (x_con C 7) a_n)) (a_c (qe_disp C.hP C.hw C.hu (qps_cons (x_con C 7) x_n qps_nil) rfl rfl (by intro z; cases z) (by decide)) (a_c x_n a_n)))) (g_t C 3 (g_c (g_fl C 0 63 67 (x_v 0)) (g_c (g_fl C 0 63 68 (x_v 0)) (g_c (g_fl C 0 63 69 (x_v 0)) g_n))))) (qss_one (z_ex (x_m0 C tk 56 1 0 59 63 (x_v 0)))))))⟩, fun K f fd F => F.bindsN fun _ _ _ _ _ _ us hl => match us, hl with | [_, _, _], _ => rfl, ⟨rfl, rfl⟩⟩
def N56 : List PySem.Str := ["self", "at"] -- Couples_look
def b56 : WS := (wSeq (wAsg (wC (.int 0)) (gNm 1)) (wWhile (wAnd (wTst (wBin gLt (wVar 1) (wCB fLen (wCons (wFld 0 "its_line" (wVar 0)) wNil)))) (wTst (wBin fIs (wFld 0 "its_couple" (wVar 0)) (wC .non)))) (wSeq (wExpr (wMeth 57 2 0 "step" (wVar 0) (wCons (wBin fIx (wFld 0 "its_line" (wVar 0)) (wVar 1)) wNil))) (wAug 1 fIAdd (wC (.int 1))))))
def e56 : Ent := ⟨1, 2, b56⟩
theorem sc56 : FnScope N56 (psOf d56) (He.DefD.scope d56) := ⟨rfl, rfl, rfl, by decide +kernel, rfl, by decide +kernel, by decide +kernel⟩
theorem ok56 : BodyOk LW PR d56 e56 := ⟨rfl, ⟨N56, rfl, sc56, fun w K mg base M G W f cdv A outer s H E ecd C3 C tk => by
    have hp : PassesOwn (model PR w) (A.deeper (envOfC (He.DefD.qual d56) (He.DefD.scope d56) s.heap.objs.size f cdv)) (envOfC (He.DefD.qual d56) (He.DefD.scope d56) s.heap.objs.size f cdv) (cxOf (CX PR w) PR w K mg base N56 (He.DefD.qual d56) (He.DefD.scope d56) f cdv A outer s H E).xe := passes_of rfl
    show PSs _ _ (tS (cq _ M G W) b56)
    exact (qss_cons (z_set C 1 x_i) (qss_one (qs_while hp (qt_and (qw_and (t_cmp (o_lt C) (x_v 1) (x_cb C 70 qc_len boot_len (a_c (x_fl C 0 63 67 (x_v 0)) a_n))) (qw_and1 (t_cmp (o_is C) (x_fl C 0 63 69 (x_v 0)) x_n)))) (qss_cons (z_ex (x_m C tk 57 2 0 60 63 (x_v 0) (a_c (x_ix C (x_fl C 0 63 67 (x_v 0)) (x_v 1)) a_n))) (qss_one (z_aug C 1 x_i qp_iadd))))))⟩, fun K f fd F => F.bindsN fun _ _ _ _ _ _ us hl => match us, hl with | [_], _ => rfl, ⟨rfl, rfl⟩⟩
def N57 : List PySem.Str := ["self", "spot", "cell", "other"] -- Couples_step
def b57 : WS := (wFor (wIter (wCallN 15 1 (wCons (wFld 0 "its_book" (wVar 0)) wNil))) (gPt (.nm 2)) (wFor (wIter (wCallN 15 1 (wCons (wFld 0 "its_book" (wVar 0)) wNil))) (gPt (.nm 3)) (wIfS (wTst (wBin fIs (wFld 0 "its_couple" (wVar 0)) (wC .non))) (wExpr (wMeth 58 4 0 "meet" (wVar 0) (wCons (wVar 1) (wCons (wVar 2) (wCons (wVar 3) wNil))))) wNext)))
def e57 : Ent := ⟨2, 4, b57⟩
theorem sc57 : FnScope N57 (psOf d57) (He.DefD.scope d57) := ⟨rfl, rfl, rfl, by decide +kernel, rfl, by decide +kernel, by decide +kernel⟩
theorem ok57 : BodyOk LW PR d57 e57 := ⟨rfl, ⟨N57, rfl, sc57, fun w K mg base M G W f cdv A outer s H E ecd C3 C tk => by
    have hp : PassesOwn (model PR w) (A.deeper (envOfC (He.DefD.qual d57) (He.DefD.scope d57) s.heap.objs.size f cdv)) (envOfC (He.DefD.qual d57) (He.DefD.scope d57) s.heap.objs.size f cdv) (cxOf (CX PR w) PR w K mg base N57 (He.DefD.qual d57) (He.DefD.scope d57) f cdv A outer s H E).xe := passes_of rfl
    show PSs _ _ (tS (cq _ M G W) b57)
    exact (qss_one (z_for C hp (i_v (x_f C tk 15 1 17 (a_c (x_fl C 0 63 65 (x_v 0)) a_n))) (p_nm 2 C.nd) (qss_one (z_for C hp (i_v (x_f C tk 15 1 17 (a_c (x_fl C 0 63 65 (x_v 0)) a_n))) (p_nm 3 C.nd) (qss_one (qs_if (t_cmp (o_is C) (x_fl C 0 63 69 (x_v 0)) x_n) (qss_one (z_ex (x_m C tk 58 4 0 61 63 (x_v 0) (a_c (x_v 1) (a_c (x_v 2) (a_c (x_v 3) a_n)))))) qss_nil))))))⟩, fun K f fd F => F.bindsN fun _ _ _ _ _ _ us hl => match us, hl with | [_, _], _ => rfl, ⟨rfl, rfl⟩⟩
def N58 : List PySem.Str := ["self", "spot", "cell", "other", "later"] -- Couples_meet
def b58 : WS := (wSeq (wAsg (wCallN 20 5 (wCons (wFld 0 "its_book" (wVar 0)) (wCons (wFld 0 "its_torn" (wVar 0)) (wCons (wVar 1) (wCons (wVar 2) (wCons (wVar 3) wNil)))))) (gNm 4)) (wSeq (wIfS (wTst (wBin fIs (wVar 4) (wC .non))) wRetN wNext) (wIfS (wTst (wBin fEq (wVar 4) (wTup wNil))) (wAsg (wMeth 59 3 0 "tapes_to" (wVar 0) (wCons (wVar 1) (wCons (wTup (wCons (wVar 2) (wCons (wVar 3) wNil))) wNil))) (gFl 0 "its_couple" (wVar 0))) (wIfS (wTst (wBin (fInG true) (wVar 4) (wFld 0 "its_from" (wVar 0)))) (wSeq (wAsg (wTup (wCons (wVar 1) (wCons (wTup (wCons (wVar 2) (wCons (wVar 3) wNil))) wNil))) (gSb fSet (wFld 0 "its_from" (wVar 0)) (wVar 4))) (wExpr (wBM "list" fAppend (wFld 0 "its_line" (wVar 0)) (wCons (wVar 4) wNil)))) wNext))))
def e58 : Ent := ⟨4, 5, b58⟩
theorem sc58 : FnScope N58 (psOf d58) (He.DefD.scope d58) := ⟨rfl, rfl, rfl, by decide +kernel, rfl, by decide +kernel, by decide +kernel⟩
theorem ok58 : BodyOk LW PR d58 e58 := ⟨rfl, ⟨N58, rfl, sc58, fun w K mg base M G W f cdv A outer s H E ecd C3 C tk => by
    have hp : PassesOwn (model PR w) (A.deeper (envOfC (He.DefD.qual d58) (He.DefD.scope d58) s.heap.objs.size f cdv)) (envOfC (He.DefD.qual d58) (He.DefD.scope d58) s.heap.objs.size f cdv) (cxOf (CX PR w) PR w K mg base N58 (He.DefD.qual d58) (He.DefD.scope d58) f cdv A outer s H E).xe := passes_of rfl
    show PSs _ _ (tS (cq _ M G W) b58)
    exact (qss_cons (z_set C 4 (x_f C tk 20 5 23 (a_c (x_fl C 0 63 65 (x_v 0)) (a_c (x_fl C 0 63 66 (x_v 0)) (a_c (x_v 1) (a_c (x_v 2) (a_c (x_v 3) a_n))))))) (qss_cons (qs_if (t_cmp (o_is C) (x_v 4) x_n) (qss_one qs_retN) qss_nil) (qss_one (qs_if (t_cmp (o_eq C) (x_v 4) (qe_tup a_n)) (qss_one (z_asg (x_m C tk 59 3 0 62 63 (x_v 0) (a_c (x_v 1) (a_c (qe_tup (a_c (x_v 2) (a_c (x_v 3) a_n))) a_n))) (g_fl C 0 63 69 (x_v 0)))) (qss_one (qs_if (t_cmp (o_nin C) (x_v 4) (x_fl C 0 63 68 (x_v 0))) (qss_cons (z_asg (qe_tup (a_c (x_v 1) (a_c (qe_tup (a_c (x_v 2) (a_c (x_v 3) a_n))) a_n))) (g_sb C tk (x_fl C 0 63 68 (x_v 0)) (x_v 4))) (qss_one (z_ex (x_bm PySem.F.plainAttrs_list PySem.F.slot_list_append PySem.F.type_list_append qm_append (x_fl C 0 63 67 (x_v 0)) (a_c (x_v 4) a_n))))) qss_nil))))))⟩, fun K f fd F => F.bindsN fun _ _ _ _ _ _ us hl => match us, hl with | [_, _, _, _], _ => rfl, ⟨rfl, rfl⟩⟩
def N59 : List PySem.Str := ["self", "spot", "cells", "found", "ahead", "one", "other"] -- Couples_tapes_to
def b59 : WS := (wSeq (wAsg (wLst (wCons (wVar 2) wNil)) (gNm 3)) (wSeq (wWhile (wTst (wBin fIsNot (wBin fIx (wFld 0 "its_from" (wVar 0)) (wVar 1)) (wC .non))) (wSeq (wAsg (wBin fIx (wFld 0 "its_from" (wVar 0)) (wVar 1)) (gTp 2 (gCns (gNm 1) (gCns (gNm 4) gNl)))) (wExpr (wBM "list" fAppend (wVar 3) (wCons (wVar 4) wNil))))) (wRet (wTup (wCons (wCB fTuple (wCons (wComp (wIter (wUn fRev (wVar 3))) (.tp [(.nm 5), (.nm 6)]) wTrue (wVar 5) [5, 6]) wNil)) (wCons (wCB fTuple (wCons (wComp (wIter (wUn fRev (wVar 3))) (.tp [(.nm 5), (.nm 6)]) wTrue (wVar 6) [5, 6]) wNil)) wNil))))))
def e59 : Ent := ⟨3, 7, b59⟩
theorem sc59 : FnScope N59 (psOf d59) (He.DefD.scope d59) := ⟨rfl, rfl, rfl, by decide +kernel, rfl, by decide +kernel, by decide +kernel⟩
theorem ok59 : BodyOk LW PR d59 e59 := ⟨rfl, ⟨N59, rfl, sc59, fun w K mg base M G W f cdv A outer s H E ecd C3 C tk => by
    have hp : PassesOwn (model PR w) (A.deeper (envOfC (He.DefD.qual d59) (He.DefD.scope d59) s.heap.objs.size f cdv)) (envOfC (He.DefD.qual d59) (He.DefD.scope d59) s.heap.objs.size f cdv) (cxOf (CX PR w) PR w K mg base N59 (He.DefD.qual d59) (He.DefD.scope d59) f cdv A outer s H E).xe := passes_of rfl
    show PSs _ _ (tS (cq _ M G W) b59)
    exact (qss_cons (z_set C 3 (qe_lst (a_c (x_v 2) a_n))) (qss_cons (qs_while hp (t_cmp (o_isn C) (x_ix C (x_fl C 0 63 68 (x_v 0)) (x_v 1)) x_n) (qss_cons (z_asg (x_ix C (x_fl C 0 63 68 (x_v 0)) (x_v 1)) (g_t C 2 (g_c (g_nm C 1) (g_c (g_nm C 4) g_n)))) (qss_one (z_ex (x_bm PySem.F.plainAttrs_list PySem.F.slot_list_append PySem.F.type_list_append qm_append (x_v 3) (a_c (x_v 4) a_n)))))) (qss_one (z_ret (qe_tup (a_c (x_ct C 73 qc_tuple boot_tuple (a_c (x_lc C [("one", 5), ("other", 6)] (i_v (qe_rev (x_v 3))) (fun _ _ _ _ _ => by exact (p_t (C.blk _ _ _ _ _).calm (p_c (p_nm 5 (C.blk _ _ _ _ _).nd) (p_c (p_nm 6 (C.blk _ _ _ _ _).nd) p_n)))) (fun _ _ _ _ _ => by exact qts_nil) (fun _ _ _ _ _ => by exact (x_v 5))) a_n)) (a_c (x_ct C 73 qc_tuple boot_tuple (a_c (x_lc C [("one", 5), ("other", 6)] (i_v (qe_rev (x_v 3))) (fun _ _ _ _ _ => by exact (p_t (C.blk _ _ _ _ _).calm (p_c (p_nm 5 (C.blk _ _ _ _ _).nd) (p_c (p_nm 6 (C.blk _ _ _ _ _).nd) p_n)))) (fun _ _ _ _ _ => by exact qts_nil) (fun _ _ _ _ _ => by exact (x_v 6))) a_n)) a_n)))))))⟩, fun K f fd F => F.bindsN fun _ _ _ _ _ _ us hl => match us, hl with | [_, _, _], _ => rfl, ⟨rfl, rfl⟩⟩
end
def tb : List Ent := [e0, e1, e2, e3, e4, e5, e6, e7, e8, e9, e10, e11, e12, e13, e14, e15, e16, e17, e18, e19, e20, e21, e22, e23, e24, e25, e26, e27, e28, e29, e30, e31, e32, e33, e34, e35, e36, e37, e38, e39, e40, e41, e42, e43, e44, e45, e46, e47, e48, e49, e50, e51, e52, e53, e54, e55, e56, e57, e58, e59]
theorem bodies : BodiesOk LW PR LW.fn tb := .cons ok0 (.cons ok1 (.cons ok2 (.cons ok3 (.cons ok4 (.cons ok5 (.cons ok6 (.cons ok7 (.cons ok8 (.cons ok9 (.cons ok10 (.cons ok11 (.cons ok12 (.cons ok13 (.cons ok14 (.cons ok15 (.cons ok16 (.cons ok17 (.cons ok18 (.cons ok19 (.cons ok20 (.cons ok21 (.cons ok22 (.cons ok23 (.cons ok24 (.cons ok25 (.cons ok26 (.cons ok27 (.cons ok28 (.cons ok29 (.cons ok30 (.cons ok31 (.cons ok32 (.cons ok33 (.cons ok34 (.cons ok35 (.cons ok36 (.cons ok37 (.cons ok38 (.cons ok39 (.cons ok40 (.cons ok41 (.cons ok42 (.cons ok43 (.cons ok44 (.cons ok45 (.cons ok46 (.cons ok47 (.cons ok48 (.cons ok49 (.cons ok50 (.cons ok51 (.cons ok52 (.cons ok53 (.cons ok54 (.cons ok55 (.cons ok56 (.cons ok57 (.cons ok58 (.cons ok59 .nil)))))))))))))))))))))))))))))))))))))))))))))))))))))))))))
end Hd
set_option Elab.async false
set_option linter.all false
set_option maxRecDepth 100000
set_option maxHeartbeats 0
namespace Tb
open PySem PySem.Spec PyProof.Rows L2 Qz Hd
-- array_mem_dec: an operator on values
local macro_rules | `(tactic| array_mem_dec) => `(tactic| with_reducible first
  | exact fv_add | exact fv_sub | exact fv_le | exact fv_lt | exact fv_gt | exact fv_ge | exact fv_eqI | exact fv_eqS | exact fv_eqB | exact fv_is | exact fv_isn | exact fv_isB | exact fv_isnB | exact fv_neg
  | exact fv_revT | exact fa_abs | exact fa_int | exact fa_lenT | exact fa_max2
  | (apply fv_mod; decide) | (apply fv_div; decide) | (apply fv_ixT; with_unfolding_all rfl)
  | (apply fv_ne; array_mem_dec) | (apply fa_isiI; with_unfolding_all rfl) | (apply fa_isiB; with_unfolding_all rfl) | (apply fa_isiU; with_unfolding_all rfl) | (apply fa_isiS; with_unfolding_all rfl) | (apply fa_isiD; with_unfolding_all rfl) | (apply fa_isiUL; with_unfolding_all rfl) | assumption)
local macro_rules | `(tactic| sizeOf_list_dec) => `(tactic| assumption)
-- array_get_dec: what an expression, a test evaluates to
local macro_rules | `(tactic| array_get_dec) => `(tactic| with_reducible first
  | exact ev_c | (apply ev_var; with_unfolding_all rfl) | exact ea_nil
  | (apply ea_cons; · array_get_dec
     · array_get_dec)
  | (apply ev_bin; · array_get_dec
     · array_get_dec
     · array_mem_dec)
  | (apply ev_un; · array_get_dec
     · array_mem_dec)
  | (apply ev_tup; · array_get_dec
     · first | with_unfolding_all decide | with_unfolding_all exact Nat.le_of_ble_eq_true rfl)
  | (apply ev_cb; · array_get_dec
     · array_mem_dec)
  | (apply ev_call; · array_get_dec
     · sizeOf_list_dec
     · with_unfolding_all rfl)
  | (apply et_tst; array_get_dec)
  | (apply et_tru; · array_get_dec
     · exact tru_bl)
  | (apply et_not; array_get_dec)
  | assumption)
section
variable {m : Mm} {L : Nat} {b : Bk}
theorem sp0 (i : Int) : Fn (Lv tb (L + 1)) 0 [.int i] m (.bl true) :=
  (fn_by rfl rfl (r_ret (ev_andB (by array_get_dec) fun _ => ev_not (by array_get_dec) tru_bl) (.refl _))).to (by rfl)
local macro_rules | `(tactic| sizeOf_list_dec) => `(tactic| exact sp0 _)
theorem sp1 (t a b : Int) : Fn (Lv tb (L + 2)) 1 [.int t, .int a, .int b] m (.bl (decide (a ≤ t) && decide (t ≤ b))) :=
  fn_by rfl rfl (r_ret (ev_andB (k := true) (by array_get_dec) fun _ => ev_chn (by array_get_dec) (by array_get_dec) (by array_mem_dec) (fun _ => by array_get_dec) fun _ => by array_mem_dec) (.refl _))
local macro_rules | `(tactic| sizeOf_list_dec) => `(tactic| exact sp1 _ _ _)
theorem sp2 (xs : List D) (n : Int) : Fn (Lv tb (L + 1)) 2 [.tup xs, .int n] m (.bl (decide ((xs.length : Int) = n))) :=
  (fn_by rfl rfl (r_ret (ev_andB (by array_get_dec) fun _ => by array_get_dec) (.refl _))).to (by rfl)
theorem sp7 : Fn (Lv tb (L + 1)) 7 [b.d] m (.int 31) :=
  (fn_by rfl rfl (r_ret (by array_get_dec) (.refl _))).to (by rfl)
local macro_rules | `(tactic| sizeOf_list_dec) => `(tactic| exact sp7)
theorem sp8 (c : Int) : Fn (Lv tb (L + 3)) 8 [b.d, .int c] m (.bl (decide (0 ≤ c) && decide (c ≤ 31))) :=
  fn_by rfl rfl (r_ret (by array_get_dec) (.refl _))
local macro_rules | `(tactic| sizeOf_list_dec) => `(tactic| exact sp8 _)
theorem sp10 (c : Int) : Fn (Lv tb (L + 3)) 10 [b.d, .int c] m (.bl (decide (0 ≤ c) && decide (c ≤ 2 - 1))) :=
  fn_by rfl rfl (r_ret (by array_get_dec) (.refl _))
local macro_rules | `(tactic| sizeOf_list_dec) => `(tactic| exact sp10 _)
theorem sp12 (c : Int) : Fn (Lv tb (L + 2)) 12 [b.d, .int c] m (.bl (decide (c = 0 ∨ c = 31))) := by
  have h : Fn (Lv tb (L + 2)) 12 [b.d, .int c] m (.bl (xor false (decide (c ∈ [(0 : Int), 31])))) :=
    fn_by rfl rfl (r_ret (ev_bin (by array_get_dec) (Evd.to (by array_get_dec) (by rfl)) fv_inI) (.refl _))
  rw [show xor false (decide (c ∈ [(0 : Int), 31])) = decide (c = 0 ∨ c = 31) by simp] at h
  exact h
local macro_rules | `(tactic| sizeOf_list_dec) => `(tactic| exact sp12 _)
theorem ev_codes {ρ : Ev} {G : Gam} {i : Nat} (h : nth ρ i = some b.d) : Evd (wBin fIx (wVar i) (wC (.int 3))) G ρ m (.tup (b.codes.map Code.d)) :=
  ev_bin (ev_var h) ev_c (fv_ixT rfl)
theorem flt_codes (b : Bk) (c : Int) : (b.codes.map Code.d).filter (fun d => match d with | .tup (.int x :: _) => decide (x = c) | _ => false) = (b.codes.filter fun x => decide (x.cell = c)).map Code.d := by
  rw [List.filter_map]
  rfl
theorem sp11 (O : b.Ok) (c : Int) : Fn (Lv tb (L + 1)) 11 [b.d, .int c] m (match b.find c with | none => .non | some x => x.d) := by
  refine fn_by rfl rfl ?_
  refine r_setL (xs := (b.codes.filter fun x => decide (x.cell = c)).map Code.d) ?_ fun p hp => ?_
  · rw [← flt_codes]
    refine el_flt _ (ei_tup (ev_codes rfl)) True.intro ?_ fun x hx => ?_
    · rw [List.length_map]
      exact Nat.le_trans O.few (by decide)
    · obtain ⟨y, _, rfl⟩ := List.mem_map.mp hx
      exact ⟨_, rfl, Evt.to (by array_get_dec) (by rfl), by array_get_dec⟩
  · have e0 : (m.set p (.lst ((b.codes.filter fun x => decide (x.cell = c)).map Code.d))) p = some (.lst ((b.codes.filter fun x => decide (x.cell = c)).map Code.d)) := Mm.set_same
    have hf : b.find c = (b.codes.filter fun x => decide (x.cell = c)).head? := by
      unfold Bk.find
      rw [List.head?_filter]
    rw [hf]
    cases e : (b.codes.filter fun x => decide (x.cell = c)) with
    | nil =>
      rw [e] at e0
      exact r_ret (ev_ifd (k := false) (et_tru (ev_var rfl) (tru_lst e0)) (fun z => by cases z) fun _ => ev_c) (Sub.fresh hp)
    | cons x r =>
      rw [e] at e0
      exact r_ret (ev_ifd (k := true) (et_tru (ev_var rfl) (tru_lst e0)) (fun _ => ev_bin (ev_var rfl) ev_c (fv_ixL e0 (atI_nat (j := 0) rfl))) fun z => by cases z) (Sub.fresh hp)
local macro_rules | `(tactic| sizeOf_list_dec) => `(tactic| exact sp11 (by assumption) _)
theorem sp13 (O : b.Ok) (c : Int) {i : Int} (hi : Cs i) : Fn (Lv tb (L + 3)) 13 [b.d, .int c, .int i] m (stD (b.step c i)) := by
  refine fn_by rfl rfl ?_
  refine r_if (k := decide (c = 0 ∨ c = 31)) (by array_get_dec) (fun e => ?_) fun e => ?_
  · have h := of_decide_eq_true e
    rw [show b.step c i = some ((""  : Str), i) by unfold Bk.step; rw [if_pos h]]
    exact r_ret (Evd.to (by array_get_dec) (by rfl)) (.refl _)
  · have h := of_decide_eq_false e
    rw [show b.step c i = (b.find c).map fun c => (c.said i, c.turn i) by unfold Bk.step; rw [if_neg h]]
    refine r_set (ev_call (by array_get_dec) (sp11 O c)) ?_
    cases b.find c with
    | none => exact r_if (k := true) (et_tst (ev_bin (ev_var rfl) ev_c fv_is)) (fun _ => r_ret ev_c (.refl _)) fun z => by cases z
    | some x =>
      refine r_if (k := false) (et_tst (ev_bin (ev_var rfl) ev_c fv_is)) (fun z => by cases z) fun _ => ?_
      have e1 : atI [D.str x.s0, D.str x.s1] i = some (.str (x.said i)) := by rcases hi with rfl | rfl <;> rfl
      have e2 : atI [D.int x.t0, D.int x.t1] i = some (.int (x.turn i)) := by rcases hi with rfl | rfl <;> rfl
      refine r_set (x := .str (x.said i)) (ev_bin (ev_bin (ev_var rfl) ev_c (fv_ixT rfl)) (ev_var rfl) (fv_ixT e1)) ?_
      exact r_ret (ev_tup (ea_cons (ev_ifd (k := false) (et_tst (ev_bin (ev_var rfl) ev_c fv_is)) (fun z => by cases z) fun _ => ev_var rfl) (ea_cons (ev_bin (ev_bin (ev_var rfl) ev_c (fv_ixT rfl)) (ev_var rfl) (fv_ixT e2)) ea_nil)) (Nat.le_of_ble_eq_true rfl)) (.refl _)
theorem sp15 (O : b.Ok) : Fn (Lv tb (L + 4)) 15 [b.d] m (.tup (b.goods.map .int)) := by
  refine fn_by rfl rfl (r_ret (ev_cbl (ea_one ?_) fun p m' e => fa_tupL e) (.refl _))
  have e : b.goods.map D.int = ((List.range (32 : Int).toNat).map fun i => D.int (0 + (i : Nat))).filter fun d => match d with | .int c => (b.step c 0).isSome | _ => false := by
    unfold Bk.goods
    rw [List.filter_map, List.map_map, List.filter_map]
    refine congr (congrArg List.map (funext fun i => ?_)) (congrArg (fun q => List.filter q (List.range 32)) (funext fun i => ?_))
    · show D.int (i : Int) = D.int (0 + (i : Int)); rw [Int.zero_add]
    · show (b.step (i : Int) 0).isSome = (b.step (0 + (i : Int)) 0).isSome; rw [Int.zero_add]
  rw [e]
  refine el_flt _ (ei_r1 (j := 32) (Evd.to (by array_get_dec) (by rfl) |> fun h => ea_cons h ea_nil)) True.intro (by rw [List.length_map, List.length_range]; decide) fun x hx => ?_
  obtain ⟨k, _, rfl⟩ := List.mem_map.mp hx
  refine ⟨_, rfl, ?_, ev_var rfl⟩
  refine Evt.to (et_tst (ev_bin (ev_call (by array_get_dec) (sp13 O (0 + (k : Int)) (.inl rfl))) ev_c fv_isn)) ?_
  rw [stD_non, Bool.not_not]
theorem sp16 (c : Int) : Fn (Lv tb (L + 1)) 16 [.int c] m (.int (holes c)) := by
  refine fn_by rfl rfl (r_ret (ev_cbl (ea_one ?_) fun p m' e => fa_sumL (ns := pows.map fun p => c / p % 2) e) (.refl _))
  rw [List.map_map]
  have h : pows.map (D.int ∘ fun p => c / p % 2) = (pows.map D.int).map fun d => match d with | .int p => .int (c / p % 2) | _ => .non := by rw [List.map_map]; rfl
  rw [h]
  refine el_map _ (ei_tup ev_c) True.intro (by decide) fun x hx => ?_
  obtain ⟨p, hp, rfl⟩ := List.mem_map.mp hx
  have hp2 : 0 < p ∧ p < 1073741824 := by
    simp only [pows, List.mem_cons, List.not_mem_nil, or_false] at hp
    omega
  exact ⟨_, rfl, ev_bin (ev_bin (ev_var rfl) (ev_var rfl) (fv_div hp2)) ev_c (fv_mod (by decide))⟩
theorem sp17 (c d : Int) : Fn (Lv tb (L + 1)) 17 [.int c, .int d] m (.int (joined c d)) := by
  refine fn_by rfl rfl (r_ret (ev_cbl (ea_one ?_) fun p m' e => fa_sumL (ns := pows.filter fun p => decide (c / p % 2 = 1) || decide (d / p % 2 = 1)) e) (.refl _))
  have h : (pows.filter fun p => decide (c / p % 2 = 1) || decide (d / p % 2 = 1)).map D.int = (pows.map D.int).filter fun x => match x with | .int p => decide (c / p % 2 = 1) || decide (d / p % 2 = 1) | _ => false := by rw [List.filter_map]; rfl
  rw [h]
  refine el_flt _ (ei_tup ev_c) True.intro (by decide) fun x hx => ?_
  obtain ⟨p, hp, rfl⟩ := List.mem_map.mp hx
  have hp2 : 0 < p ∧ p < 1073741824 := by
    simp only [pows, List.mem_cons, List.not_mem_nil, or_false] at hp
    omega
  exact ⟨_, rfl, et_or (et_tst (ev_bin (ev_bin (ev_bin (ev_var rfl) (ev_var rfl) (fv_div hp2)) ev_c (fv_mod (by decide))) ev_c fv_eqI)) fun _ => et_tst (ev_bin (ev_bin (ev_bin (ev_var rfl) (ev_var rfl) (fv_div hp2)) ev_c (fv_mod (by decide))) ev_c fv_eqI), ev_var rfl⟩
local macro_rules | `(tactic| sizeOf_list_dec) => `(tactic| first | exact sp15 (by assumption) | exact sp16 _ | exact sp17 _ _)
theorem sp19 (c d : Int) : Fn (Lv tb (L + 2)) 19 [.int c, .int d] m (.tup [.int (cost c d).1, .int (cost c d).2]) := by
  refine fn_by rfl rfl (r_set (x := .int (holes (joined c d))) (by array_get_dec) ?_)
  exact r_ret (Evd.to (by array_get_dec) (by rfl)) (.refl _)
local macro_rules | `(tactic| sizeOf_list_dec) => `(tactic| exact sp19 _ _)
end
end Tb
set_option Elab.async false
set_option linter.all false
set_option maxRecDepth 100000
set_option maxHeartbeats 0
namespace Tb
open PySem PySem.Spec PyProof.Rows L2 Qz Hd
-- array_mem_dec: an operator on values
local macro_rules | `(tactic| array_mem_dec) => `(tactic| with_reducible first
  | exact fv_add | exact fv_sub | exact fv_le | exact fv_lt | exact fv_gt | exact fv_ge | exact fv_eqI | exact fv_eqS | exact fv_eqB | exact fv_is | exact fv_isn | exact fv_isB | exact fv_isnB | exact fv_neg
  | exact fv_revT | exact fa_abs | exact fa_int | exact fa_lenT | exact fa_max2
  | (apply fv_mod; decide) | (apply fv_div; decide) | (apply fv_ixT; with_unfolding_all rfl)
  | (apply fv_ne; array_mem_dec) | (apply fa_isiI; with_unfolding_all rfl) | (apply fa_isiB; with_unfolding_all rfl) | (apply fa_isiU; with_unfolding_all rfl) | (apply fa_isiS; with_unfolding_all rfl) | (apply fa_isiD; with_unfolding_all rfl) | (apply fa_isiUL; with_unfolding_all rfl) | assumption)
local macro_rules | `(tactic| sizeOf_list_dec) => `(tactic| assumption)
-- array_get_dec: what an expression, a test evaluates to
local macro_rules | `(tactic| array_get_dec) => `(tactic| with_reducible first
  | exact ev_c | (apply ev_var; with_unfolding_all rfl) | exact ea_nil
  | (apply ea_cons; · array_get_dec
     · array_get_dec)
  | (apply ev_bin; · array_get_dec
     · array_get_dec
     · array_mem_dec)
  | (apply ev_un; · array_get_dec
     · array_mem_dec)
  | (apply ev_tup; · array_get_dec
     · first | with_unfolding_all decide | with_unfolding_all exact Nat.le_of_ble_eq_true rfl)
  | (apply ev_cb; · array_get_dec
     · array_mem_dec)
  | (apply ev_call; · array_get_dec
     · sizeOf_list_dec
     · with_unfolding_all rfl)
  | (apply et_tst; array_get_dec)
  | (apply et_tru; · array_get_dec
     · exact tru_bl)
  | (apply et_not; array_get_dec)
  | assumption)
local macro_rules | `(tactic| sizeOf_list_dec) => `(tactic| first | exact sp0 _ | exact sp1 _ _ _ | exact sp2 _ _ | exact sp7 | exact sp8 _ | exact sp10 _ | exact sp12 _ | exact sp11 (by assumption) _ | exact sp13 (by assumption) _ (by assumption) | exact sp15 (by assumption) | exact sp16 _ | exact sp17 _ _ | exact sp19 _ _ | assumption)
section
variable {m : Mm} {L : Nat} {b : Bk}
abbrev iD (xs : List Int) : D := .tup (xs.map .int)
theorem ix_ints {xs : List Int} {i : Nat} {x : D} (h : (xs.map D.int)[i]? = some x) : ∃ c, xs[i]? = some c ∧ x = .int c := by
  rw [List.getElem?_map] at h
  cases e : xs[i]? with
  | none => rw [e] at h; cases h
  | some c => rw [e] at h; cases h; exact ⟨c, rfl, rfl⟩
theorem sp14 (O : b.Ok) (tape : List Int) {i : Int} (hi : Cs i) (hz : tape.length ≤ 1000000) : Fn (Lv tb (L + 4)) 14 [b.d, iD tape, .int i] m (stD (b.read tape i)) := by
  refine GFn.fn (fn_gor rfl rfl ?_)
  refine g_setL (el_lst ea_nil (by decide)) fun p hp => ?_
  refine g_seq (Q1 := fun ρ' m' => ∃ ys j x4 x5, ρ' = [some b.d, some (iD tape), some (.int j), some (.ref p), x4, x5] ∧ m' = m.set p (.lst (ys.map .str)) ∧ b.rdP tape i = some (ys, j)) ?_ ?_
  · refine g_for (fun k ρ' m' => ∃ ys j x4 x5, ρ' = [some b.d, some (iD tape), some (.int j), some (.ref p), x4, x5] ∧ m' = m.set p (.lst (ys.map .str)) ∧ b.rdP (tape.take k) i = some (ys, j)) (ei_tup (ev_var rfl)) ⟨[], i, none, none, rfl, rfl, rfl⟩ (fun _ _ _ _ => True.intro) ?_ ?_
    · rintro k ρ' m' x ⟨ys, j, x4, x5, rfl, rfl, hr⟩ hx
      obtain ⟨c, hc, rfl⟩ := ix_ints hx
      obtain ⟨hj, hl, hy⟩ := O.rdP _ _ _ hi (fun y hy => by cases hy) _ _ hr
      refine ⟨_, rfl, ?_⟩
      refine g_set (ev_call (by array_get_dec) (sp13 O c hj)) ?_
      have ht := rdP_take b (i0 := i) hc
      rw [hr] at ht
      cases e : b.step c j with
      | none =>
        refine g_ifr (k := true) (et_tst (ev_bin (ev_var rfl) ev_c fv_is)) (fun _ => g_ret ev_c ?_) fun z => by cases z
        have hf : b.rdP (tape.take (k + 1)) i = none := by rw [ht]; unfold rdS; rw [Option.bind_some, e]; rfl
        rw [rdP_fail b hf]
        exact rd_ok (Sub.fresh hp)
      | some r =>
        obtain ⟨s, j2⟩ := r
        refine g_ifr (k := false) (et_tst (ev_bin (ev_var rfl) ev_c fv_is)) (fun z => by cases z) fun _ => ?_
        have e0 : (m.set p (.lst (ys.map .str))) p = some (.lst (ys.map .str)) := Mm.set_same
        refine g_appends (ev_var rfl) (ev_bin (ev_var rfl) ev_c (fv_ixT (v := .str s) rfl)) e0 ?_ ?_
        · rw [List.length_map, hl, List.length_take, sizeLine_eq, List.length_nil]
          omega
        · refine g_set1 (ev_bin (ev_var rfl) ev_c (fv_ixT (v := .int j2) rfl)) ?_
          exact ⟨ys ++ [s], j2, _, _, rfl, by rw [Mm.set_set, List.map_append]; rfl, by rw [ht]; unfold rdS; rw [Option.bind_some, e]; rfl⟩
    · rintro ρ' m' ⟨ys, j, x4, x5, h1, h2, h3⟩
      rw [List.length_map, List.take_length] at h3
      exact ⟨ys, j, x4, x5, h1, h2, h3⟩
  · rintro ρ' m' ⟨ys, j, x4, x5, rfl, rfl, hr⟩
    refine ⟨_, .refl _, ?_⟩
    obtain ⟨hj, hl, hy⟩ := O.rdP _ _ _ hi (fun y hy => by cases hy) _ _ hr
    have e1 : b.read tape i = some (catS ys, j) := by rw [← rdP_read, hr]; rfl
    rw [e1]
    refine g_ret (ev_tup (ea_cons ?_ (ea_cons (ev_var rfl) ea_nil)) (Nat.le_of_ble_eq_true rfl)) (rd_ok (Sub.fresh hp))
    intro Z P h
    refine ⟨rfl, ys, Mm.set_same, ?_, _, .refl _, ?_⟩
    · have := sum_le ys hy
      have e2 : (("" : Str)).length = 0 := by rw [s_nil]; rfl
      show (ys.map (·.length)).sum + ys.length * (("" : Str)).length ≤ 16777216
      rw [e2, Nat.mul_zero, Nat.add_zero]
      have h3 := hl
      rw [List.length_nil] at h3
      omega
    · rw [tjoin_cat]; exact h
end
end Tb
set_option Elab.async false
set_option linter.all false
set_option maxRecDepth 100000
set_option maxHeartbeats 0
namespace Tb
open PySem PySem.Spec PyProof.Rows L2 Qz Hd
-- array_mem_dec: an operator on values
local macro_rules | `(tactic| array_mem_dec) => `(tactic| with_reducible first
  | exact fv_add | exact fv_sub | exact fv_le | exact fv_lt | exact fv_gt | exact fv_ge | exact fv_eqI | exact fv_eqS | exact fv_eqB | exact fv_is | exact fv_isn | exact fv_isB | exact fv_isnB | exact fv_neg
  | exact fv_revT | exact fa_abs | exact fa_int | exact fa_lenT | exact fa_max2
  | (apply fv_mod; decide) | (apply fv_div; decide) | (apply fv_ixT; with_unfolding_all rfl)
  | (apply fv_ne; array_mem_dec) | (apply fa_isiI; with_unfolding_all rfl) | (apply fa_isiB; with_unfolding_all rfl) | (apply fa_isiU; with_unfolding_all rfl) | (apply fa_isiS; with_unfolding_all rfl) | (apply fa_isiD; with_unfolding_all rfl) | (apply fa_isiUL; with_unfolding_all rfl) | assumption)
local macro_rules | `(tactic| sizeOf_list_dec) => `(tactic| assumption)
-- array_get_dec: what an expression, a test evaluates to
local macro_rules | `(tactic| array_get_dec) => `(tactic| with_reducible first
  | exact ev_c | (apply ev_var; with_unfolding_all rfl) | exact ea_nil
  | (apply ea_cons; · array_get_dec
     · array_get_dec)
  | (apply ev_bin; · array_get_dec
     · array_get_dec
     · array_mem_dec)
  | (apply ev_un; · array_get_dec
     · array_mem_dec)
  | (apply ev_tup; · array_get_dec
     · first | with_unfolding_all decide | with_unfolding_all exact Nat.le_of_ble_eq_true rfl)
  | (apply ev_cb; · array_get_dec
     · array_mem_dec)
  | (apply ev_call; · array_get_dec
     · sizeOf_list_dec
     · with_unfolding_all rfl)
  | (apply et_tst; array_get_dec)
  | (apply et_tru; · array_get_dec
     · exact tru_bl)
  | (apply et_not; array_get_dec)
  | assumption)
local macro_rules | `(tactic| sizeOf_list_dec) => `(tactic| first | exact sp0 _ | exact sp1 _ _ _ | exact sp2 _ _ | exact sp7 | exact sp8 _ | exact sp10 _ | exact sp12 _ | exact sp11 (by assumption) _ | exact sp13 (by assumption) _ (by assumption) | exact sp15 (by assumption) | exact sp16 _ | exact sp17 _ _ | exact sp19 _ _ | assumption)
section
variable {m : Mm} {L : Nat} {b : Bk}
theorem sp18 {t : Int} (h0 : 0 ≤ t) (h9 : t ≤ 9) : Fn (Lv tb (L + 4)) 18 [b.d, .int t, .int 0] m .non := by
  refine GFn.fn (fn_go (Q := fun _ m' => m' = m) rfl rfl ?_ fun ρ' m' e P Z h => by subst e; exact ⟨_, .refl _, h⟩)
  refine g_ifr (k := false) (Evt.to (et_not (et_tru (by array_get_dec) tru_bl)) (by simp [h0, h9])) (fun z => by cases z) fun _ => ?_
  exact g_if (k := false) (Evt.to (et_not (et_tru (by array_get_dec) tru_bl)) (by decide)) (fun z => by cases z) fun _ => g_next rfl
local macro_rules | `(tactic| sizeOf_list_dec) => `(tactic| exact sp18 (by assumption) (by assumption))
theorem sp20 (O : b.Ok) {t : Int} {s : Spot} {c d : Int} (hc : (b.step c 0).isSome = true) (hd : (b.step d 0).isSome = true) (h1 : Cs s.1) (h2 : Cs s.2.1) : Fn (Lv tb (L + 4)) 20 [b.d, .int t, s.d, .int c, .int d] m (Bh.d (b.behind t s c d)) := by
  refine GFn.fn (fn_gor rfl rfl ?_)
  refine g_tg (x := .tup [.int (cost c d).1, .int (cost c d).2]) (by array_get_dec) (fun P h => ⟨rfl, h⟩) ?_
  refine g_tg (x := .tup [.int (s.2.2.1 + (cost c d).1), .int (s.2.2.2 + (cost c d).2)]) (by array_get_dec) (fun P h => ⟨rfl, h⟩) ?_
  refine g_ifr (k := decide (t < imax (s.2.2.1 + (cost c d).1) (s.2.2.2 + (cost c d).2))) (Evt.to (by array_get_dec) (by rfl)) (fun e => ?_) fun e => ?_
  · have e2 : b.behind t s c d = .far := by unfold Bk.behind; rw [if_pos (of_decide_eq_true e)]
    rw [e2]
    exact g_ret ev_c (rd_ok (.refl _))
  · obtain ⟨⟨x, i⟩, ex⟩ := Option.isSome_iff_exists.mp (Bk.step_some (j := s.1) hc)
    obtain ⟨⟨y, j⟩, ey⟩ := Option.isSome_iff_exists.mp (Bk.step_some (j := s.2.1) hd)
    have e2 : b.behind t s c d = if x = y then .to (i, j, s.2.2.1 + (cost c d).1, s.2.2.2 + (cost c d).2) else .unlike := by
      unfold Bk.behind
      rw [if_neg (of_decide_eq_false e), ex, ey]
    rw [e2]
    have s1 := sp13 (m := m) (L := L) O c h1
    have s2 := sp13 (m := m) (L := L) O d h2
    rw [ex] at s1
    rw [ey] at s2
    refine g_tg (x := .tup [.tup [.str x, .int i], .tup [.str y, .int j]]) (by array_get_dec) (fun P h => ⟨rfl, ⟨rfl, ⟨rfl, h⟩⟩⟩) ?_
    refine g_ret ?_ (rd_ok (.refl _))
    refine ev_ifd (k := decide (x = y)) (by array_get_dec) (fun q => ?_) fun q => ?_
    · rw [if_pos (of_decide_eq_true q)]
      exact Evd.to (by array_get_dec) (by rfl)
    · rw [if_neg (of_decide_eq_false q)]
      exact Evd.to (by array_get_dec) (by rfl)
end
end Tb
set_option Elab.async false
set_option linter.all false
set_option maxRecDepth 100000
set_option maxHeartbeats 0
namespace Tb
open PySem PySem.Spec PyProof.Rows L2 Qz Hd
-- array_mem_dec: an operator on values
local macro_rules | `(tactic| array_mem_dec) => `(tactic| with_reducible first
  | exact fv_add | exact fv_sub | exact fv_le | exact fv_lt | exact fv_gt | exact fv_ge | exact fv_eqI | exact fv_eqS | exact fv_eqB | exact fv_is | exact fv_isn | exact fv_isB | exact fv_isnB | exact fv_neg
  | exact fv_revT | exact fa_abs | exact fa_int | exact fa_lenT | exact fa_max2
  | (apply fv_mod; decide) | (apply fv_div; decide) | (apply fv_ixT; with_unfolding_all rfl)
  | (apply fv_ne; array_mem_dec) | (apply fa_isiI; with_unfolding_all rfl) | (apply fa_isiB; with_unfolding_all rfl) | (apply fa_isiU; with_unfolding_all rfl) | (apply fa_isiS; with_unfolding_all rfl) | (apply fa_isiD; with_unfolding_all rfl) | (apply fa_isiUL; with_unfolding_all rfl) | assumption)
local macro_rules | `(tactic| sizeOf_list_dec) => `(tactic| assumption)
-- array_get_dec: what an expression, a test evaluates to
local macro_rules | `(tactic| array_get_dec) => `(tactic| with_reducible first
  | exact ev_c | (apply ev_var; with_unfolding_all rfl) | exact ea_nil
  | (apply ea_cons; · array_get_dec
     · array_get_dec)
  | (apply ev_bin; · array_get_dec
     · array_get_dec
     · array_mem_dec)
  | (apply ev_un; · array_get_dec
     · array_mem_dec)
  | (apply ev_tup; · array_get_dec
     · first | with_unfolding_all decide | with_unfolding_all exact Nat.le_of_ble_eq_true rfl)
  | (apply ev_cb; · array_get_dec
     · array_mem_dec)
  | (apply ev_call; · array_get_dec
     · sizeOf_list_dec
     · with_unfolding_all rfl)
  | (apply et_tst; array_get_dec)
  | (apply et_tru; · array_get_dec
     · exact tru_bl)
  | (apply et_not; array_get_dec)
  | assumption)
local macro_rules | `(tactic| sizeOf_list_dec) => `(tactic| first | exact sp0 _ | exact sp1 _ _ _ | exact sp2 _ _ | exact sp7 | exact sp8 _ | exact sp10 _ | exact sp12 _ | exact sp11 (by assumption) _ | exact sp13 (by assumption) _ (by assumption) | exact sp15 (by assumption) | exact sp16 _ | exact sp17 _ _ | exact sp19 _ _ | exact sp18 (by assumption) (by assumption) | assumption)
section
variable {m : Mm} {L : Nat} {b : Bk}
abbrev cellB (c : Int) : Bool := decide (0 ≤ c) && decide (c ≤ 31)
abbrev Sz (n : Nat) : Prop := n ≤ 1000000
theorem Sz.le {n : Nat} (h : Sz n) : n ≤ sizeLine := by rw [sizeLine_eq]; omega
theorem sp9 (xs : List Int) (hz : Sz xs.length) : Fn (Lv tb (L + 4)) 9 [b.d, iD xs] m (.bl (xs.all cellB)) := by
  refine fn_by rfl rfl (r_ret (Evd.to (ev_andB (by array_get_dec) fun _ => ev_cbl (ea_one (el_mapA .int .bl cellB (ei_tup (ev_var rfl)) True.intro hz.le fun x hx => ⟨_, rfl, by array_get_dec⟩)) fun p m' e => fa_allL e) ?_) (.refl _))
  rw [List.all_map]
  rfl
theorem zip_ints (xs ys : List Int) : ((xs.map D.int).zip (ys.map D.int)).map (fun p => D.tup [p.1, p.2]) = (xs.zip ys).map fun p => D.tup [.int p.1, .int p.2] := by
  rw [List.zip_map, List.map_map]
  rfl
theorem ei_zipI {G : Gam} {ρ : Ev} {a : WA} {xs ys : List Int} (ha : Eva a G ρ m [iD xs, iD ys]) : Evi (wZip a) G ρ m ((xs.zip ys).map fun p => D.tup [.int p.1, .int p.2]) (fun _ => True) := by
  have h := ei_zipT ha
  rwa [zip_ints] at h
theorem zip_le (xs ys : List Int) (hz : Sz xs.length) : Sz (xs.zip ys).length := by rw [List.length_zip]; exact Nat.le_trans (Nat.min_le_left _ _) hz
def meet (xs ys : List Int) : List Int := (xs.zip ys).map fun p => joined p.1 p.2
theorem sp24 (xs ys : List Int) (hz : Sz xs.length) : Fn (Lv tb (L + 2)) 24 [iD xs, iD ys] m (iD (meet xs ys)) := by
  refine fn_by rfl rfl (r_ret (ev_cbl (ea_one (el_mapA _ .int (fun p : Int × Int => joined p.1 p.2) (ei_zipI (by array_get_dec)) True.intro (zip_le xs ys hz).le fun x hx => ⟨_, rfl, by array_get_dec⟩)) fun p m' e => fa_tupL e) (.refl _))
def costs (xs ys : List Int) : List (Int × Int) := (xs.zip ys).map fun p => cost p.1 p.2
def tornB (xs ys : List Int) : Int × Int := (((costs xs ys).map (·.1)).sum, ((costs xs ys).map (·.2)).sum)
abbrev pD (q : Int × Int) : D := .tup [.int q.1, .int q.2]
theorem costs_len (xs ys : List Int) (hz : Sz xs.length) : Sz (costs xs ys).length := by unfold costs; rw [List.length_map]; exact zip_le xs ys hz
theorem sp25 (xs ys : List Int) (hz : Sz xs.length) : Fn (Lv tb (L + 3)) 25 [iD xs, iD ys] m (pD (tornB xs ys)) := by
  refine fn_by rfl rfl (r_setL (xs := (costs xs ys).map pD) (el_mapA _ pD (fun p : Int × Int => cost p.1 p.2) (ei_zipI (by array_get_dec)) True.intro (zip_le xs ys hz).le fun x hx => ⟨_, rfl, by array_get_dec⟩) fun p hp => ?_)
  have e0 : (m.set p (.lst ((costs xs ys).map pD))) p = some (.lst ((costs xs ys).map pD)) := Mm.set_same
  refine r_ret (ev_tup (ea_cons (ev_cbl (ea_one (el_mapA pD .int (fun q : Int × Int => q.1) (ei_lst (ev_var rfl) e0) e0 (costs_len xs ys hz).le fun x hx => ⟨_, rfl, ev_var rfl⟩)) fun p m' e => fa_sumL e) (ea_cons (ev_cbl (ea_one (el_mapA pD .int (fun q : Int × Int => q.2) (ei_lst (ev_var rfl) e0) e0 (costs_len xs ys hz).le fun x hx => ⟨_, rfl, ev_var rfl⟩)) fun p m' e => fa_sumL e) ea_nil)) (Nat.le_of_ble_eq_true rfl)) (Sub.fresh hp)
/-- two tapes of unlike texts that come to one -/
def cpB (b : Bk) (t : Int) (xs ys : List Int) : Bool := xs.all cellB && ys.all cellB && decide (xs.length = ys.length) && match b.read xs 0, b.read ys 0 with
  | some x, some y => !decide (x.1 = y.1) && decide (max (tornB xs ys).1 (tornB xs ys).2 ≤ t)
  | _, _ => false
abbrev cpD (xs ys : List Int) : D := .tup [iD xs, iD ys]
theorem sp26 (O : b.Ok) {t : Int} (h0 : 0 ≤ t) (h9 : t ≤ 9) (xs ys : List Int) (hx : Sz xs.length) (hy : Sz ys.length) : Fn (Lv tb (L + 5)) 26 [b.d, .int t, cpD xs ys] m (.bl (cpB b t xs ys)) := by
  refine GFn.fn (fn_gor rfl rfl ?_)
  refine g_exs (by array_get_dec) ?_
  refine g_ifr (k := !(xs.all cellB && ys.all cellB) || !decide (xs.length = ys.length)) (Evt.to (et_or (et_not (et_tru (by array_get_dec) tru_bl)) fun _ => et_or (et_not (et_tru (ev_cbl (ea_one (el_mapA iD .bl (fun zs => zs.all cellB) (xs := [xs, ys]) (ei_tup (ev_var rfl)) True.intro (Nat.le_of_ble_eq_true rfl) fun x h => ⟨_, rfl, ev_call (by array_get_dec) (sp9 x (by
    rcases List.mem_cons.mp h with rfl | h
    · exact hx
    · rw [List.mem_singleton.mp h]; exact hy))⟩)) fun p m' e => fa_allL e) tru_bl)) fun _ => by array_get_dec) ?_) (fun e => ?_) (fun e => ?_)
  · rw [List.length_map, List.length_map]
    show (!true || (!((xs.all cellB) && ((ys.all cellB) && true)) || !decide ((xs.length : Int) = (ys.length : Int)))) = _
    rw [Bool.and_true]
    have : decide ((xs.length : Int) = (ys.length : Int)) = decide (xs.length = ys.length) := decide_eq_decide.mpr Int.ofNat_inj
    rw [this]
    rfl
  · refine g_ret ev_c ?_
    have : cpB b t xs ys = false := by
      unfold cpB
      cases h1 : xs.all cellB <;> cases h2 : ys.all cellB <;> cases h3 : decide (xs.length = ys.length) <;> simp_all
    rw [this]
    exact rd_ok (.refl _)
  · have e1 : xs.all cellB = true ∧ ys.all cellB = true ∧ decide (xs.length = ys.length) = true := by
      cases h1 : xs.all cellB <;> cases h2 : ys.all cellB <;> cases h3 : decide (xs.length = ys.length) <;> simp_all
    have e2 : cpB b t xs ys = match b.read xs 0, b.read ys 0 with
      | some x, some y => !decide (x.1 = y.1) && decide (max (tornB xs ys).1 (tornB xs ys).2 ≤ t)
      | _, _ => false := by unfold cpB; rw [e1.1, e1.2.1, e1.2.2]; rfl
    rw [e2]
    have s1 := sp14 (m := m) (L := L) O xs (i := 0) (.inl rfl) hx
    have s2 := sp14 (m := m) (L := L) O ys (i := 0) (.inl rfl) hy
    refine g_tg (x := .tup [stD (b.read xs 0), stD (b.read ys 0)]) (ev_tup (ea_cons (ev_call (by array_get_dec) s1) (ea_cons (ev_call (by array_get_dec) s2) ea_nil)) (Nat.le_of_ble_eq_true rfl)) (fun P h => ⟨rfl, h⟩) ?_
    cases q1 : b.read xs 0 with
    | none => exact g_ifr (k := true) (Evt.to (et_or (k := true) (l := false) (et_tst (ev_bin (ev_var rfl) ev_c fv_is)) fun z => by cases z) rfl) (fun _ => g_ret ev_c (rd_ok (.refl _))) fun z => by cases z
    | some x =>
      cases q2 : b.read ys 0 with
      | none => exact g_ifr (k := true) (Evt.to (et_or (k := false) (et_tst (ev_bin (ev_var rfl) ev_c fv_is)) fun _ => et_or (k := true) (l := false) (et_tst (ev_bin (ev_var rfl) ev_c fv_is)) fun z => by cases z) rfl) (fun _ => g_ret ev_c (rd_ok (.refl _))) fun z => by cases z
      | some y =>
        obtain ⟨x1, x2⟩ := x
        obtain ⟨y1, y2⟩ := y
        refine g_ifr (k := decide (x1 = y1)) (Evt.to (et_or (k := false) (et_tst (ev_bin (ev_var rfl) ev_c fv_is)) fun _ => et_or (k := false) (l := decide (x1 = y1)) (et_tst (ev_bin (ev_var rfl) ev_c fv_is)) fun _ => by array_get_dec) rfl) (fun e => ?_) (fun e => ?_)
        · refine g_ret ev_c ?_
          show ∀ P Z, Rd (.bl (!decide (x1 = y1) && _)) m P Z → _
          rw [e]
          exact rd_ok (.refl _)
        · show Go _ _ _ _ _ _ (Rd (.bl (!decide (x1 = y1) && _)) m)
          rw [e]
          refine g_ret (ev_bin (ev_cb (ea_cons (ev_call (by array_get_dec) (sp25 xs ys hx)) ea_nil) (fa_maxT (n := (tornB xs ys).1) (ns := [(tornB xs ys).2]))) (ev_var rfl) fv_le) (rd_ok (.refl _))
/-- what is no tuple of two -/
theorem sp2n {x : D} {T : Ty} (n : Int) (h : tyD m x T) (hT : T ≠ .tuple) : Fn (Lv tb (L + 1)) 2 [x, .int n] m (.bl false) := by
  have e : subTy T .tuple = false := by cases T <;> first | rfl | exact absurd rfl hT
  refine fn_by rfl rfl (r_ret (Evd.to (ev_andB (k := false) (l := false) (ev_cb (by array_get_dec) ?_) fun z => by cases z) rfl) (.refl _))
  have := fa_isiU (m := m) (x := x) h
  rwa [e] at this
theorem sp26n {t : Int} (h0 : 0 ≤ t) (h9 : t ≤ 9) {x : D} (h : Fn (Lv tb (L + 4)) 2 [x, .int 2] m (.bl false)) : Fn (Lv tb (L + 5)) 26 [b.d, .int t, x] m (.bl false) := by
  refine GFn.fn (fn_gor rfl rfl ?_)
  refine g_exs (by array_get_dec) ?_
  exact g_ifr (k := true) (Evt.to (et_or (k := true) (l := false) (et_not (et_tru (ev_call (by array_get_dec) h) tru_bl)) fun z => by cases z) rfl) (fun _ => g_ret ev_c (rd_ok (.refl _))) fun z => by cases z
end
end Tb
set_option Elab.async false
set_option linter.all false
set_option maxRecDepth 100000
set_option maxHeartbeats 0
namespace Tb
open PySem PySem.Spec PyProof.Rows L2 Qz Hd
-- array_mem_dec: an operator on values
local macro_rules | `(tactic| array_mem_dec) => `(tactic| with_reducible first
  | exact fv_add | exact fv_sub | exact fv_le | exact fv_lt | exact fv_gt | exact fv_ge | exact fv_eqI | exact fv_eqS | exact fv_eqB | exact fv_is | exact fv_isn | exact fv_isB | exact fv_isnB | exact fv_neg
  | exact fv_revT | exact fa_abs | exact fa_int | exact fa_lenT | exact fa_max2
  | (apply fv_mod; decide) | (apply fv_div; decide) | (apply fv_ixT; with_unfolding_all rfl)
  | (apply fv_ne; array_mem_dec) | (apply fa_isiI; with_unfolding_all rfl) | (apply fa_isiB; with_unfolding_all rfl) | (apply fa_isiU; with_unfolding_all rfl) | (apply fa_isiS; with_unfolding_all rfl) | (apply fa_isiD; with_unfolding_all rfl) | (apply fa_isiUL; with_unfolding_all rfl) | assumption)
local macro_rules | `(tactic| sizeOf_list_dec) => `(tactic| assumption)
-- array_get_dec: what an expression, a test evaluates to
local macro_rules | `(tactic| array_get_dec) => `(tactic| with_reducible first
  | exact ev_c | (apply ev_var; with_unfolding_all rfl) | exact ea_nil
  | (apply ea_cons; · array_get_dec
     · array_get_dec)
  | (apply ev_bin; · array_get_dec
     · array_get_dec
     · array_mem_dec)
  | (apply ev_un; · array_get_dec
     · array_mem_dec)
  | (apply ev_tup; · array_get_dec
     · first | with_unfolding_all decide | with_unfolding_all exact Nat.le_of_ble_eq_true rfl)
  | (apply ev_cb; · array_get_dec
     · array_mem_dec)
  | (apply ev_call; · array_get_dec
     · sizeOf_list_dec
     · with_unfolding_all rfl)
  | (apply et_tst; array_get_dec)
  | (apply et_tru; · array_get_dec
     · exact tru_bl)
  | (apply et_not; array_get_dec)
  | assumption)
local macro_rules | `(tactic| sizeOf_list_dec) => `(tactic| first | exact sp0 _ | exact sp1 _ _ _ | exact sp2 _ _ | exact sp7 | exact sp8 _ | exact sp10 _ | exact sp12 _ | exact sp11 (by assumption) _ | exact sp13 (by assumption) _ (by assumption) | exact sp15 (by assumption) | exact sp16 _ | exact sp17 _ _ | exact sp19 _ _ | exact sp18 (by assumption) (by assumption) | assumption)
/-- a spot's form -/
structure SpOk (t : Int) (s : Spot) : Prop where
  a : Cs s.1
  b : Cs s.2.1
  c : 0 ≤ s.2.2.1 ∧ s.2.2.1 ≤ t
  d : 0 ≤ s.2.2.2 ∧ s.2.2.2 ≤ t
def Spot.k (s : Spot) : List Key := ([s.1, s.2.1, s.2.2.1, s.2.2.2] : List Int).map .inl
theorem Spot.k_inj {s s' : Spot} (h : s.k = s'.k) : s = s' := by
  obtain ⟨a, b, c, d⟩ := s
  obtain ⟨a', b', c', d'⟩ := s'
  simp only [Spot.k, List.map_cons, List.map_nil, List.cons.injEq, Sum.inl.injEq, and_true] at h
  obtain ⟨rfl, rfl, rfl, rfl⟩ := h
  rfl
abbrev spsD (S : List Spot) : D := .tup (S.map Spot.d)
abbrev START : Spot := (0, 0, 0, 0)
def Slt (s s' : Spot) : Prop := PySem.W.dataLt (pyD s.d) (pyD s'.d) = true
/-- all steps from s lead into S, none to unlike texts -/
def Into (b : Bk) (t : Int) (S : List Spot) (s : Spot) : Prop := ∀ c ∈ b.goods, ∀ d ∈ b.goods, match b.behind t s c d with
  | .far => True
  | .unlike => False
  | .to s' => s' ∈ S
section
variable {m : Mm} {L : Nat} {b : Bk}
theorem sp28 {t : Int} {s : Spot} (h : SpOk t s) : Fn (Lv tb (L + 3)) 28 [b.d, .int t, s.d] m (.bl true) := by
  have cs : ∀ {i : Int}, Cs i → (decide (0 ≤ i) && decide (i ≤ 2 - 1)) = true := fun h => by rcases h with rfl | rfl <;> rfl
  refine fn_by rfl rfl ?_
  refine r_if (k := false) (Evt.to (et_or (k := false) (l := false) (Evt.to (et_not (et_tru (by array_get_dec) tru_bl)) (by rfl)) fun _ => Evt.to (et_not (et_tru (ev_cbl (ea_one (el_mapA .int .bl (fun _ => true) (xs := [s.1, s.2.1, s.2.2.1, s.2.2.2]) (ei_tup (ev_var rfl)) True.intro (Nat.le_of_ble_eq_true rfl) fun x hx => ⟨_, rfl, by array_get_dec⟩)) fun p m' e => fa_allL e) tru_bl)) rfl) rfl) (fun z => by cases z) fun _ => ?_
  refine r_set (x := .bl true) (Evd.to (ev_cbl (ea_one (el_mapA .int .bl (fun i => decide (0 ≤ i) && decide (i ≤ 2 - 1)) (xs := [s.1, s.2.1]) (ei_tup (Evd.to (ev_slT (ev_var rfl) ep_no (ep_at ev_c)) rfl)) True.intro (Nat.le_of_ble_eq_true rfl) fun x hx => ⟨_, rfl, by array_get_dec⟩)) fun p m' e => fa_allL e) ?_) ?_
  · show D.bl ((_ && _) && ((_ && _) && true)) = _
    rw [cs h.a, cs h.b]
    rfl
  · refine r_ret (Evd.to (ev_andB (k := true) (ev_var rfl) fun _ => ev_cbl (ea_one (el_mapA .int .bl (fun i => decide (0 ≤ i) && decide (i ≤ t)) (xs := [s.2.2.1, s.2.2.2]) (ei_tup (Evd.to (ev_slT (ev_var rfl) (ep_at ev_c) ep_no) rfl)) True.intro (Nat.le_of_ble_eq_true rfl) fun x hx => ⟨_, rfl, by array_get_dec⟩)) fun p m' e => fa_allL e) ?_) (.refl _)
    show D.bl (true && ((decide _ && decide _) && ((decide _ && decide _) && true))) = _
    rw [decide_eq_true h.c.1, decide_eq_true h.c.2, decide_eq_true h.d.1, decide_eq_true h.d.2]
    rfl
theorem sp29 (O : b.Ok) {t : Int} {s : Spot} (ha : Cs s.1) (hb : Cs s.2.1) {p : Addr} {kvs : List (List Key × D)} {S : List Spot} (e : m p = some (.dT kvs)) (hk : ∀ s' : Spot, s' ∈ S → (valD kvs s'.k).isSome = true) (hs : Into b t S s) : Fn (Lv tb (L + 5)) 29 [b.d, .int t, .ref p, s.d] m .non := by
  refine GFn.fn (fn_gor rfl rfl ?_)
  refine g_seq (Q1 := fun ρ' m' => m' = m) ?_ fun ρ' m' q => ⟨m, q ▸ .refl _, g_ret ev_c (rd_ok (.refl _))⟩
  refine g_for (fun k ρ' m' => (∃ x4 x5 x6, ρ' = [some b.d, some (.int t), some (.ref p), some s.d, x4, x5, x6]) ∧ m' = m) (ei_tup (ev_call (by array_get_dec) (sp15 O))) ⟨⟨_, _, _, rfl⟩, rfl⟩ (fun _ _ _ _ => True.intro) ?_ (fun _ _ q => q.2)
  rintro k ρ' m' x ⟨⟨x4, x5, x6, rfl⟩, rfl⟩ hx
  obtain ⟨c, hc, rfl⟩ := ix_ints hx
  have hcg := List.mem_of_getElem? hc
  refine ⟨_, rfl, ?_⟩
  refine g_for (fun k ρ' m'' => (∃ x5 x6, ρ' = [some b.d, some (.int t), some (.ref p), some s.d, some (.int c), x5, x6]) ∧ m'' = m') (ei_tup (ev_call (by array_get_dec) (sp15 O))) ⟨⟨_, _, rfl⟩, rfl⟩ (fun _ _ _ _ => True.intro) ?_ (fun ρ' _ q => ⟨let ⟨⟨x5, x6, z⟩, _⟩ := q; ⟨_, _, _, z⟩, q.2⟩)
  rintro k ρ' m'' x ⟨⟨x5, x6, rfl⟩, rfl⟩ hx
  obtain ⟨d, hd, rfl⟩ := ix_ints hx
  have hdg := List.mem_of_getElem? hd
  refine ⟨_, rfl, ?_⟩
  have s20 := sp20 (m := m'') (L := L) O (t := t) (s := s) (Bk.goods_mem.mp hcg).2 (Bk.goods_mem.mp hdg).2 ha hb
  have hi := hs c hcg d hdg
  refine g_set (ev_call (by array_get_dec) s20) ?_
  cases q : b.behind t s c d with
  | far =>
    refine g_ifr (k := false) (Evt.to (et_tst (ev_bin (ev_var rfl) (ev_tup ea_nil (Nat.le_of_ble_eq_true rfl)) (fv_eqPy rfl rfl rfl rfl))) rfl) (fun z => by cases z) fun _ => ?_
    exact g_if (k := false) (Evt.to (et_and (k := false) (l := false) (et_tst (ev_bin (ev_var rfl) ev_c fv_isn)) fun z => by cases z) rfl) (fun z => by cases z) fun _ => g_next ⟨⟨_, _, rfl⟩, rfl⟩
  | unlike => rw [q] at hi; exact hi.elim
  | to s' =>
    rw [q] at hi
    refine g_ifr (k := false) (Evt.to (et_tst (ev_bin (ev_var rfl) (ev_tup ea_nil (Nat.le_of_ble_eq_true rfl)) (fv_eqPy rfl rfl rfl rfl))) rfl) (fun z => by cases z) fun _ => ?_
    refine g_if (k := false) (Evt.to (et_and (k := true) (l := false) (et_tst (ev_bin (ev_var rfl) ev_c fv_isn)) fun _ => Evt.to (et_tst (ev_bin (ev_var rfl) (ev_var rfl) (fv_inD (dg_ints e [s'.1, s'.2.1, s'.2.2.1, s'.2.2.2])))) ?_) rfl) (fun z => by cases z) fun _ => g_next ⟨⟨_, _, rfl⟩, rfl⟩
    have := hk s' hi
    unfold Spot.k at this
    rw [this]
    rfl
theorem enum_at {xs : List D} {i : Nat} {x : D} (h : (enumD xs)[i]? = some x) : ∃ d, xs[i]? = some d ∧ x = .tup [.int (i : Nat), d] := by
  unfold enumD at h
  rw [List.getElem?_map, List.getElem?_zipIdx] at h
  cases e : xs[i]? with
  | none => rw [e] at h; cases h
  | some d => rw [e] at h; simp at h; exact ⟨d, rfl, h.symm⟩
theorem fv_leS {s s' : Spot} : Fv2 gLe s.d s'.d m (.bl (!PySem.W.dataLt (pyD s'.d) (pyD s.d))) := fun P h => ⟨_, _, isPy.dpy rfl, isPy.dpy rfl, rfl, nofun, Nat.le_of_ble_eq_true rfl, h⟩
theorem pw_at {α : Type} {R : α → α → Prop} {S : List α} (h : S.Pairwise R) {i : Nat} {s s' : α} (h1 : S[i]? = some s) (h2 : S[i + 1]? = some s') : R s s' := by
  rw [List.pairwise_iff_getElem] at h
  obtain ⟨l1, e1⟩ := List.getElem?_eq_some_iff.mp h1
  obtain ⟨l2, e2⟩ := List.getElem?_eq_some_iff.mp h2
  have := h i (i + 1) l1 l2 (Nat.lt_succ_self _)
  rwa [e1, e2] at this
theorem sp30 (O : b.Ok) {t : Int} (h0 : 0 ≤ t) (h9 : t ≤ 9) {S : List Spot} (hz : Sz S.length) (hok : ∀ s ∈ S, SpOk t s) (hs : S.Pairwise Slt) (hi : START ∈ S → ∀ s ∈ S, Into b t S s) : Fn (Lv tb (L + 6)) 30 [b.d, .int t, spsD S] m (if START ∈ S then .non else .tup [.int (-1), .str "first"]) := by
  refine GFn.fn (fn_gor rfl rfl ?_)
  refine g_exs (by array_get_dec) ?_
  refine g_ifr (k := false) (Evt.to (et_not (et_tru (by array_get_dec) tru_bl)) (by rfl)) (fun z => by cases z) fun _ => ?_
  refine g_seq (Q1 := fun ρ' m' => (∃ x3 x4, ρ' = [some b.d, some (.int t), some (spsD S), x3, x4, none, none]) ∧ m' = m) ?_ ?_
  · refine g_for (fun k ρ' m' => (∃ x3 x4, ρ' = [some b.d, some (.int t), some (spsD S), x3, x4, none, none]) ∧ m' = m) (ei_enumT (by array_get_dec)) ⟨⟨_, _, rfl⟩, rfl⟩ (fun _ _ _ _ => True.intro) ?_ (fun _ _ q => q)
    rintro k ρ' m' x ⟨⟨x3, x4, rfl⟩, rfl⟩ hx
    obtain ⟨d, hd, rfl⟩ := enum_at hx
    rw [List.getElem?_map] at hd
    cases e : S[k]? with
    | none => rw [e] at hd; cases hd
    | some s =>
      rw [e] at hd
      cases hd
      refine ⟨_, rfl, ?_⟩
      have hm := List.mem_of_getElem? e
      refine g_if (k := false) (Evt.to (et_or (k := false) (l := false) (Evt.to (et_not (et_tru (ev_call (by array_get_dec) (sp28 (hok s hm))) tru_bl)) rfl) fun _ => ?_) rfl) (fun z => by cases z) fun _ => g_next ⟨⟨_, _, rfl⟩, rfl⟩
      refine Evt.to (et_and (k := decide ((0 : Int) < (k : Int))) (l := false) (by array_get_dec) fun h => ?_) (Bool.and_false _)
      have hk : 0 < k := by have := of_decide_eq_true h; omega
      have hk2 : k - 1 + 1 = k := by omega
      have hlt := (List.getElem?_eq_some_iff.mp e).1
      have e' : S[k - 1]? = some S[k - 1] := List.getElem?_eq_getElem (by omega)
      have hlt2 : Slt S[k - 1] s := pw_at hs e' (by rw [hk2]; exact e)
      refine Evt.to (et_tst (ev_bin (ev_var rfl) (ev_bin (ev_var rfl) (ev_bin (ev_var rfl) ev_c fv_sub) (fv_ixT (v := Spot.d S[k - 1]) ?_)) fv_leS)) (by rw [show PySem.W.dataLt _ _ = true from hlt2]; rfl)
      have e3 : ((k : Int) - 1) = ((k - 1 : Nat) : Int) := by omega
      rw [e3]
      exact atI_nat (by rw [List.getElem?_map, e']; rfl)
  · rintro ρ' m' ⟨⟨x3, x4, rfl⟩, rfl⟩
    refine ⟨_, .refl _, ?_⟩
    refine g_setR (ed_dictT Spot.d Spot.k (fun _ => .bl true) (ei_tup (ev_var rfl)) True.intro hz.le fun s _ => ⟨_, rfl, Evd.to (ev_var rfl) rfl, ev_c⟩) ?_
    rintro d m1 ⟨q, rfl, hq, rfl⟩
    refine ⟨_, .refl _, ?_⟩
    have e0 : (m'.set q (.dT (S.foldl (fun acc x => putD acc (Spot.k x) (.bl true)) []))) q = some (.dT (S.foldl (fun acc x => putD acc (Spot.k x) (.bl true)) [])) := Mm.set_same
    have hv : ∀ s' : Spot, (valD (S.foldl (fun acc x => putD acc (Spot.k x) (.bl true)) []) s'.k).isSome = decide (s' ∈ S) := fun s' => by
      rw [valD_fold, show (valD ([] : List (List Key × D)) s'.k).isSome = false from rfl, Bool.false_or]
      rw [Bool.eq_iff_iff, List.any_eq_true, decide_eq_true_iff]
      constructor
      · rintro ⟨x, hx, h⟩
        rw [← Spot.k_inj (of_decide_eq_true h)]
        exact hx
      · intro h
        exact ⟨s', h, decide_eq_true rfl⟩
    have hst := hv START
    refine g_ifr (k := !decide (START ∈ S)) (Evt.to (et_tst (ev_bin ev_c (ev_var rfl) (fv_inD (dg_ints e0 [0, 0, 0, 0])))) ?_) (fun h => ?_) (fun h => ?_)
    · show (true ^^ (valD _ (Spot.k START)).isSome) = _
      rw [hst, Bool.true_xor]
    · have h' : ¬ START ∈ S := by simpa using h
      rw [if_neg h']
      exact g_ret (by array_get_dec) (rd_ok (Sub.fresh hq))
    · have h' : START ∈ S := by simpa using h
      rw [if_pos h']
      refine g_seq (Q1 := fun ρ' m1 => m1 = m'.set q (.dT (S.foldl (fun acc x => putD acc (Spot.k x) (.bl true)) []))) ?_ fun ρ' m1 e => by subst e; exact ⟨_, .refl _, g_ret ev_c (rd_ok (Sub.fresh hq))⟩
      refine g_for (fun k ρ' m1 => (∃ x3 x4 x6, ρ' = [some b.d, some (.int t), some (spsD S), x3, x4, some (.ref q), x6]) ∧ m1 = m'.set q (.dT (S.foldl (fun acc x => putD acc (Spot.k x) (.bl true)) []))) (ei_enumT (by array_get_dec)) ⟨⟨_, _, _, rfl⟩, rfl⟩ (fun _ _ _ _ => True.intro) ?_ (fun _ _ q => q.2)
      rintro k ρ' m1 x ⟨⟨x3, x4, x6, rfl⟩, rfl⟩ hx
      obtain ⟨d, hd, rfl⟩ := enum_at hx
      rw [List.getElem?_map] at hd
      cases e : S[k]? with
      | none => rw [e] at hd; cases hd
      | some s =>
        rw [e] at hd
        cases hd
        refine ⟨_, rfl, ?_⟩
        have hm := List.mem_of_getElem? e
        refine g_set (ev_call (by array_get_dec) (sp29 O (hok s hm).a (hok s hm).b e0 (fun s' h => by rw [hv]; exact decide_eq_true h) (hi h' s hm))) ?_
        exact g_if (k := false) (Evt.to (et_tst (ev_bin (ev_var rfl) ev_c fv_isn)) rfl) (fun z => by cases z) fun _ => g_next ⟨⟨_, _, _, rfl⟩, rfl⟩
theorem sp31 {t : Int} {S : List Spot} {d : D} (h : Fn (Lv tb (L + 6)) 30 [b.d, .int t, spsD S] m d) : Fn (Lv tb (L + 7)) 31 [b.d, .int t, spsD S] m (.bl (isNon d)) :=
  fn_by rfl rfl (r_ret (ev_bin (ev_call (by array_get_dec) h) ev_c fv_is) (.refl _))
theorem sp3 (x : Str) : Fn (Lv tb (L + 1)) 3 [.str x] m (.str "other") := by
  refine fn_by rfl rfl ?_
  refine r_if (k := false) (Evt.to (et_tru (by array_get_dec) tru_bl) (by rfl)) (fun z => by cases z) fun _ => ?_
  refine r_if (k := false) (Evt.to (et_tru (ev_cb (by array_get_dec) (fa_isiUL (x := .str x) (T := .str) rfl)) tru_bl) (by rfl)) (fun z => by cases z) fun _ => ?_
  exact r_ret (ev_ifd (k := false) (Evt.to (et_tru (by array_get_dec) tru_bl) (by rfl)) (fun z => by cases z) fun _ => ev_c) (.refl _)
theorem sp4 (x y : Str) : FnL (Lv tb (L + 1)) 4 [.str x, .str y] m [] := by
  refine fnl_by rfl rfl ?_
  refine rl_if (k := false) (Evt.to (et_tru (by array_get_dec) tru_bl) (by rfl)) (fun z => by cases z) fun _ => ?_
  exact r_retL (el_if (k := false) (x := []) (Evt.to (et_tru (ev_cb (by array_get_dec) (fa_isiUL (x := .str x) (T := .str) rfl)) tru_bl) (by rfl)) (fun z => by cases z) fun _ => el_lst ea_nil (Nat.le_of_ble_eq_true rfl)) (.refl _)
end
end Tb
set_option Elab.async false
set_option linter.all false
set_option maxRecDepth 100000
set_option maxHeartbeats 0
namespace Tb
open PySem PySem.Spec PyProof.Rows L2 Qz Hd
-- array_mem_dec: an operator on values
local macro_rules | `(tactic| array_mem_dec) => `(tactic| with_reducible first
  | exact fv_add | exact fv_sub | exact fv_le | exact fv_lt | exact fv_gt | exact fv_ge | exact fv_eqI | exact fv_eqS | exact fv_eqB | exact fv_is | exact fv_isn | exact fv_isB | exact fv_isnB | exact fv_neg
  | exact fv_revT | exact fa_abs | exact fa_int | exact fa_lenT | exact fa_max2
  | (apply fv_mod; decide) | (apply fv_div; decide) | (apply fv_ixT; with_unfolding_all rfl)
  | (apply fv_ne; array_mem_dec) | (apply fa_isiI; with_unfolding_all rfl) | (apply fa_isiB; with_unfolding_all rfl) | (apply fa_isiU; with_unfolding_all rfl) | (apply fa_isiS; with_unfolding_all rfl) | (apply fa_isiD; with_unfolding_all rfl) | (apply fa_isiUL; with_unfolding_all rfl) | assumption)
local macro_rules | `(tactic| sizeOf_list_dec) => `(tactic| assumption)
-- array_get_dec: what an expression, a test evaluates to
local macro_rules | `(tactic| array_get_dec) => `(tactic| with_reducible first
  | exact ev_c | (apply ev_var; with_unfolding_all rfl) | exact ea_nil
  | (apply ea_cons; · array_get_dec
     · array_get_dec)
  | (apply ev_bin; · array_get_dec
     · array_get_dec
     · array_mem_dec)
  | (apply ev_un; · array_get_dec
     · array_mem_dec)
  | (apply ev_tup; · array_get_dec
     · first | with_unfolding_all decide | with_unfolding_all exact Nat.le_of_ble_eq_true rfl)
  | (apply ev_cb; · array_get_dec
     · array_mem_dec)
  | (apply ev_call; · array_get_dec
     · sizeOf_list_dec
     · with_unfolding_all rfl)
  | (apply et_tst; array_get_dec)
  | (apply et_tru; · array_get_dec
     · exact tru_bl)
  | (apply et_not; array_get_dec)
  | assumption)
local macro_rules | `(tactic| sizeOf_list_dec) => `(tactic| first | exact sp0 _ | exact sp1 _ _ _ | exact sp2 _ _ | exact sp7 | exact sp8 _ | exact sp10 _ | exact sp12 _ | exact sp11 (by assumption) _ | exact sp13 (by assumption) _ (by assumption) | exact sp15 (by assumption) | exact sp16 _ | exact sp17 _ _ | exact sp19 _ _ | exact sp18 (by assumption) (by assumption) | exact sp3 _ | assumption)
section
variable {m : Mm} {L : Nat} {b : Bk}
theorem sp5 (x y : Str) : Fn (Lv tb (L + 2)) 5 [.str x, .str y] m (.bl (decide (x = y))) := by
  refine GFn.fn (fn_gor rfl rfl ?_)
  refine g_setL (el_lst (ds := [.tup [.str x, .str y]]) (by array_get_dec) (Nat.le_of_ble_eq_true rfl)) fun p hp => ?_
  refine g_seq (Q1 := fun ρ' m' => x = y ∧ Sub m m') ?_ ?_
  · refine g_while (n0 := 1) (fun n ρ' m' => Sub m m' ∧ ((n = 1 ∧ ρ' = [some (.str x), some (.str y), some (.ref p), none, none] ∧ m' p = some (.lst [.tup [.str x, .str y]])) ∨ (n = 0 ∧ x = y ∧ m' p = some (.lst []) ∧ ∃ x3 x4, ρ' = [some (.str x), some (.str y), some (.ref p), x3, x4]))) ⟨Sub.fresh hp, .inl ⟨rfl, rfl, Mm.set_same⟩⟩ ?_
    rintro n ρ' m' ⟨hs, ⟨rfl, rfl, e⟩ | ⟨rfl, hxy, e, x3, x4, rfl⟩⟩
    · refine ⟨true, et_tru (ev_var rfl) (tru_lst e), fun _ => ?_, fun z => by cases z⟩
      refine g_tgR (er_pop (ev_var rfl) e rfl) ?_
      rintro d m1 ⟨rfl, s1⟩
      have e1 : m1 p = some (.lst []) := s1.at
      have hs1 : Sub m m1 := (Sub.set hp hs).trans s1
      refine ⟨_, m1, m1, fun P h => ⟨rfl, h⟩, .refl _, ?_⟩
      refine g_ifr (k := !decide (x = y)) (Evt.to (et_or (k := false) (l := !decide (x = y)) (Evt.to (et_tst (ev_bin (ev_call (by array_get_dec) (sp3 x)) (ev_call (by array_get_dec) (sp3 y)) (fv_ne fv_eqS))) (by decide +kernel)) fun _ => by array_get_dec) (Bool.false_or _)) (fun h => ?_) fun h => ?_
      · have : decide (x = y) = false := by simpa using h
        rw [this]
        exact g_ret ev_c (rd_ok hs1)
      · have hxy : x = y := by simpa using h
        refine g_extend (zs := []) (ev_var rfl) e1 (el_call (by array_get_dec) (sp4 x y)) (by rw [sizeLine_eq]; decide) fun q m' hq hqa s => ?_
        exact ⟨0, Nat.zero_lt_one, (Sub.set hp (Sub.set (hq.sub hs1) hs1)).trans s, .inr ⟨rfl, hxy, s.at, _, _, rfl⟩⟩
    · exact ⟨false, et_tru (ev_var rfl) (tru_lst e), fun z => (by cases z), fun _ => ⟨hxy, hs⟩⟩
  · rintro ρ' m' ⟨hxy, hs⟩
    refine ⟨_, .refl _, ?_⟩
    rw [decide_eq_true hxy]
    exact g_ret ev_c (rd_ok hs)
theorem sp6 (x : Str) (ys : List Str) {p : Addr} (e : m p = some (.lst (ys.map .str))) (hz : Sz ys.length) : Fn (Lv tb (L + 3)) 6 [.str x, .ref p] m (.bl (ys.any fun y => decide (x = y))) := by
  refine fn_by rfl rfl (r_ret (Evd.to (ev_cbl (ea_one (el_mapA .str .bl (fun y => decide (x = y)) (ei_lst (ev_var rfl) e) e hz.le fun y hy => ⟨_, rfl, ev_call (by array_get_dec) (sp5 x y)⟩)) fun p m' e => fa_anyL e) ?_) (.refl _))
  rw [List.any_map]
  rfl
theorem sp33 {t : Int} (h0 : 0 ≤ t) (h9 : t ≤ 9) {k : Str} {x : D} {r : Bool} (hk : (["couple", "paper"] : List Str).any (fun y => decide (k = y)) = true) (hc : k = "couple" → Fn (Lv tb (L + 7)) 26 [b.d, .int t, x] m (.bl r)) (hp : k ≠ "couple" → Fn (Lv tb (L + 7)) 31 [b.d, .int t, x] m (.bl r)) : Fn (Lv tb (L + 8)) 33 [b.d, .int t, .tup [.str k, x]] m (.bl r) := by
  refine GFn.fn (fn_gor rfl rfl ?_)
  refine g_exs (by array_get_dec) ?_
  refine g_ifrW (k := false) (Etw.to (etw_or (k := false) (l := false) (Evt.w (Evt.to (et_not (et_tru (by array_get_dec) tru_bl)) (by rfl))) fun _ m' s => Etw.to (etw_not (etw_tru (x := .bl true) (ew_callL (ea_consL (ev_bin (ev_var rfl) ev_c (fv_ixT (v := .str k) rfl)) (ea_one (el_lst (ds := [.str "couple", .str "paper"]) (by array_get_dec) (Nat.le_of_ble_eq_true rfl)))) ?_) fun _ => tru_bl)) rfl) rfl) (fun z => by cases z) fun _ => ?_
  · rintro ds m'' s ⟨p, rfl, e⟩
    refine ⟨rfl, ?_⟩
    have h6 := sp6 (L := L + 4) k ["couple", "paper"] (m := m'') e (Nat.le_of_ble_eq_true rfl)
    rwa [hk] at h6
  · refine g_ret (ev_ifd (k := decide (k = "couple")) (by array_get_dec) (fun h => ev_call (by array_get_dec) (hc (of_decide_eq_true h))) fun h => ev_call (by array_get_dec) (hp (of_decide_eq_false h))) (rd_ok (.refl _))
theorem sp36 : Fn (Lv tb (L + 1)) 36 [b.d] m (.int 31) :=
  fn_by rfl rfl (r_ret (ev_binL (el_lst (ds := [.int 1, .int 3, .int 7, .int 15, .int 31]) (by array_get_dec) (Nat.le_of_ble_eq_true rfl)) (fun m' s => (show Evd _ _ _ _ (.int 4) from Evd.to (by array_get_dec) (by rfl))) fun p m' hp s => fv_ixL (v := .int 31) s.at rfl) (.refl _))
local macro_rules | `(tactic| sizeOf_list_dec) => `(tactic| exact sp36)
theorem codes_py (cs : List Code) : isPys (cs.map Code.d) = true := isPys_of fun d hd => by
  obtain ⟨x, _, rfl⟩ := List.mem_map.mp hd
  rfl
theorem codes_shp (cs : List Code) (h : ∀ c ∈ cs, PyData.strOk c.s0 = true ∧ PyData.strOk c.s1 = true) : SeqAt.shaped (.list (pyDs (cs.map Code.d))) = true := by
  rw [pyDs_map, List.map_map]
  refine shp_lst fun p hp => ?_
  obtain ⟨c, hc, rfl⟩ := List.mem_map.mp hp
  obtain ⟨h1, h2⟩ := h c hc
  refine ⟨?_, Nat.le_of_ble_eq_true rfl⟩
  simp [pyD, pyDs, PyData.canLay0, PyData.canLayAll0, h1, h2]
theorem sp37 (O : b.Ok) (c : Int) {i : Int} (hi : Cs i) : Fn (Lv tb (L + 2)) 37 [b.d, .int c, .int i] m (stD (b.step c i)) := by
  refine fn_by rfl rfl ?_
  refine r_if (k := decide (c = 0) || decide (c = 31)) (et_or (by array_get_dec) fun _ => by array_get_dec) (fun e => ?_) fun e => ?_
  · have h : c = 0 ∨ c = 31 := by simpa using e
    rw [show b.step c i = some ((""  : Str), i) by unfold Bk.step; rw [if_pos h]]
    exact r_ret (Evd.to (by array_get_dec) (by rfl)) (.refl _)
  · have h : ¬ (c = 0 ∨ c = 31) := by simpa using e
    rw [show b.step c i = (b.find c).map fun c => (c.said i, c.turn i) by unfold Bk.step; rw [if_neg h]]
    refine r_setL (xs := (b.codes.filter fun x => decide (x.cell = c)).map Code.d) (el_fltA Code.d (fun x => decide (x.cell = c)) (ei_tup (ev_codes rfl)) True.intro (Nat.le_trans O.few (by decide)) fun x hx => ⟨_, rfl, Evt.to (by array_get_dec) (by rfl), by array_get_dec⟩) fun p hp => ?_
    have e0 : (m.set p (.lst ((b.codes.filter fun x => decide (x.cell = c)).map Code.d))) p = some (.lst ((b.codes.filter fun x => decide (x.cell = c)).map Code.d)) := Mm.set_same
    have hs : SeqAt.shaped (.list (pyDs ((b.codes.filter fun x => decide (x.cell = c)).map Code.d))) = true := codes_shp _ fun c hc => O.k c (List.mem_filter.mp hc).1
    have hf : b.find c = (b.codes.filter fun x => decide (x.cell = c)).head? := by
      unfold Bk.find
      rw [List.head?_filter]
    have hm : ∀ x ∈ b.codes.filter (fun x => decide (x.cell = c)), True := fun _ _ => True.intro
    rw [hf]
    cases e : (b.codes.filter fun x => decide (x.cell = c)) with
    | nil =>
      rw [e] at e0 hs
      exact r_if (k := true) (et_tst (ev_binR (ev_var rfl) (el_lst ea_nil (Nat.le_of_ble_eq_true rfl)) fun q m' hq s => fv_eqNil (s.sets hq _ _ e0) s.at rfl rfl)) (fun _ => r_ret ev_c (Sub.fresh hp)) fun z => by cases z
    | cons x r =>
      rw [e] at e0 hs
      refine r_if (k := false) (et_tst (ev_binR (ev_var rfl) (el_lst ea_nil (Nat.le_of_ble_eq_true rfl)) fun q m' hq s => fv_eqNil (s.sets hq _ _ e0) s.at (codes_py _) hs)) (fun z => by cases z) fun _ => ?_
      have e1 : atI [D.str x.s0, D.str x.s1] i = some (.str (x.said i)) := by rcases hi with rfl | rfl <;> rfl
      have e2 : atI [D.int x.t0, D.int x.t1] i = some (.int (x.turn i)) := by rcases hi with rfl | rfl <;> rfl
      have a0 : ∀ {j : Nat}, Evd (wBin fIx (wVar 3) (wC (.int 0))) (Lv tb (L + 1)) (sto (startD 5 [b.d, .int c, .int i]) 3 (some (.ref p))) (m.set p (.lst ((x :: r).map Code.d))) x.d := fun {j} => ev_bin (ev_var rfl) ev_c (fv_ixL e0 (atI_nat (j := 0) rfl))
      have a1 := fun {j : Nat} => ev_bin (a0 (j := j)) (ev_c (d := .int 1)) (fv_ixT (xs := [.int x.cell, .tup [.str x.s0, .str x.s1], .tup [.int x.t0, .int x.t1]]) (v := .tup [.str x.s0, .str x.s1]) rfl)
      have a2 := fun {j : Nat} => ev_bin (a0 (j := j)) (ev_c (d := .int 2)) (fv_ixT (xs := [.int x.cell, .tup [.str x.s0, .str x.s1], .tup [.int x.t0, .int x.t1]]) (v := .tup [.int x.t0, .int x.t1]) rfl)
      refine r_ret (ev_tup (ea_cons (ev_ifd (k := false) (et_tst (ev_bin (ev_bin (a1 (j := 0)) (ev_var rfl) (fv_ixT e1)) ev_c fv_is)) (fun z => by cases z) fun _ => ev_bin (a1 (j := 0)) (ev_var rfl) (fv_ixT e1)) (ea_cons (ev_bin (a2 (j := 0)) (ev_var rfl) (fv_ixT e2)) ea_nil)) (Nat.le_of_ble_eq_true rfl)) (Sub.fresh hp)
theorem sp38 (O : b.Ok) : FnL (Lv tb (L + 3)) 38 [b.d] m (b.goods.map .int) := by
  refine fnl_by rfl rfl (r_retL ?_ (.refl _))
  have e : ((List.range (32 : Int).toNat).map fun i => D.int (0 + (i : Nat))) = ((List.range 32).map (fun i : Nat => (i : Int))).map D.int := by
    rw [List.map_map]
    refine List.map_congr_left fun i _ => ?_
    show D.int (0 + (i : Int)) = D.int (i : Int)
    rw [Int.zero_add]
  have hi : Evi (wRange1 (wCons (wBin fAdd (wCallN 36 1 (wCons (wVar 0) wNil)) (wC (.int 1))) wNil)) (Lv tb (L + 2)) (startD 2 [b.d]) m (((List.range 32).map (fun i : Nat => (i : Int))).map D.int) (fun _ => True) := by
    rw [← e]
    exact ei_r1 (j := 32) (Evd.to (by array_get_dec) (by rfl) |> fun h => ea_cons h ea_nil)
  refine el_fltA .int (fun c => (b.step c 0).isSome) hi True.intro (by rw [List.length_map, List.length_range]; decide) fun x hx => ⟨_, rfl, ?_, ev_var rfl⟩
  refine Evt.to (et_tst (ev_bin (ev_call (by array_get_dec) (sp37 O x (.inl rfl))) ev_c fv_isn)) ?_
  rw [stD_non, Bool.not_not]
def pows5 : List Int := [1, 2, 4, 8, 16]
def bits (c : Int) : List Int := pows5.filter fun p => decide (c / p % 2 = 1)
theorem pow_ok {p : Int} (h : p ∈ pows5) : 0 < p ∧ p < 1073741824 := by
  simp only [pows5, List.mem_cons, List.not_mem_nil, or_false] at h
  omega
theorem sp40 (c : Int) : FnL (Lv tb (L + 1)) 40 [.int c] m ((bits c).map .int) := by
  refine fnl_by rfl rfl (r_retL (el_fltA .int (fun p => decide (c / p % 2 = 1)) (xs := pows5) (ei_tup (Evd.to (by array_get_dec) (by rfl))) True.intro (by decide) fun p hp => ⟨_, rfl, ?_, ev_var rfl⟩) (.refl _))
  exact et_tst (ev_bin (ev_bin (ev_cb (ea_cons (ev_bin (ev_var rfl) (ev_var rfl) (fv_div (pow_ok hp))) ea_nil) fa_int) ev_c (fv_mod (by decide))) ev_c fv_eqI)
def joinedL (c d : Int) : Int := (pows5.filter fun p => decide (p ∈ bits c) || decide (p ∈ bits d)).sum
theorem sp41 (c d : Int) : Fn (Lv tb (L + 2)) 41 [.int c, .int d] m (.int (joinedL c d)) := by
  refine fn_by rfl rfl (r_ret (ev_cbl (ea_one (el_fltA .int (fun p => decide (p ∈ bits c) || decide (p ∈ bits d)) (xs := pows5) (ei_tup (Evd.to (by array_get_dec) (by rfl))) True.intro (by decide) fun p hp => ⟨_, rfl, ?_, ev_var rfl⟩)) fun p m' e => fa_sumL e) (.refl _))
  refine Evt.to (et_or (et_tst (ev_binR (ev_var rfl) (el_call (by array_get_dec) (sp40 c)) fun q m' hq s => fv_inIL s.at)) fun _ => et_tst (ev_binR (ev_var rfl) (el_call (by array_get_dec) (sp40 d)) fun q m' hq s => fv_inIL s.at)) ?_
  rw [Bool.false_xor, Bool.false_xor]
def costL (c d : Int) : Int × Int := ((((bits (joinedL c d)).length : Int) - (bits c).length), (((bits (joinedL c d)).length : Int) - (bits d).length))
theorem ev_bits {G : Gam} {ρ : Ev} {i : Nat} {c : Int} (h : nth ρ i = some (.int c)) (hG : FnL G 40 [.int c] m ((bits c).map .int)) : Evd (wCB fLen (wCons (wCallN 40 1 (wCons (wVar i) wNil)) wNil)) G ρ m (.int (bits c).length) := by
  refine Evd.to (ev_cbl (ea_one (el_call (ea_cons (ev_var h) ea_nil) hG)) fun p m' e => fa_lenL e) ?_
  rw [List.length_map]
theorem sp49 (c d : Int) : Fn (Lv tb (L + 3)) 49 [.int c, .int d] m (pD (costL c d)) := by
  refine fn_by rfl rfl (r_set (x := .int (bits (joinedL c d)).length) ?_ ?_)
  · refine Evd.to (ev_cbl (ea_one (el_call (ea_cons (ev_call (by array_get_dec) (sp41 c d)) ea_nil) (sp40 _))) fun p m' e => fa_lenL e) ?_
    rw [List.length_map]
  · exact r_ret (ev_tup (ea_cons (ev_bin (ev_var rfl) (ev_bits rfl (sp40 c)) fv_sub) (ea_cons (ev_bin (ev_var rfl) (ev_bits rfl (sp40 d)) fv_sub) ea_nil)) (Nat.le_of_ble_eq_true rfl)) (.refl _)
theorem sp42 (c : Int) : Fn (Lv tb (L + 1)) 42 [.int c] m (.bl true) :=
  (fn_by rfl rfl (r_ret (ev_andB (by array_get_dec) fun _ => ev_not (by array_get_dec) tru_bl) (.refl _))).to (by rfl)
theorem sp43 (O : b.Ok) (tape : List Int) {i : Int} (hi : Cs i) (hz : Sz tape.length) : Fn (Lv tb (L + 3)) 43 [b.d, iD tape, .int i] m (stD (b.read tape i)) := by
  refine GFn.fn (fn_gor rfl rfl ?_)
  refine g_set ev_c ?_
  refine g_seq (Q1 := fun ρ' m' => ∃ ys j x4 x5, ρ' = [some b.d, some (iD tape), some (.int j), some (.str (catS ys)), x4, x5] ∧ m' = m ∧ b.rdP tape i = some (ys, j)) ?_ ?_
  · refine g_for (fun k ρ' m' => ∃ ys j x4 x5, ρ' = [some b.d, some (iD tape), some (.int j), some (.str (catS ys)), x4, x5] ∧ m' = m ∧ b.rdP (tape.take k) i = some (ys, j)) (ei_tup (ev_var rfl)) ⟨[], i, none, none, rfl, rfl, rfl⟩ (fun _ _ _ _ => True.intro) ?_ ?_
    · rintro k ρ' m' x ⟨ys, j, x4, x5, rfl, rfl, hr⟩ hx
      obtain ⟨c, hc, rfl⟩ := ix_ints hx
      obtain ⟨hj, hl, hy⟩ := O.rdP _ _ _ hi (fun y hy => by cases hy) _ _ hr
      refine ⟨_, rfl, ?_⟩
      refine g_set (ev_call (by array_get_dec) (sp37 O c hj)) ?_
      have ht := rdP_take b (i0 := i) hc
      rw [hr] at ht
      cases e : b.step c j with
      | none =>
        refine g_ifr (k := true) (et_tst (ev_bin (ev_var rfl) ev_c fv_is)) (fun _ => g_ret ev_c ?_) fun z => by cases z
        have hf : b.rdP (tape.take (k + 1)) i = none := by rw [ht]; unfold rdS; rw [Option.bind_some, e]; rfl
        rw [rdP_fail b hf]
        exact rd_ok (.refl _)
      | some r =>
        obtain ⟨s, j2⟩ := r
        refine g_ifr (k := false) (et_tst (ev_bin (ev_var rfl) ev_c fv_is)) (fun z => by cases z) fun _ => ?_
        have hb := (O.step hj e).2
        have hle := sum_le ys hy
        have hcl := catS_len ys
        refine g_tg1 (x := .tup [.str (catS ys ++ s), .int j2]) (ev_tup (ea_cons (ev_bin (ev_var rfl) (ev_bin (ev_var rfl) ev_c (fv_ixT (v := .str s) rfl)) (fv_addS ?_)) (ea_cons (ev_bin (ev_var rfl) ev_c (fv_ixT (v := .int j2) rfl)) ea_nil)) (Nat.le_of_ble_eq_true rfl)) (fun P h => ⟨rfl, h⟩) ?_
        · rw [sizeLine_eq]
          rw [List.length_nil, List.length_take] at hl
          have : Sz tape.length := hz
          unfold Sz at this
          omega
        · refine ⟨ys ++ [s], j2, some (.int c), some (stD (some (s, j2))), ?_, rfl, by rw [ht]; unfold rdS; rw [Option.bind_some, e]; rfl⟩
          rw [catS_app, show catS [s] = s ++ ("" : Str) from rfl, sapp_nil]
          rfl
    · rintro ρ' m' ⟨ys, j, x4, x5, h1, h2, h3⟩
      rw [List.length_map, List.take_length] at h3
      exact ⟨ys, j, x4, x5, h1, h2, h3⟩
  · rintro ρ' m' ⟨ys, j, x4, x5, rfl, rfl, hr⟩
    refine ⟨_, .refl _, ?_⟩
    have e1 : b.read tape i = some (catS ys, j) := by rw [← rdP_read, hr]; rfl
    rw [e1]
    exact g_ret (by array_get_dec) (rd_ok (.refl _))
end
end Tb
set_option Elab.async false
set_option linter.all false
set_option maxRecDepth 100000
set_option maxHeartbeats 0
namespace Tb
open PySem PySem.Spec PyProof.Rows L2 Qz Hd
-- array_mem_dec: an operator on values
local macro_rules | `(tactic| array_mem_dec) => `(tactic| with_reducible first
  | exact fv_add | exact fv_sub | exact fv_le | exact fv_lt | exact fv_gt | exact fv_ge | exact fv_eqI | exact fv_eqS | exact fv_eqB | exact fv_is | exact fv_isn | exact fv_isB | exact fv_isnB | exact fv_neg
  | exact fv_revT | exact fa_abs | exact fa_int | exact fa_lenT | exact fa_max2
  | (apply fv_mod; decide) | (apply fv_div; decide) | (apply fv_ixT; with_unfolding_all rfl)
  | (apply fv_ne; array_mem_dec) | (apply fa_isiI; with_unfolding_all rfl) | (apply fa_isiB; with_unfolding_all rfl) | (apply fa_isiU; with_unfolding_all rfl) | (apply fa_isiS; with_unfolding_all rfl) | (apply fa_isiD; with_unfolding_all rfl) | (apply fa_isiUL; with_unfolding_all rfl) | assumption)
local macro_rules | `(tactic| sizeOf_list_dec) => `(tactic| assumption)
-- array_get_dec: what an expression, a test evaluates to
local macro_rules | `(tactic| array_get_dec) => `(tactic| with_reducible first
  | exact ev_c | (apply ev_var; with_unfolding_all rfl) | exact ea_nil
  | (apply ea_cons; · array_get_dec
     · array_get_dec)
  | (apply ev_bin; · array_get_dec
     · array_get_dec
     · array_mem_dec)
  | (apply ev_un; · array_get_dec
     · array_mem_dec)
  | (apply ev_tup; · array_get_dec
     · first | with_unfolding_all decide | with_unfolding_all exact Nat.le_of_ble_eq_true rfl)
  | (apply ev_cb; · array_get_dec
     · array_mem_dec)
  | (apply ev_call; · array_get_dec
     · sizeOf_list_dec
     · with_unfolding_all rfl)
  | (apply et_tst; array_get_dec)
  | (apply et_tru; · array_get_dec
     · exact tru_bl)
  | (apply et_not; array_get_dec)
  | assumption)
local macro_rules | `(tactic| sizeOf_list_dec) => `(tactic| first | exact sp0 _ | exact sp1 _ _ _ | exact sp2 _ _ | exact sp7 | exact sp8 _ | exact sp10 _ | exact sp12 _ | exact sp11 (by assumption) _ | exact sp13 (by assumption) _ (by assumption) | exact sp15 (by assumption) | exact sp16 _ | exact sp17 _ _ | exact sp19 _ _ | exact sp18 (by assumption) (by assumption) | exact sp3 _ | exact sp36 | exact sp42 _ | exact sp41 _ _ | exact sp49 _ _ | assumption)
section
variable {m : Mm} {L : Nat} {b : Bk}
theorem cost_all : ∀ i j : Fin 32, costL (i.val : Int) (j.val : Int) = cost (i.val : Int) (j.val : Int) ∧ joinedL (i.val : Int) (j.val : Int) = joined (i.val : Int) (j.val : Int) ∧ 0 ≤ (cost (i.val : Int) (j.val : Int)).1 ∧ 0 ≤ (cost (i.val : Int) (j.val : Int)).2 := by decide +kernel
theorem cell_fin {c : Int} (h : cellB c = true) : ∃ i : Fin 32, c = (i.val : Int) := by
  have h1 : 0 ≤ c ∧ c ≤ 31 := by simpa [cellB] using h
  exact ⟨⟨c.toNat, by omega⟩, by show c = ((c.toNat : Nat) : Int); omega⟩
theorem cost_eq {c d : Int} (hc : cellB c = true) (hd : cellB d = true) : costL c d = cost c d := by
  obtain ⟨i, rfl⟩ := cell_fin hc
  obtain ⟨j, rfl⟩ := cell_fin hd
  exact (cost_all i j).1
theorem joined_eq {c d : Int} (hc : cellB c = true) (hd : cellB d = true) : joinedL c d = joined c d := by
  obtain ⟨i, rfl⟩ := cell_fin hc
  obtain ⟨j, rfl⟩ := cell_fin hd
  exact (cost_all i j).2.1
theorem cost_nn {c d : Int} (hc : cellB c = true) (hd : cellB d = true) : 0 ≤ (cost c d).1 ∧ 0 ≤ (cost c d).2 := by
  obtain ⟨i, rfl⟩ := cell_fin hc
  obtain ⟨j, rfl⟩ := cell_fin hd
  exact (cost_all i j).2.2
theorem max2 (i j : Int) : (if j > i then j else i) = max i j := by
  split <;> omega
theorem costsL {xs ys : List Int} (hx : xs.all cellB = true) (hy : ys.all cellB = true) : (xs.zip ys).map (fun p => costL p.1 p.2) = costs xs ys := by
  refine List.map_congr_left fun p hp => ?_
  obtain ⟨a, c⟩ := p
  exact cost_eq (List.all_eq_true.mp hx a (List.of_mem_zip hp).1) (List.all_eq_true.mp hy c (List.of_mem_zip hp).2)
def badL (xs : List Int) : List Int := xs.filterMap fun c => if cellB c then none else some 1
theorem badL_nil (xs : List Int) : (badL xs).isEmpty = xs.all cellB := by
  induction xs with
  | nil => rfl
  | cons c r ih =>
    unfold badL at ih ⊢
    rw [List.filterMap_cons, List.all_cons]
    cases h : cellB c with
    | true => simpa using ih
    | false => rfl
theorem sp52 (O : b.Ok) {t : Int} (xs ys : List Int) (hx : Sz xs.length) (hy : Sz ys.length) : Fn (Lv tb (L + 4)) 52 [b.d, .int t, cpD xs ys] m (.bl (cpB b t xs ys)) := by
  have hxy : (xs ++ ys).length ≤ sizeLine := by
    rw [List.length_append, sizeLine_eq]
    unfold Sz at hx hy
    omega
  refine GFn.fn (fn_gor rfl rfl ?_)
  refine g_ifr (k := false) (Evt.to (et_or (k := false) (l := false) (Evt.to (et_not (et_tru (by array_get_dec) tru_bl)) (by rfl)) fun _ => Evt.to (et_or (k := false) (l := false) (Evt.to (et_tst (ev_bin (by array_get_dec) ev_c (fv_ne fv_eqI))) (by rfl)) fun _ => et_tst (ev_binLL (xs := []) (ys := []) ?_ (fun m' s => el_lst ea_nil (Nat.le_of_ble_eq_true rfl)) fun p q m' e1 e2 => fv_ne (fv_eqNil e1 e2 rfl rfl))) rfl) rfl) (fun z => by cases z) fun _ => ?_
  · exact el_compA iD (fun _ => none) (xs := [xs, ys]) (ei_tup (ev_var rfl)) True.intro (Nat.le_of_ble_eq_true rfl) fun x hx => ⟨_, rfl, .inl ⟨rfl, Evt.to (et_not (et_tru (by array_get_dec) tru_bl)) (by rfl)⟩⟩
  refine g_tg (ev_var rfl) (fun P h => ⟨rfl, h⟩) ?_
  refine g_setL (xs := (badL (xs ++ ys)).map .int) ?_ fun p hp => ?_
  · have h := el_compA (own := [6]) (elt := wC (.int 1)) (t := wOr (wNot (wTru (wCallN 42 1 (wCons (wVar 6) wNil)))) (wNot (wTst (wChn gLe gLe (wC (.int 0)) (wVar 6) (wCallN 36 1 (wCons (wVar 0) wNil)))))) (p := .nm 6) (G := Lv tb (L + 3)) (m := m) (ρ := sto (sto (startD 12 [b.d, .int t, cpD xs ys]) 3 (some (iD xs))) 4 (some (iD ys))) .int (fun c => if cellB c then none else some (.int 1)) (xs := xs ++ ys) (wi := wIter (wBin fAdd (wVar 3) (wVar 4))) (ok := fun _ => True) ?_ True.intro hxy fun c hc => ⟨_, rfl, ?_⟩
    · rw [show (xs ++ ys).filterMap (fun c => if cellB c then none else some (D.int 1)) = (badL (xs ++ ys)).map .int from ?_] at h
      · exact h
      · unfold badL
        rw [List.map_filterMap]
        refine congrArg (fun q => List.filterMap q (xs ++ ys)) (funext fun c => ?_)
        cases cellB c <;> rfl
    · rw [List.map_append]
      exact ei_tup (ev_bin (ev_var rfl) (ev_var rfl) (fv_addT (by rw [List.length_map, List.length_map, ← List.length_append]; exact hxy)))
    · have ht : Evt (wOr (wNot (wTru (wCallN 42 1 (wCons (wVar 6) wNil)))) (wNot (wTst (wChn gLe gLe (wC (.int 0)) (wVar 6) (wCallN 36 1 (wCons (wVar 0) wNil)))))) (Lv tb (L + 3)) (sto (wip (sto (sto (startD 12 [b.d, .int t, cpD xs ys]) 3 (some (iD xs))) 4 (some (iD ys))) [6]) 6 (some (.int c))) m (!cellB c) :=
        Evt.to (et_or (k := false) (l := !cellB c) (Evt.to (et_not (et_tru (by array_get_dec) tru_bl)) (by rfl)) fun _ => et_not (et_tst (ev_chn ev_c (ev_var rfl) fv_le (fun _ => by array_get_dec) fun _ => fv_le))) (Bool.false_or _)
      cases q : cellB c with
      | true => rw [q] at ht; exact .inl ⟨rfl, ht⟩
      | false => rw [q] at ht; exact .inr ⟨_, rfl, ht, ev_c⟩
  have e0 : (m.set p (.lst ((badL (xs ++ ys)).map .int))) p = some (.lst ((badL (xs ++ ys)).map .int)) := Mm.set_same
  have hsub : Sub m (m.set p (.lst ((badL (xs ++ ys)).map .int))) := Sub.fresh hp
  refine g_ifr (k := !decide (xs.length = ys.length) || !(xs.all cellB && ys.all cellB)) (et_or ?_ fun _ => Evt.to (et_tst (ev_binR (ev_var rfl) (el_lst ea_nil (Nat.le_of_ble_eq_true rfl)) fun q m' hq s => fv_ne (fv_eqNilI (s.sets hq _ _ e0) s.at))) ?_) (fun e => ?_) (fun e => ?_)
  · refine Evt.to (et_tst (ev_bin (by array_get_dec) (by array_get_dec) (fv_ne fv_eqI))) ?_
    rw [List.length_map, List.length_map]
    have : decide ((xs.length : Int) = (ys.length : Int)) = decide (xs.length = ys.length) := decide_eq_decide.mpr Int.ofNat_inj
    rw [this]
  · rw [badL_nil, List.all_append]
  · refine g_ret ev_c ?_
    have : cpB b t xs ys = false := by
      unfold cpB
      cases h1 : xs.all cellB <;> cases h2 : ys.all cellB <;> cases h3 : decide (xs.length = ys.length) <;> simp_all
    rw [this]
    exact rd_ok hsub
  · have e1 : xs.all cellB = true ∧ ys.all cellB = true ∧ decide (xs.length = ys.length) = true := by
      cases h1 : xs.all cellB <;> cases h2 : ys.all cellB <;> cases h3 : decide (xs.length = ys.length) <;> simp_all
    have e2 : cpB b t xs ys = match b.read xs 0, b.read ys 0 with
      | some x, some y => !decide (x.1 = y.1) && decide (max (tornB xs ys).1 (tornB xs ys).2 ≤ t)
      | _, _ => false := by unfold cpB; rw [e1.1, e1.2.1, e1.2.2]; rfl
    rw [e2]
    generalize hm' : m.set p (.lst ((badL (xs ++ ys)).map .int)) = m1 at hsub ⊢
    have s1 := sp43 (m := m1) (L := L) O xs (i := 0) (.inl rfl) hx
    have s2 := sp43 (m := m1) (L := L) O ys (i := 0) (.inl rfl) hy
    refine g_tg (x := .tup [stD (b.read xs 0), stD (b.read ys 0)]) (ev_tup (ea_cons (ev_call (by array_get_dec) s1) (ea_cons (ev_call (by array_get_dec) s2) ea_nil)) (Nat.le_of_ble_eq_true rfl)) (fun P h => ⟨rfl, h⟩) ?_
    cases q1 : b.read xs 0 with
    | none => exact g_ifr (k := true) (Evt.to (et_or (k := true) (l := false) (et_tst (ev_bin (ev_var rfl) ev_c fv_is)) fun z => by cases z) rfl) (fun _ => g_ret ev_c (rd_ok hsub)) fun z => by cases z
    | some x =>
      cases q2 : b.read ys 0 with
      | none => exact g_ifr (k := true) (Evt.to (et_or (k := false) (et_tst (ev_bin (ev_var rfl) ev_c fv_is)) fun _ => et_or (k := true) (l := false) (et_tst (ev_bin (ev_var rfl) ev_c fv_is)) fun z => by cases z) rfl) (fun _ => g_ret ev_c (rd_ok hsub)) fun z => by cases z
      | some y =>
        obtain ⟨x1, x2⟩ := x
        obtain ⟨y1, y2⟩ := y
        refine g_ifr (k := decide (x1 = y1)) (Evt.to (et_or (k := false) (et_tst (ev_bin (ev_var rfl) ev_c fv_is)) fun _ => et_or (k := false) (l := decide (x1 = y1)) (et_tst (ev_bin (ev_var rfl) ev_c fv_is)) fun _ => by array_get_dec) rfl) (fun e => ?_) (fun e => ?_)
        · refine g_ret ev_c ?_
          show ∀ P Z, Rd (.bl (!decide (x1 = y1) && _)) m P Z → _
          rw [e]
          exact rd_ok hsub
        · show Go _ _ _ _ _ _ (Rd (.bl (!decide (x1 = y1) && _)) m)
          rw [e]
          refine g_setL (xs := (costs xs ys).map pD) ?_ fun r hr => ?_
          · rw [← costsL e1.1 e1.2.1]
            exact el_mapA _ pD (fun p : Int × Int => costL p.1 p.2) (ei_zipI (by array_get_dec)) True.intro (zip_le xs ys hx).le fun x hx => ⟨_, rfl, by array_get_dec⟩
          · have e3 : (m1.set r (.lst ((costs xs ys).map pD))) r = some (.lst ((costs xs ys).map pD)) := Mm.set_same
            refine g_ret (Evd.to (ev_bin (ev_cb (ea_cons (ev_cbl (ea_one (el_mapA pD .int (fun q : Int × Int => q.1) (ei_lst (ev_var rfl) e3) e3 (costs_len xs ys hx).le fun x hx => ⟨_, rfl, ev_bin (ev_var rfl) ev_c (fv_ixT rfl)⟩)) fun p m' e => fa_sumL e) (ea_cons (ev_cbl (ea_one (el_mapA pD .int (fun q : Int × Int => q.2) (ei_lst (ev_var rfl) e3) e3 (costs_len xs ys hx).le fun x hx => ⟨_, rfl, ev_bin (ev_var rfl) ev_c (fv_ixT rfl)⟩)) fun p m' e => fa_sumL e) ea_nil)) fa_max2) (ev_var rfl) fv_le) ?_) (rd_ok (hsub.trans (Sub.fresh hr)))
            rw [max2]
            rfl
/-- what is no tuple of two -/
theorem sp52n {t : Int} {x : D} {T : Ty} (h : tyD m x T) (hT : T ≠ .tuple) : Fn (Lv tb (L + 1)) 52 [b.d, .int t, x] m (.bl false) := by
  have e : subTy T .tuple = false := by cases T <;> first | rfl | exact absurd rfl hT
  have h2 := fa_isiU (m := m) (x := x) h
  rw [e] at h2
  refine GFn.fn (fn_gor rfl rfl ?_)
  exact g_ifr (k := true) (Evt.to (et_or (k := true) (l := false) (et_not (et_tru (ev_cb (by array_get_dec) h2) tru_bl)) fun z => by cases z) rfl) (fun _ => g_ret ev_c (rd_ok (.refl _))) fun z => by cases z
theorem sp52l {t : Int} {xs : List D} (h : ((xs.length : Int) = 2) = False) : Fn (Lv tb (L + 1)) 52 [b.d, .int t, .tup xs] m (.bl false) := by
  refine GFn.fn (fn_gor rfl rfl ?_)
  exact g_ifr (k := true) (Evt.to (et_or (k := false) (l := true) (Evt.to (et_not (et_tru (by array_get_dec) tru_bl)) (by rfl)) fun _ => Evt.to (et_or (k := true) (l := false) (Evt.to (et_tst (ev_bin (by array_get_dec) ev_c (fv_ne fv_eqI))) (by simp [h])) fun z => by cases z) rfl) rfl) (fun _ => g_ret ev_c (rd_ok (.refl _))) fun z => by cases z
end
end Tb
set_option Elab.async false
set_option linter.all false
set_option maxRecDepth 100000
set_option maxHeartbeats 0
namespace Tb
open PySem PySem.Spec PyProof.Rows L2 Qz Hd
-- array_mem_dec: an operator on values
local macro_rules | `(tactic| array_mem_dec) => `(tactic| with_reducible first
  | exact fv_add | exact fv_sub | exact fv_le | exact fv_lt | exact fv_gt | exact fv_ge | exact fv_eqI | exact fv_eqS | exact fv_eqB | exact fv_is | exact fv_isn | exact fv_isB | exact fv_isnB | exact fv_neg
  | exact fv_revT | exact fa_abs | exact fa_int | exact fa_lenT | exact fa_max2
  | (apply fv_mod; decide) | (apply fv_div; decide) | (apply fv_ixT; with_unfolding_all rfl)
  | (apply fv_ne; array_mem_dec) | (apply fa_isiI; with_unfolding_all rfl) | (apply fa_isiB; with_unfolding_all rfl) | (apply fa_isiU; with_unfolding_all rfl) | (apply fa_isiS; with_unfolding_all rfl) | (apply fa_isiD; with_unfolding_all rfl) | (apply fa_isiUL; with_unfolding_all rfl) | assumption)
local macro_rules | `(tactic| sizeOf_list_dec) => `(tactic| assumption)
-- array_get_dec: what an expression, a test evaluates to
local macro_rules | `(tactic| array_get_dec) => `(tactic| with_reducible first
  | exact ev_c | (apply ev_var; with_unfolding_all rfl) | exact ea_nil
  | (apply ea_cons; · array_get_dec
     · array_get_dec)
  | (apply ev_bin; · array_get_dec
     · array_get_dec
     · array_mem_dec)
  | (apply ev_un; · array_get_dec
     · array_mem_dec)
  | (apply ev_tup; · array_get_dec
     · first | with_unfolding_all decide | with_unfolding_all exact Nat.le_of_ble_eq_true rfl)
  | (apply ev_cb; · array_get_dec
     · array_mem_dec)
  | (apply ev_call; · array_get_dec
     · sizeOf_list_dec
     · with_unfolding_all rfl)
  | (apply et_tst; array_get_dec)
  | (apply et_tru; · array_get_dec
     · exact tru_bl)
  | (apply et_not; array_get_dec)
  | assumption)
local macro_rules | `(tactic| sizeOf_list_dec) => `(tactic| first | exact sp36 | exact sp42 _ | exact sp41 _ _ | exact sp49 _ _ | assumption)
section
variable {m : Mm} {L : Nat} {b : Bk}
/-- a drawing bag at p, its numbers at q -/
abbrev BagL (q : Addr) (l : List D) : Prop := ∃ b0 b1 b2 : Int, l = [.int b0, .int b1, .int b2, .ref q]
structure Bag (m : Mm) (p q : Addr) : Prop where
  l : ∃ l, BagL q l ∧ m p = some (.lst l)
  c : ∃ cs : List Int, m q = some (.lst (cs.map .int)) ∧ cs.length ≤ 63
  n : p ≠ q
theorem Bag.chg {m1 : Mm} {p q : Addr} (B : Bag m p q) (c : Chg (BagL q) m p m1) : Bag m1 p q := by
  obtain ⟨cs, h, hl⟩ := B.c
  exact ⟨c.at, ⟨cs, c.keep h (Ne.symm B.n), hl⟩, B.n⟩
theorem Bag.sub {m1 : Mm} {p q : Addr} (B : Bag m p q) (s : Sub m m1) : Bag m1 p q := by
  obtain ⟨l, h1, h2⟩ := B.l
  obtain ⟨cs, h, hl⟩ := B.c
  exact ⟨⟨l, h1, s _ _ h2⟩, ⟨cs, s _ _ h, hl⟩, B.n⟩
theorem cut_ints (cs : List Int) (lo hi : Option Int) : ∃ zs : List Int, Qz.cutD (cs.map .int) lo hi = zs.map .int ∧ zs.length ≤ cs.length := by
  refine ⟨(cs.drop (HT.sIx (cs.map D.int).length 0 lo)).take (HT.sIx (cs.map D.int).length (cs.map D.int).length hi - HT.sIx (cs.map D.int).length 0 lo), ?_, ?_⟩
  · unfold Qz.cutD
    rw [← List.map_drop, ← List.map_take]
  · rw [List.length_take, List.length_drop]
    omega
theorem sp34 {p q : Addr} (B : Bag m p q) {many : Int} (h0 : 0 < many) (h1 : many < 1073741824) : GFn (Lv tb (L + 1)) 34 [.ref p, .int many] m (Rp fun d m' => ∃ v : Int, d = .int v ∧ 0 ≤ v ∧ v < many ∧ Chg (BagL q) m p m') := by
  obtain ⟨⟨l, ⟨b0, b1, b2, rfl⟩, e0⟩, ⟨cs, eq, hc⟩, hn⟩ := B
  refine fn_gor rfl rfl ?_
  have St : ∀ {m' : Mm} {b0 b1 b2 : Int}, m' = m.set p (.lst [.int b0, .int b1, .int b2, .ref q]) → Chg (BagL q) m p m' := fun h => by subst h; exact ⟨_, ⟨_, _, _, rfl⟩, .refl _⟩
  -- the rest, from any such memory
  have rest : ∀ (x2 x3 : Option D) (b0 b1 b2 : Int), Go (wSeq (wIfS (wTst (wBin gGt (wBin fIx (wVar 0) (wC (.int 0))) (wC (.int 0)))) (wSeq (wAsg (wBin fMod (wCB fInt (wCons (wBin fIx (wVar 0) (wC (.int 0))) wNil)) (wVar 1)) (gNm 4)) (wSeq (wAsg (wBin fDiv (wCB fInt (wCons (wBin fIx (wVar 0) (wC (.int 0))) wNil)) (wVar 1)) (gSb fSet (wVar 0) (wC (.int 0)))) (wRet (wVar 4)))) wNext) (wSeq (wAsg (wBin fMod (wCB fInt (wCons (wBin fMul (wBin fAdd (wBin fIx (wVar 0) (wC (.int 1))) (wC (.int 1))) (wC (.int 39373))) wNil)) (wC (.int 1000000007))) (gNm 5)) (wSeq (wAsg (wBin fMod (wCB fInt (wCons (wBin fMul (wBin fMod (wCB fInt (wCons (wBin fMul (wVar 5) (wVar 5)) wNil)) (wC (.int 998244353))) (wC (.int 30011))) wNil)) (wC (.int 998244353))) (gNm 6)) (wRet (wBin fMod (wCB fInt (wCons (wBin fDiv (wVar 6) (wC (.int 7))) wNil)) (wVar 1))))))
      (Lv tb L) [some (.ref p), some (.int many), x2, x3, none, none, none] (m.set p (.lst [.int b0, .int b1, .int b2, .ref q])) No No (Rp fun d m' => ∃ v : Int, d = .int v ∧ 0 ≤ v ∧ v < many ∧ Chg (BagL q) m p m') := by
    intro x2 x3 b0 b1 b2
    have e0 : (m.set p (.lst [.int b0, .int b1, .int b2, .ref q])) p = some (.lst [.int b0, .int b1, .int b2, .ref q]) := Mm.set_same
    refine g_ifr (k := decide (0 < b0)) (et_tst (ev_bin (ev_bin (ev_var rfl) ev_c (fv_ixL (v := .int b0) e0 rfl)) ev_c fv_gt)) (fun _ => ?_) fun _ => ?_
    · refine g_set (ev_bin (ev_cb (ea_cons (ev_bin (ev_var rfl) ev_c (fv_ixL (v := .int b0) e0 rfl)) ea_nil) fa_int) (ev_var rfl) (fv_mod h0)) ?_
      refine g_tgM (ev_bin (ev_cb (ea_cons (ev_bin (ev_var rfl) ev_c (fv_ixL (v := .int b0) e0 rfl)) ea_nil) fa_int) (ev_var rfl) (fv_div ⟨h0, h1⟩)) (gs_list (ev_var rfl) ev_c e0 (k := 0) (j := 0) rfl) ?_
      refine g_ret (ev_var rfl) fun P Z hr => ⟨_, .refl _, hr _ _ ⟨b0 % many, rfl, Int.emod_nonneg _ (by omega), Int.emod_lt_of_pos _ h0, St (by rw [Mm.set_set]; rfl)⟩⟩
    · refine g_set (ev_bin (ev_cb (ea_cons (ev_bin (ev_bin (ev_bin (ev_var rfl) ev_c (fv_ixL (v := .int b1) e0 rfl)) ev_c fv_add) ev_c (fv_mul (.inr (by decide)))) ea_nil) fa_int) ev_c (fv_mod (by decide))) ?_
      have hb : 0 ≤ (b1 + 1) * 39373 % 1000000007 ∧ (b1 + 1) * 39373 % 1000000007 < 1000000007 := ⟨Int.emod_nonneg _ (by decide), Int.emod_lt_of_pos _ (by decide)⟩
      refine g_set (ev_bin (ev_cb (ea_cons (ev_bin (ev_bin (ev_cb (ea_cons (ev_bin (ev_var rfl) (ev_var rfl) (fv_mul (.inr ⟨by omega, by omega⟩))) ea_nil) fa_int) ev_c (fv_mod (by decide))) ev_c (fv_mul (.inr (by decide)))) ea_nil) fa_int) ev_c (fv_mod (by decide))) ?_
      refine g_ret (ev_bin (ev_cb (ea_cons (ev_bin (ev_var rfl) ev_c (fv_div ⟨by decide, by decide⟩)) ea_nil) fa_int) (ev_var rfl) (fv_mod h0)) fun P Z hr => ⟨_, .refl _, hr _ _ ⟨_, rfl, Int.emod_nonneg _ (by omega), Int.emod_lt_of_pos _ h0, St rfl⟩⟩
  refine g_ifs (k := decide (b0 = 0)) (Q1 := fun ρ' m' => ∃ x2 x3 b0 b1 b2, ρ' = [some (.ref p), some (.int many), x2, x3, none, none, none] ∧ m' = m.set p (.lst [.int b0, .int b1, .int b2, .ref q])) (et_tst (ev_bin (ev_bin (ev_var rfl) ev_c (fv_ixL (v := .int b0) e0 rfl)) ev_c fv_eqI)) (fun _ => ?_) (fun _ ρ' m' h => ?_) fun _ => ?_
  · obtain ⟨zs, ez, hz⟩ := cut_ints cs (some b2) none
    have hcell : ∃ c : Int, Evd (wBin fIx (wBin fAdd (wSl (wBin fIx (wVar 0) (wC (.int 3))) (pAt (wBin fIx (wVar 0) (wC (.int 2)))) pNo) (wLst (wCons (wC (.int 0)) wNil))) (wC (.int 0))) (Lv tb L) (startD 7 [.ref p, .int many]) m (.int c) := by
      obtain ⟨c, r, er⟩ : ∃ c r, zs ++ [(0 : Int)] = c :: r := by cases zs with
        | nil => exact ⟨_, _, rfl⟩
        | cons c r => exact ⟨c, r ++ [0], rfl⟩
      refine ⟨c, ev_binL (xs := (zs ++ [(0 : Int)]).map .int) (el_binLL (xs := zs.map .int) (ys := [.int 0]) ?_ (fun m' s => el_lst (ea_cons ev_c ea_nil) (Nat.le_of_ble_eq_true rfl)) fun a c m' ea ec => ?_) (fun m' s => ev_c) fun a m' ha s => fv_ixL (v := .int c) s.at (by rw [er]; exact atI_nat (j := 0) rfl)⟩
      · rw [← ez]
        exact el_slL (ev_bin (ev_var rfl) ev_c (fv_ixL (v := .ref q) e0 rfl)) eq (ep_at (ev_bin (ev_var rfl) ev_c (fv_ixL (v := .int b2) e0 rfl))) ep_no
      · rw [List.map_append]
        exact fl_add ea ec (by rw [List.length_map, sizeLine_eq]; show zs.length + 1 ≤ _; omega)
    obtain ⟨c, hcell⟩ := hcell
    refine g_set hcell ?_
    refine g_seq (Q1 := fun ρ' m' => ρ' = [some (.ref p), some (.int many), some (.int c), none, none, none, none] ∧ m' = m.set p (.lst [.int b0, .int b1, .int (b2 + 1), .ref q])) (g_augL (ev_var rfl) ev_c e0 (by decide) (by rfl) ev_c (j := 2) rfl ⟨rfl, rfl⟩) ?_
    rintro ρ' m' ⟨rfl, rfl⟩
    refine ⟨_, .refl _, ?_⟩
    have tail : ∀ b0 : Int, Go (wSeq (wAsg (wBin fAdd (wBin fAdd (wBin fMul (wBin fIx (wVar 0) (wC (.int 1))) (wC (.int 48271))) (wBin fMod (wCB fInt (wCons (wVar 2) wNil)) (wC (.int 2147483647)))) (wBin fMul (wC (.int 7919)) (wBin fIx (wVar 0) (wC (.int 2))))) (gNm 3)) (wAsg (wBin fMod (wCB fInt (wCons (wVar 3) wNil)) (wC (.int 2147483647))) (gSb fSet (wVar 0) (wC (.int 1)))))
        (Lv tb L) [some (.ref p), some (.int many), some (.int c), none, none, none, none] (m.set p (.lst [.int b0, .int b1, .int (b2 + 1), .ref q])) (fun ρ' m' => ∃ x2 x3 b0 b1 b2, ρ' = [some (.ref p), some (.int many), x2, x3, none, none, none] ∧ m' = m.set p (.lst [.int b0, .int b1, .int b2, .ref q])) No (Rp fun d m' => ∃ v : Int, d = .int v ∧ 0 ≤ v ∧ v < many ∧ Chg (BagL q) m p m') := by
      intro b0
      have e0 : (m.set p (.lst [.int b0, .int b1, .int (b2 + 1), .ref q])) p = some (.lst [.int b0, .int b1, .int (b2 + 1), .ref q]) := Mm.set_same
      refine g_set (ev_bin (ev_bin (ev_bin (ev_bin (ev_var rfl) ev_c (fv_ixL (v := .int b1) e0 rfl)) ev_c (fv_mul (.inr (by decide)))) (ev_bin (ev_cb (ea_cons (ev_var rfl) ea_nil) fa_int) ev_c (fv_mod (by decide))) fv_add) (ev_bin ev_c (ev_bin (ev_var rfl) ev_c (fv_ixL (v := .int (b2 + 1)) e0 rfl)) (fv_mul (.inl (by decide)))) fv_add) ?_
      exact g_tgM1 (ev_bin (ev_cb (ea_cons (ev_var rfl) ea_nil) fa_int) ev_c (fv_mod (by decide))) (gs_list (ev_var rfl) ev_c e0 (k := 1) (j := 1) rfl) ⟨_, _, _, _, _, rfl, by rw [Mm.set_set]; rfl⟩
    have e1 : (m.set p (.lst [.int b0, .int b1, .int (b2 + 1), .ref q])) p = some (.lst [.int b0, .int b1, .int (b2 + 1), .ref q]) := Mm.set_same
    refine g_ifs (k := decide ((10 : Int) ^ (18 : Int).toNat ≤ c)) (Q1 := fun ρ' m' => ρ' = [some (.ref p), some (.int many), some (.int c), none, none, none, none] ∧ m' = m.set p (.lst [.int c, .int b1, .int (b2 + 1), .ref q])) (et_tst (ev_bin (ev_var rfl) (ev_bin ev_c ev_c (fv_pow ⟨by decide, by decide, by decide⟩)) fv_ge)) (fun _ => ?_) (fun _ ρ' m' h => ?_) fun _ => tail b0
    · exact g_tgM1 (ev_var rfl) (gs_list (ev_var rfl) ev_c e1 (k := 0) (j := 0) rfl) ⟨rfl, by rw [Mm.set_set]; rfl⟩
    · obtain ⟨rfl, rfl⟩ := h
      exact ⟨_, .refl _, tail c⟩
  · obtain ⟨x2, x3, b0, b1, b2, rfl, rfl⟩ := h
    exact ⟨_, .refl _, rest x2 x3 b0 b1 b2⟩
  · have := rest none none b0 b1 b2
    rwa [Mm.set_id e0] at this
end
end Tb
set_option Elab.async false
set_option linter.all false
set_option maxRecDepth 100000
set_option maxHeartbeats 0
namespace Tb
open PySem PySem.Spec PyProof.Rows L2 Qz Hd
-- array_mem_dec: an operator on values
local macro_rules | `(tactic| array_mem_dec) => `(tactic| with_reducible first
  | exact fv_add | exact fv_sub | exact fv_le | exact fv_lt | exact fv_gt | exact fv_ge | exact fv_eqI | exact fv_eqS | exact fv_eqB | exact fv_is | exact fv_isn | exact fv_isB | exact fv_isnB | exact fv_neg
  | exact fv_revT | exact fa_abs | exact fa_int | exact fa_lenT | exact fa_max2
  | (apply fv_mod; decide) | (apply fv_div; decide) | (apply fv_ixT; with_unfolding_all rfl)
  | (apply fv_ne; array_mem_dec) | (apply fa_isiI; with_unfolding_all rfl) | (apply fa_isiB; with_unfolding_all rfl) | (apply fa_isiU; with_unfolding_all rfl) | (apply fa_isiS; with_unfolding_all rfl) | (apply fa_isiD; with_unfolding_all rfl) | (apply fa_isiUL; with_unfolding_all rfl) | assumption)
local macro_rules | `(tactic| sizeOf_list_dec) => `(tactic| assumption)
-- array_get_dec: what an expression, a test evaluates to
local macro_rules | `(tactic| array_get_dec) => `(tactic| with_reducible first
  | exact ev_c | (apply ev_var; with_unfolding_all rfl) | exact ea_nil
  | (apply ea_cons; · array_get_dec
     · array_get_dec)
  | (apply ev_bin; · array_get_dec
     · array_get_dec
     · array_mem_dec)
  | (apply ev_un; · array_get_dec
     · array_mem_dec)
  | (apply ev_tup; · array_get_dec
     · first | with_unfolding_all decide | with_unfolding_all exact Nat.le_of_ble_eq_true rfl)
  | (apply ev_cb; · array_get_dec
     · array_mem_dec)
  | (apply ev_call; · array_get_dec
     · sizeOf_list_dec
     · with_unfolding_all rfl)
  | (apply et_tst; array_get_dec)
  | (apply et_tru; · array_get_dec
     · exact tru_bl)
  | (apply et_not; array_get_dec)
  | assumption)
local macro_rules | `(tactic| sizeOf_list_dec) => `(tactic| first | exact sp36 | exact sp42 _ | exact sp41 _ _ | exact sp49 _ _ | assumption)
section
variable {m : Mm} {L : Nat} {b : Bk}
theorem ixN_in {n : Nat} {v : Int} (h0 : 0 ≤ v) (h1 : v < n) : ixN n v = some v.toNat := by
  obtain ⟨k, rfl⟩ := Int.eq_ofNat_of_zero_le h0
  unfold ixN
  simp only [Int.toNat_natCast]
  rw [if_pos h1, if_pos h0]
theorem sp44 {x : D} {zs : List Int} (hl : zs.length ≤ 63) (hx : ∀ G, Evl (wSl (wVar 0) pNo (pAt (wC (.int 63)))) G (startD 2 [x]) m (zs.map .int)) : GFn (Lv tb (L + 1)) 44 [x] m (Rp fun d m' => ∃ p q, d = .ref p ∧ Bag m' p q ∧ Sub m m' ∧ Fr m p ∧ Fr m q) := by
  refine fn_gor rfl rfl ?_
  have hin : Evl (wComp (wIter (wSl (wVar 0) pNo (pAt (wC (.int 63))))) (.nm 1) wTrue (wCB fAbs (wCons (wVar 1) wNil)) [1]) (Lv tb L) (startD 2 [x]) m ((zs.map fun c => if c < 0 then -c else c).map .int) := by
    refine el_mapFA .int .int (fun c => if c < 0 then -c else c) ?_ (by rw [sizeLine_eq]; omega) fun m' s x hx => ⟨_, rfl, by array_get_dec⟩
    exact hx _
  refine g_retR (T := fun d m' => ∃ p q, d = .ref p ∧ Bag m' p q ∧ Sub m m' ∧ Fr m p ∧ Fr m q) ?_ fun P Z h d m' t => ⟨m', .refl _, h d m' t⟩
  have hT : Era (wCons (wC (.int 0)) (wCons (wC (.int 1234567891)) (wCons (wC (.int 0)) (wCons (wComp (wIter (wSl (wVar 0) pNo (pAt (wC (.int 63))))) (.nm 1) wTrue (wCB fAbs (wCons (wVar 1) wNil)) [1]) wNil)))) (Lv tb L) (startD 2 [x]) m fun ds m1 => ∃ q, ds = [.int 0, .int 1234567891, .int 0, .ref q] ∧ Fr m q ∧ Sub (m.set q (.lst ((zs.map fun c => if c < 0 then -c else c).map .int))) m1 :=
    era_consD ev_c (era_consD ev_c (era_consD ev_c (era_consL hin fun q m1 hq s => era_nil ⟨q, rfl, hq, s⟩)))
  refine Evr.imp (er_lst hT fun ds m1 ⟨q, h, _⟩ => by rw [h]; exact Nat.le_of_ble_eq_true rfl) ?_
  rintro d m' ⟨ds, m1, p, rfl, ⟨q, rfl, hq, s⟩, hp, rfl⟩
  have hpq : p ≠ q := (hp.ne s.at).symm
  have hs := s.sets hq
  refine ⟨p, q, rfl, ⟨⟨_, ⟨_, _, _, rfl⟩, Mm.set_same⟩, ⟨zs.map fun c => if c < 0 then -c else c, ?_, by rw [List.length_map]; exact hl⟩, hpq⟩, hs.trans (Sub.fresh hp), hp.sub hs, hq⟩
  rw [Mm.set_ne hpq.symm]
  exact s.at
theorem sp35 {p q r : Addr} {xs : List D} (B : Bag m p q) (e : m r = some (.lst xs)) (hr : r ≠ p) (h0 : xs ≠ []) (hz : xs.length < 1073741824) : GFn (Lv tb (L + 2)) 35 [.ref p, .ref r] m (Rp fun d m' => d ∈ xs ∧ Chg (BagL q) m p m') := by
  refine fn_gor rfl rfl ?_
  have hl : 0 < xs.length := by
    cases xs with
    | nil => exact absurd rfl h0
    | cons => exact Nat.succ_pos _
  refine g_retR (T := fun d m' => d ∈ xs ∧ Chg (BagL q) m p m') ?_ fun P Z h d m' t => ⟨m', .refl _, h d m' t⟩
  refine er_binR (ev_var rfl) (er_call (ea_cons (ev_var rfl) (ea_cons (ev_cb (ea_cons (ev_var rfl) ea_nil) (fa_lenL e)) ea_nil)) (sp34 B (by omega) (by omega))) ?_
  rintro y m' ⟨v, rfl, v0, v1, c⟩
  have hx : v.toNat < xs.length := by omega
  refine ⟨xs[v.toNat], fv_ixL (c.keep e hr) ?_, List.getElem_mem hx, c⟩
  unfold atI
  rw [ixN_in v0 v1]
  exact List.getElem?_eq_getElem hx
theorem erase_perm {α : Type} : ∀ (l : List α) (j : Nat) (h : j < l.length), (l[j] :: l.eraseIdx j).Perm l
  | x :: r, 0, _ => .refl _
  | x :: r, j + 1, h => by
    have ih := erase_perm r j (Nat.lt_of_succ_lt_succ h)
    exact (List.Perm.swap x _ _).trans (ih.cons x)
/-- a number, or a text -/
def Atom (d : D) : Prop := (∃ i, d = .int i) ∨ ∃ s, d = .str s ∧ PyData.strOk s = true
theorem atoms_py {xs : List D} (h : ∀ d ∈ xs, Atom d) : isPys xs = true := isPys_of fun d hd => by
  rcases h d hd with ⟨i, rfl⟩ | ⟨s, rfl, _⟩ <;> rfl
theorem atoms_shp {xs : List D} (h : ∀ d ∈ xs, Atom d) : SeqAt.shaped (.list (pyDs xs)) = true := by
  rw [pyDs_map]
  refine shp_lst fun p hp => ?_
  obtain ⟨d, hd, rfl⟩ := List.mem_map.mp hp
  rcases h d hd with ⟨i, rfl⟩ | ⟨s, rfl, hs⟩
  · exact ⟨by simp [pyD, PyData.canLay0], Nat.zero_le _⟩
  · exact ⟨by simp [pyD, PyData.canLay0, hs], Nat.zero_le _⟩
theorem sp39 {p q r : Addr} {xs : List D} (B : Bag m p q) (e : m r = some (.lst xs)) (hA : ∀ d ∈ xs, Atom d) (hz : xs.length < 1000) : GFn (Lv tb (L + 2)) 39 [.ref p, .ref r] m (Rp fun d m' => ∃ f ys, d = .ref f ∧ m' f = some (.lst ys) ∧ ys.Perm xs ∧ Chg (BagL q) m p m' ∧ Fr m f) := by
  obtain ⟨l0, hb0, ep⟩ := B.l
  refine fn_gor rfl rfl ?_
  refine g_tgR (T := fun d m' => ∃ a c, d = .tup [.ref a, .ref c] ∧ Fr m a ∧ Fr m c ∧ a ≠ c ∧ m' a = some (.lst xs) ∧ m' c = some (.lst []) ∧ Sub m m') ?_ ?_
  · have h1 : Evl (wCB fList (wCons (wVar 1) wNil)) (Lv tb (L + 1)) (startD 4 [.ref p, .ref r]) m xs := el_cb (ea_cons (ev_var rfl) ea_nil) (fal_listL e)
    have h2 : ∀ m1, Evl (wLst wNil) (Lv tb (L + 1)) (startD 4 [.ref p, .ref r]) m1 [] := fun m1 => el_lst ea_nil (Nat.le_of_ble_eq_true rfl)
    have hT : Era (wCons (wCB fList (wCons (wVar 1) wNil)) (wCons (wLst wNil) wNil)) (Lv tb (L + 1)) (startD 4 [.ref p, .ref r]) m fun ds m' => ∃ a c, ds = [.ref a, .ref c] ∧ Fr m a ∧ Fr m c ∧ a ≠ c ∧ m' a = some (.lst xs) ∧ m' c = some (.lst []) ∧ Sub m m' :=
      era_consL h1 fun a m1 ha s1 => era_consL (h2 m1) fun c m2 hc s2 => era_nil ⟨a, c, rfl, ha, hc.sub (s1.sets ha), hc.ne s1.at, s2.sets hc _ _ s1.at, s2.at, (s1.sets ha).trans (s2.sets hc)⟩
    refine Evr.imp (er_tup hT fun ds m1 ⟨a, c, h, _⟩ => by rw [h]; exact Nat.le_of_ble_eq_true rfl) ?_
    rintro d m' ⟨ds, rfl, a, c, rfl, h⟩
    exact ⟨a, c, rfl, h⟩
  rintro d m1 ⟨a, c, rfl, ha, hc, hac, ea, ec, s1⟩
  have hap : a ≠ p := ha.ne ep |>.symm
  have hcp : c ≠ p := hc.ne ep |>.symm
  refine ⟨_, m1, m1, fun P h => ⟨rfl, h⟩, .refl _, ?_⟩
  refine g_seq (Q1 := fun ρ' m' => ∃ fs, ρ' = [some (.ref p), some (.ref r), some (.ref a), some (.ref c)] ∧ m' c = some (.lst fs) ∧ Chg (BagL q) m p m' ∧ fs.Perm xs) ?_ ?_
  · refine g_while (n0 := xs.length) (fun n ρ' m' => ∃ ls fs, ρ' = [some (.ref p), some (.ref r), some (.ref a), some (.ref c)] ∧ m' a = some (.lst ls) ∧ m' c = some (.lst fs) ∧ Chg (BagL q) m p m' ∧ (ls ++ fs).Perm xs ∧ ls.length = n) ⟨xs, [], rfl, ea, ec, (Chg.id ep hb0).sub s1, by rw [List.append_nil], rfl⟩ ?_
    rintro n ρ' m' ⟨ls, fs, rfl, ea, ec, hch, hp, rfl⟩
    have hle : ls.length + fs.length = xs.length := by rw [← List.length_append]; exact hp.length_eq
    have hA' : ∀ d ∈ ls, Atom d := fun d hd => hA d (hp.subset (List.mem_append_left _ hd))
    refine ⟨!ls.isEmpty, et_tst (ev_binR (ev_var rfl) (el_lst ea_nil (Nat.le_of_ble_eq_true rfl)) fun w m2 hw s => fv_ne (fv_eqNil (s.sets hw _ _ ea) s.at (atoms_py hA') (atoms_shp hA'))), fun hk => ?_, fun hk => ?_⟩
    · have hne : ls ≠ [] := fun z => by subst z; cases hk
      have hl : 0 < ls.length := List.length_pos_iff.mpr hne
      have B' := B.chg hch
      refine g_appendR (T := fun y m3 => ∃ j m2, ls[j]? = some y ∧ Chg (BagL q) m' p m2 ∧ m3 = m2.set a (.lst (ls.eraseIdx j))) (ev_var rfl) ec (er_popR (ev_var rfl) ea (er_call (ea_cons (ev_var rfl) (ea_cons (ev_cb (ea_cons (ev_var rfl) ea_nil) (fa_lenL ea)) ea_nil)) (sp34 B' (by omega) (by omega))) ?_) ?_
      · rintro d m2 ⟨v, rfl, v0, v1, ch⟩
        have hx : v.toNat < ls.length := by omega
        exact ⟨v, ls, v.toNat, ls[v.toNat], rfl, ch.keep ea hap, ixN_in v0 v1, List.getElem?_eq_getElem hx, v.toNat, m2, List.getElem?_eq_getElem hx, ch, rfl⟩
      · rintro y m3 ⟨j, m2, hy, ch, rfl⟩
        have ec2 : (m2.set a (.lst (ls.eraseIdx j))) c = some (.lst fs) := by rw [Mm.set_ne hac.symm]; exact ch.keep ec hcp
        obtain ⟨hj, ey⟩ := List.getElem?_eq_some_iff.mp hy
        refine ⟨fs, ec2, by rw [sizeLine_eq]; omega, (ls.eraseIdx j).length, by rw [List.length_eraseIdx, if_pos hj]; omega, ls.eraseIdx j, fs ++ [y], rfl, ?_, Mm.set_same, ?_, ?_, rfl⟩
        · rw [Mm.set_ne hac, Mm.set_same]
        · exact ((hch.trans ch).new ha hap).new hc hcp
        · refine List.Perm.trans ?_ hp
          rw [← ey, ← List.append_assoc]
          refine (List.perm_append_singleton _ _).trans ?_
          rw [← List.cons_append]
          exact (erase_perm ls j hj).append_right fs
    · have : ls = [] := by cases ls with
        | nil => rfl
        | cons => cases hk
      subst this
      exact ⟨fs, rfl, ec, hch, hp⟩
  · rintro ρ' m' ⟨fs, rfl, ec, hch, hp⟩
    exact ⟨m', .refl _, g_ret (ev_var rfl) fun P Z h => ⟨m', .refl _, h _ _ ⟨c, fs, rfl, ec, hp, hch, hc⟩⟩⟩
end
end Tb
set_option Elab.async false
set_option linter.all false
set_option maxRecDepth 100000
set_option maxHeartbeats 0
namespace Tb
open PySem PySem.Spec PyProof.Rows L2 Qz Hd
-- array_mem_dec: an operator on values
local macro_rules | `(tactic| array_mem_dec) => `(tactic| with_reducible first
  | exact fv_add | exact fv_sub | exact fv_le | exact fv_lt | exact fv_gt | exact fv_ge | exact fv_eqI | exact fv_eqS | exact fv_eqB | exact fv_is | exact fv_isn | exact fv_isB | exact fv_isnB | exact fv_neg
  | exact fv_revT | exact fa_abs | exact fa_int | exact fa_lenT | exact fa_max2
  | (apply fv_mod; decide) | (apply fv_div; decide) | (apply fv_ixT; with_unfolding_all rfl)
  | (apply fv_ne; array_mem_dec) | (apply fa_isiI; with_unfolding_all rfl) | (apply fa_isiB; with_unfolding_all rfl) | (apply fa_isiU; with_unfolding_all rfl) | (apply fa_isiS; with_unfolding_all rfl) | (apply fa_isiD; with_unfolding_all rfl) | (apply fa_isiUL; with_unfolding_all rfl) | assumption)
local macro_rules | `(tactic| sizeOf_list_dec) => `(tactic| assumption)
-- array_get_dec: what an expression, a test evaluates to
local macro_rules | `(tactic| array_get_dec) => `(tactic| with_reducible first
  | exact ev_c | (apply ev_var; with_unfolding_all rfl) | exact ea_nil
  | (apply ea_cons; · array_get_dec
     · array_get_dec)
  | (apply ev_bin; · array_get_dec
     · array_get_dec
     · array_mem_dec)
  | (apply ev_un; · array_get_dec
     · array_mem_dec)
  | (apply ev_tup; · array_get_dec
     · first | with_unfolding_all decide | with_unfolding_all exact Nat.le_of_ble_eq_true rfl)
  | (apply ev_cb; · array_get_dec
     · array_mem_dec)
  | (apply ev_call; · array_get_dec
     · sizeOf_list_dec
     · with_unfolding_all rfl)
  | (apply et_tst; array_get_dec)
  | (apply et_tru; · array_get_dec
     · exact tru_bl)
  | (apply et_not; array_get_dec)
  | assumption)
local macro_rules | `(tactic| sizeOf_list_dec) => `(tactic| first | exact sp36 | exact sp42 _ | exact sp41 _ _ | exact sp49 _ _ | assumption)
section
variable {m : Mm} {L : Nat} {b : Bk}
theorem ints_of : ∀ {xs : List D}, (∀ d ∈ xs, ∃ i, d = .int i) → ∃ zs : List Int, xs = zs.map .int
  | [], _ => ⟨[], rfl⟩
  | x :: r, h => by
    obtain ⟨zs, e⟩ := ints_of (xs := r) fun d hd => h d (List.mem_cons_of_mem _ hd)
    obtain ⟨i, e2⟩ := h x List.mem_cons_self
    exact ⟨i :: zs, by rw [e, e2]; rfl⟩
theorem strs_of {T : Str → Prop} : ∀ {xs : List D}, (∀ d ∈ xs, ∃ i, d = .str i ∧ T i) → ∃ zs : List Str, xs = zs.map .str ∧ ∀ z ∈ zs, T z
  | [], _ => ⟨[], rfl, fun _ h => by cases h⟩
  | x :: r, h => by
    obtain ⟨zs, e, t⟩ := strs_of (xs := r) fun d hd => h d (List.mem_cons_of_mem _ hd)
    obtain ⟨i, e2, t2⟩ := h x List.mem_cons_self
    exact ⟨i :: zs, by rw [e, e2]; rfl, fun z hz => by
      rcases List.mem_cons.mp hz with rfl | hz
      · exact t2
      · exact t z hz⟩
theorem goods_ne (b : Bk) : b.goods ≠ [] := fun h => by
  have : (0 : Int) ∈ b.goods := Bk.goods_mem.mpr ⟨by decide, rfl⟩
  rw [h] at this
  cases this
theorem sp47 (O : b.Ok) {p q : Addr} (B : Bag m p q) {most : Int} (h0 : 0 ≤ most) (h1 : most < 1000) : GFn (Lv tb (L + 4)) 47 [.ref p, b.d, .int most] m (Rp fun d m' => ∃ zs : List Int, d = iD zs ∧ (zs.length : Int) ≤ most ∧ Chg (BagL q) m p m') := by
  obtain ⟨l0, hb0, ep⟩ := B.l
  refine fn_gor rfl rfl ?_
  refine g_retR (T := fun d m' => ∃ zs : List Int, d = iD zs ∧ (zs.length : Int) ≤ most ∧ Chg (BagL q) m p m') ?_ fun P Z h d m' t => ⟨m', .refl _, h d m' t⟩
  refine er_cb (T := fun ds m' => ∃ (r : Addr) (zs : List Int), ds = [.ref r] ∧ m' r = some (.lst (zs.map D.int)) ∧ (zs.length : Int) ≤ most ∧ Chg (BagL q) m p m') (era_cons (er_compR (T := fun its m1 => ∃ v : Int, its = ((List.range v.toNat).map fun i => D.int (0 + (i : Nat))) ∧ 0 ≤ v ∧ v ≤ most ∧ Chg (BagL q) m p m1) ?_ ?_ (fun its i acc m' => (its.length : Int) ≤ most ∧ ∃ zs : List Int, acc = zs.map .int ∧ Chg (BagL q) m p m') ?_ ?_) ?_) ?_
  · intro Z P k
    refine (er_call (by array_get_dec) (sp34 B (many := most + 1) (by omega) (by omega)) : Evr (wCallN 34 2 (wCons (wVar 0) (wCons (wBin fAdd (wVar 2) (wC (.int 1))) wNil))) (Lv tb (L + 3)) (startD 4 [.ref p, b.d, .int most]) m _) _ _ ?_
    rintro d m1 ⟨v, rfl, v0, v1, c⟩
    exact ⟨⟨by omega, by omega⟩, k _ _ ⟨v, rfl, v0, by omega, c⟩⟩
  · rintro its m1 ⟨v, rfl, v0, v1, c⟩
    rw [List.length_map, List.length_range, sizeLine_eq]
    omega
  · rintro its m1 ⟨v, rfl, v0, v1, c⟩
    refine ⟨?_, [], rfl, c⟩
    rw [List.length_map, List.length_range]
    omega
  · rintro its m1 ⟨v, rfl, v0, v1, c⟩ i acc m' x ⟨hl, zs, rfl, ch⟩ hx
    have B' := B.chg ch
    obtain ⟨l1, hb1, ep'⟩ := B'.l
    refine ⟨_, rfl, er_callA (T := fun ds m2 => ∃ r, ds = [.ref p, .ref r] ∧ m2 r = some (.lst (b.goods.map .int)) ∧ r ≠ p ∧ Sub m' m2) (era_consD (ev_var rfl) (era_consL (el_call (by array_get_dec) (sp38 O)) fun r m2 hr s => era_nil ⟨r, rfl, s.at, (hr.ne ep').symm, s.sets hr⟩)) ?_⟩
    rintro ds m2 ⟨r, rfl, er, hrp, s⟩
    refine ⟨rfl, (sp35 (B'.sub s) er hrp (fun z => goods_ne b (List.map_eq_nil_iff.mp z)) (by rw [List.length_map]; have := b.goods_len; omega)).imp fun P Z h d m3 ⟨hd, c3⟩ => h d m3 ?_⟩
    obtain ⟨z, hz, rfl⟩ := List.mem_map.mp hd
    exact ⟨hl, zs ++ [z], by rw [List.map_append]; rfl, (ch.sub s).trans c3⟩
  · rintro d m' ⟨r, its, acc, m1, rfl, hr, rfl, hl, hm, zs, rfl, ch⟩
    have hrp : r ≠ p := by
      obtain ⟨l1, _, e⟩ := ch.at
      exact (hr.ne e).symm
    refine era_nil ⟨r, zs, rfl, Mm.set_same, ?_, ch.new (ch.fr hr) hrp⟩
    rw [List.length_map] at hl
    omega
  · rintro ds m' ⟨r, zs, rfl, e, hl, ch⟩
    exact ⟨_, fa_tupL e, zs, rfl, hl, ch⟩
structure CodeOk (c : Code) : Prop where
  t : Cs c.t0 ∧ Cs c.t1
  s : c.s0.length ≤ 1 ∧ c.s1.length ≤ 1
  k : PyData.strOk c.s0 = true ∧ PyData.strOk c.s1 = true
def SignOk (s : Str) : Prop := s.length ≤ 1 ∧ PyData.strOk s = true
theorem fal_sorted {a : Addr} {ds : List D} (e : m a = some (.lst ds)) (h1 : isPys ds = true) (h2 : PySem.W.AllAlike (ds.map pyD)) (h3 : PySem.W.Sortable (ds.map pyD)) (h4 : ∀ d ∈ ds, (pyD d).depth ≤ 60) : FvAL fSorted [.ref a] m (srtD ds) := fun P h => ⟨ds, e, h1, h2, h3, h4, h⟩
def cLe (a b : Code) : Bool := PySem.W.dataLe false pyD a.d b.d
theorem srt_codes (cs : List Code) : srtD (cs.map Code.d) = (cs.mergeSort cLe).map Code.d := (PySem.W.sort_maps Code.d fun a _ b _ => rfl).symm
theorem cs_of {v : Int} (h0 : 0 ≤ v) (h1 : v < 2) : Cs v ∧ Cs (1 - v) := by
  have : v = 0 ∨ v = 1 := by omega
  rcases this with rfl | rfl
  · exact ⟨.inl rfl, .inr rfl⟩
  · exact ⟨.inr rfl, .inl rfl⟩
theorem sp48 {p q : Addr} (B : Bag m p q) : GFn (Lv tb (L + 3)) 48 [.ref p] m (Rp fun d m' => ∃ b : Bk, b.Ok ∧ d = b.d ∧ Chg (BagL q) m p m') := by
  obtain ⟨l0, hb0, ep⟩ := B.l
  refine fn_gor rfl rfl ?_
  refine g_tgR (T := fun d m' => ∃ (h s c : Addr) (h0 h1 h2 h3 h4 : Int) (s0 s1 s2 s3 : Str), d = .tup [.ref h, .ref s, .ref c] ∧ m' h = some (.lst [.int h0, .int h1, .int h2, .int h3, .int h4]) ∧ m' s = some (.lst [.str s0, .str s1, .str s2, .str s3]) ∧ (SignOk s0 ∧ SignOk s1 ∧ SignOk s2 ∧ SignOk s3) ∧ m' c = some (.lst []) ∧ Chg (BagL q) m p m' ∧ h ≠ p ∧ s ≠ p ∧ c ≠ p) ?_ ?_
  · have hT : Era (wCons (wCallN 39 2 (wCons (wVar 0) (wCons (wLst (wCons (wC (.int 1)) (wCons (wC (.int 2)) (wCons (wC (.int 4)) (wCons (wC (.int 8)) (wCons (wC (.int 16)) wNil)))))) wNil))) (wCons (wCallN 39 2 (wCons (wVar 0) (wCons (wLst (wCons (wC (.str "a")) (wCons (wC (.str "b")) (wCons (wC (.str "c")) (wCons (wC (.str "d")) wNil))))) wNil))) (wCons (wLst wNil) wNil))) (Lv tb (L + 2)) (startD 9 [.ref p]) m fun ds m' => ∃ (h s c : Addr) (ys zs : List D), ds = [.ref h, .ref s, .ref c] ∧ m' h = some (.lst ys) ∧ ys.Perm [.int 1, .int 2, .int 4, .int 8, .int 16] ∧ m' s = some (.lst zs) ∧ zs.Perm [.str "a", .str "b", .str "c", .str "d"] ∧ m' c = some (.lst []) ∧ Chg (BagL q) m p m' ∧ h ≠ p ∧ s ≠ p ∧ c ≠ p := by
      refine era_cons (T := fun d m' => ∃ h ys, d = .ref h ∧ m' h = some (.lst ys) ∧ ys.Perm [.int 1, .int 2, .int 4, .int 8, .int 16] ∧ Chg (BagL q) m p m' ∧ h ≠ p) (er_callA (T := fun ds m1 => ∃ r, ds = [.ref p, .ref r] ∧ m1 r = some (.lst [.int 1, .int 2, .int 4, .int 8, .int 16]) ∧ Sub m m1) (era_consD (ev_var rfl) (era_consL (el_lst (ds := [.int 1, .int 2, .int 4, .int 8, .int 16]) (by array_get_dec) (Nat.le_of_ble_eq_true rfl)) fun r m1 hr s => era_nil ⟨r, rfl, s.at, s.sets hr⟩)) ?_) ?_
      · rintro ds m1 ⟨r, rfl, er, s⟩
        refine ⟨rfl, (sp39 (B.sub s) er (fun d hd => .inl (by simp at hd; rcases hd with rfl | rfl | rfl | rfl | rfl <;> exact ⟨_, rfl⟩)) (by decide)).imp fun P Z h d m2 ⟨f, ys, e1, e2, e3, e4, e5⟩ => h d m2 ⟨f, ys, e1, e2, e3, (Chg.id ep hb0 |>.sub s).trans e4, ?_⟩⟩
        exact (e5.ne (s _ _ ep)).symm
      · rintro d m1 ⟨h, ys, rfl, eh, hp, c1, hhp⟩
        have B1 := B.chg c1
        obtain ⟨l1, hb1, ep1⟩ := B1.l
        refine era_cons (T := fun d m' => ∃ s zs, d = .ref s ∧ m' s = some (.lst zs) ∧ zs.Perm [.str "a", .str "b", .str "c", .str "d"] ∧ Chg (BagL q) m1 p m' ∧ s ≠ p) (er_callA (T := fun ds m2 => ∃ r, ds = [.ref p, .ref r] ∧ m2 r = some (.lst [.str "a", .str "b", .str "c", .str "d"]) ∧ Sub m1 m2) (era_consD (ev_var rfl) (era_consL (el_lst (ds := [.str "a", .str "b", .str "c", .str "d"]) (by array_get_dec) (Nat.le_of_ble_eq_true rfl)) fun r m1 hr s => era_nil ⟨r, rfl, s.at, s.sets hr⟩)) ?_) ?_
        · rintro ds m2 ⟨r, rfl, er, s⟩
          refine ⟨rfl, (sp39 (B1.sub s) er (fun d hd => .inr (by simp at hd; rcases hd with rfl | rfl | rfl | rfl <;> exact ⟨_, rfl, by decide +kernel⟩)) (by decide)).imp fun P Z h d m2 ⟨f, ys, e1, e2, e3, e4, e5⟩ => h d m2 ⟨f, ys, e1, e2, e3, (Chg.id ep1 hb1 |>.sub s).trans e4, ?_⟩⟩
          exact (e5.ne (s _ _ ep1)).symm
        · rintro d m2 ⟨s, zs, rfl, es, hs, c2, hsp⟩
          obtain ⟨l2, hb2, ep2⟩ := (B1.chg c2).l
          exact era_consL (el_lst ea_nil (Nat.le_of_ble_eq_true rfl)) fun c m3 hc s3 => era_nil ⟨h, s, c, ys, zs, rfl, s3.sets hc _ _ (c2.keep eh hhp), hp, s3.sets hc _ _ es, hs, s3.at, (c1.trans c2).sub (s3.sets hc), hhp, hsp, (hc.ne ep2).symm⟩
    refine Evr.imp (er_tup hT fun ds m1 ⟨h, s, c, ys, zs, e, _⟩ => by rw [e]; exact Nat.le_of_ble_eq_true rfl) ?_
    rintro d m' ⟨ds, rfl, h, s, c, ys, zs, rfl, eh, hp, es, hs, rest⟩
    obtain ⟨is, rfl⟩ := ints_of (xs := ys) fun d hd => by
      have := hp.subset hd
      simp at this
      rcases this with rfl | rfl | rfl | rfl | rfl <;> exact ⟨_, rfl⟩
    obtain ⟨ss, rfl, ht⟩ := strs_of (T := SignOk) (xs := zs) fun d hd => by
      have := hs.subset hd
      simp at this
      rcases this with rfl | rfl | rfl | rfl <;> exact ⟨_, rfl, by decide +kernel, by decide +kernel⟩
    have l1 := hp.length_eq
    have l2 := hs.length_eq
    rw [List.length_map] at l1 l2
    match is, l1, ss, l2, ht, eh, es with
    | [h0, h1, h2, h3, h4], _, [s0, s1, s2, s3], _, ht, eh, es =>
      exact ⟨h, s, c, h0, h1, h2, h3, h4, s0, s1, s2, s3, rfl, eh, es, ⟨ht _ (by simp), ht _ (by simp), ht _ (by simp), ht _ (by simp)⟩, rest⟩
  rintro d m1 ⟨h, s, c, h0, h1, h2, h3, h4, s0, s1, s2, s3, rfl, eh, es, hs, ec, c1, hhp, hsp, hcp⟩
  refine ⟨_, m1, m1, fun P h => ⟨rfl, h⟩, .refl _, ?_⟩
  have B1 := B.chg c1
  refine g_seq (Q1 := fun ρ' m' => ∃ (c : Addr) (cs : List Code) (x4 x5 x6 x7 x8 : Option D), ρ' = [some (.ref p), some (.ref h), some (.ref s), some (.ref c), x4, x5, x6, x7, x8] ∧ m' c = some (.lst (cs.map Code.d)) ∧ cs.length ≤ 4 ∧ (∀ k ∈ cs, CodeOk k) ∧ Chg (BagL q) m1 p m') ?_ ?_
  · refine g_for (its := enumD [.tup [.int 0, .int 1], .tup [.int 2, .int 3]]) (fun i ρ' m' => ∃ (c : Addr) (cs : List Code) (x4 x5 x6 x7 x8 : Option D), ρ' = [some (.ref p), some (.ref h), some (.ref s), some (.ref c), x4, x5, x6, x7, x8] ∧ m' c = some (.lst (cs.map Code.d)) ∧ c ≠ p ∧ cs.length = 2 * i ∧ (∀ k ∈ cs, CodeOk k) ∧ Chg (BagL q) m1 p m') (ei_enumT (by array_get_dec)) ?_ (fun _ _ _ _ => True.intro) ?_ ?_
    · obtain ⟨l1, hb1, ep1⟩ := B1.l
      exact ⟨c, [], none, none, none, none, none, rfl, ec, hcp, rfl, (fun k hk => by cases hk), Chg.id ep1 hb1⟩
    · rintro i ρ' m' x ⟨c, cs, x4, x5, x6, x7, x8, rfl, ec, hcp, hl, hk, ch⟩ hx
      obtain ⟨d, hd, rfl⟩ := enum_at hx
      -- the two turns alike
      have key : ∀ (i : Nat) (a a' : Int) (ha ha' sa sb : D) (g g' : Int) (t t' : Str), cs.length = 2 * i → i < 2 → atI [D.int h0, .int h1, .int h2, .int h3, .int h4] a = some (.int g) → atI [D.int h0, .int h1, .int h2, .int h3, .int h4] a' = some (.int g') →
          atI [D.str s0, .str s1, .str s2, .str s3] (i : Int) = some (.str t) → atI [D.str s0, .str s1, .str s2, .str s3] ((i : Int) + 2) = some (.str t') → SignOk t → SignOk t' →
          ∃ ρ'', bindP (.tp [.nm 4, .nm 5]) (.tup [.int (i : Nat), .tup [.int a, .int a']]) [some (.ref p), some (.ref h), some (.ref s), some (.ref c), x4, x5, x6, x7, x8] = some ρ'' ∧ Go (wSeq (wAsg (wBin fAdd (wBin fIx (wVar 1) (wBin fIx (wVar 5) (wC (.int 0)))) (wBin fIx (wVar 1) (wBin fIx (wVar 5) (wC (.int 1))))) (gNm 6)) (wSeq (wAsg (wTup (wCons (wBin fIx (wVar 2) (wVar 4)) (wCons (wIf (wTst (wBin fEq (wCallN 34 2 (wCons (wVar 0) (wCons (wC (.int 2)) wNil))) (wC (.int 0)))) (wBin fIx (wVar 2) (wVar 4)) (wBin fIx (wVar 2) (wBin fAdd (wVar 4) (wC (.int 2))))) wNil))) (gNm 7)) (wSeq (wAsg (wTup (wCons (wCallN 34 2 (wCons (wVar 0) (wCons (wC (.int 2)) wNil))) (wCons (wCallN 34 2 (wCons (wVar 0) (wCons (wC (.int 2)) wNil))) wNil))) (gNm 8)) (wAsg (wBin fAdd (wVar 3) (wLst (wCons (wTup (wCons (wVar 6) (wCons (wVar 7) (wCons (wVar 8) wNil)))) (wCons (wTup (wCons (wBin fAdd (wVar 6) (wBin fIx (wVar 1) (wC (.int 4)))) (wCons (wVar 7) (wCons (wTup (wCons (wBin fSub (wC (.int 1)) (wBin fIx (wVar 8) (wC (.int 0)))) (wCons (wBin fSub (wC (.int 1)) (wBin fIx (wVar 8) (wC (.int 1)))) wNil))) wNil)))) wNil)))) (gNm 3))))) (Lv tb (L + 2)) ρ'' m'
            (fun ρ' m' => ∃ (c : Addr) (cs : List Code) (x4 x5 x6 x7 x8 : Option D), ρ' = [some (.ref p), some (.ref h), some (.ref s), some (.ref c), x4, x5, x6, x7, x8] ∧ m' c = some (.lst (cs.map Code.d)) ∧ c ≠ p ∧ cs.length = 2 * (i + 1) ∧ (∀ k ∈ cs, CodeOk k) ∧ Chg (BagL q) m1 p m')
            (fun ρ' m' => ∃ (c : Addr) (cs : List Code) (x4 x5 x6 x7 x8 : Option D), ρ' = [some (.ref p), some (.ref h), some (.ref s), some (.ref c), x4, x5, x6, x7, x8] ∧ m' c = some (.lst (cs.map Code.d)) ∧ c ≠ p ∧ cs.length = 2 * (i + 1) ∧ (∀ k ∈ cs, CodeOk k) ∧ Chg (BagL q) m1 p m') (Rp fun d m' => ∃ b : Bk, b.Ok ∧ d = b.d ∧ Chg (BagL q) m p m') := by
        intro i a a' ha ha' sa sb g g' t t' hl hi e1 e2 e3 e4 t1 t2
        refine ⟨_, rfl, ?_⟩
        have eh' := ch.keep eh hhp
        have es' := ch.keep es hsp
        have B2 := B1.chg ch
        refine g_set (x := .int (g + g')) (ev_bin (ev_bin (ev_var rfl) (ev_bin (ev_var rfl) ev_c (fv_ixT (v := .int a) rfl)) (fv_ixL eh' e1)) (ev_bin (ev_var rfl) (ev_bin (ev_var rfl) ev_c (fv_ixT (v := .int a') rfl)) (fv_ixL eh' e2)) fv_add) ?_
        refine g_setR (T := fun d m2 => ∃ u, d = .tup [.str t, .str u] ∧ SignOk u ∧ Chg (BagL q) m' p m2) ?_ ?_
        · refine Evr.imp (er_tup (T := fun ds m2 => ∃ u, ds = [.str t, .str u] ∧ SignOk u ∧ Chg (BagL q) m' p m2) (era_consD (ev_bin (ev_var rfl) (ev_var rfl) (fv_ixL es' e3)) (era_cons (T := fun d m2 => ∃ u, d = .str u ∧ SignOk u ∧ Chg (BagL q) m' p m2) (er_if (T := fun _ m2 => Chg (BagL q) m' p m2) (fun Z P k => etr_tst (T := fun d m2 => (∃ k, d = .bl k) ∧ Chg (BagL q) m' p m2) (er_binL (er_call (by array_get_dec) (sp34 B2 (many := 2) (by decide) (by decide))) fun x m2 ⟨v, ev, v0, v1, c2⟩ => ⟨.int 0, .bl (decide (v = 0)), ev_c, by rw [ev]; exact fv_eqI, ⟨_, rfl⟩, c2⟩) (fun d m' h => h.1) Z P fun k' m2 h => k k' m2 h.2) (fun m2 c2 => ?_) fun m2 c2 => ?_) fun d m2 ⟨u, eu, hu, c2⟩ => era_nil ⟨u, by rw [eu], hu, c2⟩)) fun ds m2 ⟨u, e, _⟩ => by rw [e]; exact Nat.le_of_ble_eq_true rfl) ?_
          · exact Evr.imp (Evd.r (ev_bin (ev_var rfl) (ev_var rfl) (fv_ixL (c2.keep es' hsp) e3))) fun d m3 ⟨h1, h2⟩ => ⟨t, h1, t1, h2 ▸ c2⟩
          · exact Evr.imp (Evd.r (ev_bin (ev_var rfl) (ev_bin (ev_var rfl) ev_c fv_add) (fv_ixL (c2.keep es' hsp) e4))) fun d m3 ⟨h1, h2⟩ => ⟨t', h1, t2, h2 ▸ c2⟩
          · rintro d m2 ⟨ds, rfl, u, rfl, hu, c2⟩
            exact ⟨u, rfl, hu, c2⟩
        rintro d m2 ⟨u, rfl, hu, c2⟩
        refine ⟨m2, .refl _, ?_⟩
        have B3 := B2.chg c2
        refine g_setR (T := fun d m3 => ∃ v w : Int, d = .tup [.int v, .int w] ∧ (0 ≤ v ∧ v < 2) ∧ (0 ≤ w ∧ w < 2) ∧ Chg (BagL q) m2 p m3) ?_ ?_
        · refine Evr.imp (er_tup (T := fun ds m3 => ∃ v w : Int, ds = [.int v, .int w] ∧ (0 ≤ v ∧ v < 2) ∧ (0 ≤ w ∧ w < 2) ∧ Chg (BagL q) m2 p m3) (era_cons (er_call (T := fun d m' => ∃ v : Int, d = .int v ∧ 0 ≤ v ∧ v < 2 ∧ Chg (BagL q) m2 p m') (by array_get_dec) (sp34 B3 (many := 2) (by decide) (by decide))) fun d m3 ⟨v, ev, v0, v1, c3⟩ => era_cons (er_call (T := fun d m' => ∃ v : Int, d = .int v ∧ 0 ≤ v ∧ v < 2 ∧ Chg (BagL q) m3 p m') (by array_get_dec) (sp34 (B3.chg c3) (many := 2) (by decide) (by decide))) fun d' m4 ⟨w, ew, w0, w1, c4⟩ => era_nil ⟨v, w, by rw [ev, ew], ⟨v0, v1⟩, ⟨w0, w1⟩, c3.trans c4⟩) fun ds m2 ⟨v, w, e, _⟩ => by rw [e]; exact Nat.le_of_ble_eq_true rfl) ?_
          rintro d m3 ⟨ds, rfl, v, w, rfl, h⟩
          exact ⟨v, w, rfl, h⟩
        rintro d m3 ⟨v, w, rfl, hv, hw, c3⟩
        refine ⟨m3, .refl _, ?_⟩
        have ch3 := (ch.trans c2).trans c3
        have eh3 := ch3.keep eh hhp
        have ec3 := c3.keep (c2.keep ec hcp) hcp
        refine g_setL1 (xs := (cs ++ [Code.mk (g + g') t u v w, Code.mk (g + g' + h4) t u (1 - v) (1 - w)]).map Code.d) (el_binDL (ys := [Code.d (Code.mk (g + g') t u v w), Code.d (Code.mk (g + g' + h4) t u (1 - v) (1 - w))]) (ev_var rfl) (el_lst ?_ (Nat.le_of_ble_eq_true rfl)) fun r m4 s4 er => ?_) ?_
        · exact ea_cons (by array_get_dec) (ea_cons (ev_tup (ea_cons (ev_bin (ev_var rfl) (ev_bin (ev_var rfl) ev_c (fv_ixL (v := .int h4) eh3 rfl)) fv_add) (ea_cons (ev_var rfl) (ea_cons (ev_tup (ea_cons (ev_bin ev_c (ev_bin (ev_var rfl) ev_c (fv_ixT (v := .int v) rfl)) fv_sub) (ea_cons (ev_bin ev_c (ev_bin (ev_var rfl) ev_c (fv_ixT (v := .int w) rfl)) fv_sub) ea_nil)) (Nat.le_of_ble_eq_true rfl)) ea_nil))) (Nat.le_of_ble_eq_true rfl)) ea_nil)
        · rw [List.map_append]
          exact fl_add (s4 _ _ ec3) er (by rw [List.length_map, sizeLine_eq]; show cs.length + 2 ≤ _; omega)
        · intro c' m4 hc' s4
          obtain ⟨l3, hb3, ep3⟩ := ch3.at
          refine ⟨c', _, _, _, _, _, _, rfl, s4.at, (hc'.ne ep3).symm, by rw [List.length_append]; show cs.length + 2 = _; omega, fun k hkm => ?_, ch3.sub (s4.sets hc')⟩
          rcases List.mem_append.mp hkm with z | z
          · exact hk k z
          · simp at z
            rcases z with rfl | rfl
            · exact ⟨⟨(cs_of hv.1 hv.2).1, (cs_of hw.1 hw.2).1⟩, ⟨t1.1, hu.1⟩, ⟨t1.2, hu.2⟩⟩
            · exact ⟨⟨(cs_of hv.1 hv.2).2, (cs_of hw.1 hw.2).2⟩, ⟨t1.1, hu.1⟩, ⟨t1.2, hu.2⟩⟩
      match i, hd with
      | 0, hd =>
        cases hd
        exact key 0 0 1 .non .non .non .non h0 h1 s0 s2 hl (by decide) rfl rfl rfl rfl hs.1 hs.2.2.1
      | 1, hd =>
        cases hd
        exact key 1 2 3 .non .non .non .non h2 h3 s1 s3 hl (by decide) rfl rfl rfl rfl hs.2.1 hs.2.2.2
    · rintro ρ' m' ⟨c, cs, x4, x5, x6, x7, x8, rfl, ec, hcp, hl, hk, ch⟩
      exact ⟨c, cs, x4, x5, x6, x7, x8, rfl, ec, by rw [hl]; decide, hk, ch⟩
  · rintro ρ' m' ⟨c, cs, x4, x5, x6, x7, x8, rfl, ec, hl, hk, ch⟩
    refine ⟨m', .refl _, ?_⟩
    refine g_ret (d := Bk.d ⟨"five", cs.mergeSort cLe⟩) (ev_tup (ea_cons ev_c (ea_cons ev_c (ea_cons ev_c (ea_cons (ev_cbl (ea_one (el_cb (ea_cons (ev_var rfl) ea_nil) (fal_sorted ec (codes_py cs) ?_ ?_ ?_))) fun p m' e => ?_) ea_nil)))) (Nat.le_of_ble_eq_true rfl)) fun P Z h => ⟨m', .refl _, h _ _ ⟨⟨"five", cs.mergeSort cLe⟩, ⟨?_, ?_, ?_, ?_⟩, rfl, c1.trans ch⟩⟩
    · intro d hd d' hd'
      rw [List.map_map] at hd hd'
      obtain ⟨k, _, rfl⟩ := List.mem_map.mp hd
      obtain ⟨k', _, rfl⟩ := List.mem_map.mp hd'
      rfl
    · refine .inl fun d hd => ?_
      rw [List.map_map] at hd
      obtain ⟨k, _, rfl⟩ := List.mem_map.mp hd
      exact ⟨_, _, rfl⟩
    · intro d hd
      obtain ⟨k, _, rfl⟩ := List.mem_map.mp hd
      exact Nat.le_of_ble_eq_true rfl
    · rw [srt_codes] at e
      exact fa_tupL e
    · show (cs.mergeSort cLe).length ≤ 4
      rw [List.length_mergeSort]
      exact hl
    · exact fun k h => (hk k (List.mem_mergeSort.mp h)).t
    · exact fun k h => (hk k (List.mem_mergeSort.mp h)).s
    · exact fun k h => (hk k (List.mem_mergeSort.mp h)).k
end
end Tb
set_option Elab.async false
set_option linter.all false
set_option maxRecDepth 100000
set_option maxHeartbeats 0
namespace Tb
open PySem PySem.Spec PyProof.Rows L2 Qz Hd
-- array_mem_dec: an operator on values
local macro_rules | `(tactic| array_mem_dec) => `(tactic| with_reducible first
  | exact fv_add | exact fv_sub | exact fv_le | exact fv_lt | exact fv_gt | exact fv_ge | exact fv_eqI | exact fv_eqS | exact fv_eqB | exact fv_is | exact fv_isn | exact fv_isB | exact fv_isnB | exact fv_neg
  | exact fv_revT | exact fa_abs | exact fa_int | exact fa_lenT | exact fa_max2
  | (apply fv_mod; decide) | (apply fv_div; decide) | (apply fv_ixT; with_unfolding_all rfl)
  | (apply fv_ne; array_mem_dec) | (apply fa_isiI; with_unfolding_all rfl) | (apply fa_isiB; with_unfolding_all rfl) | (apply fa_isiU; with_unfolding_all rfl) | (apply fa_isiS; with_unfolding_all rfl) | (apply fa_isiD; with_unfolding_all rfl) | (apply fa_isiUL; with_unfolding_all rfl) | assumption)
local macro_rules | `(tactic| sizeOf_list_dec) => `(tactic| assumption)
-- array_get_dec: what an expression, a test evaluates to
local macro_rules | `(tactic| array_get_dec) => `(tactic| with_reducible first
  | exact ev_c | (apply ev_var; with_unfolding_all rfl) | exact ea_nil
  | (apply ea_cons; · array_get_dec
     · array_get_dec)
  | (apply ev_bin; · array_get_dec
     · array_get_dec
     · array_mem_dec)
  | (apply ev_un; · array_get_dec
     · array_mem_dec)
  | (apply ev_tup; · array_get_dec
     · first | with_unfolding_all decide | with_unfolding_all exact Nat.le_of_ble_eq_true rfl)
  | (apply ev_cb; · array_get_dec
     · array_mem_dec)
  | (apply ev_call; · array_get_dec
     · sizeOf_list_dec
     · with_unfolding_all rfl)
  | (apply et_tst; array_get_dec)
  | (apply et_tru; · array_get_dec
     · exact tru_bl)
  | (apply et_not; array_get_dec)
  | assumption)
def Nx (b : Bk) (t : Int) (s s' : Spot) : Prop := ∃ c ∈ b.goods, ∃ d ∈ b.goods, b.behind t s c d = .to s'
inductive Rch (b : Bk) (t : Int) : Spot → Prop
  | start : Rch b t START
  | step {s s' : Spot} : Rch b t s → Nx b t s s' → Rch b t s'
def Bad (b : Bk) (t : Int) : Prop := ∃ s, Rch b t s ∧ ∃ c ∈ b.goods, ∃ d ∈ b.goods, b.behind t s c d = .unlike
theorem good_cell {b : Bk} {c : Int} (h : c ∈ b.goods) : cellB c = true := by
  have := (Bk.goods_mem.mp h).1
  simp [cellB, this.1, this.2]
theorem behind_to {b : Bk} {t : Int} {s s' : Spot} {c d : Int} (h : b.behind t s c d = .to s') : ∃ x, b.step c s.1 = some (x, s'.1) ∧ b.step d s.2.1 = some (x, s'.2.1) ∧ s'.2.2.1 = s.2.2.1 + (cost c d).1 ∧ s'.2.2.2 = s.2.2.2 + (cost c d).2 ∧ s'.2.2.1 ≤ t ∧ s'.2.2.2 ≤ t := by
  unfold Bk.behind at h
  split at h
  · cases h
  · rename_i hm
    split at h
    · rename_i x i y j e1 e2
      split at h
      · rename_i hxy
        cases h
        subst hxy
        unfold imax at hm
        refine ⟨x, e1, e2, rfl, rfl, ?_, ?_⟩ <;> (show _ + _ ≤ t) <;> split at hm <;> omega
      · cases h
    · cases h
theorem behind_un {b : Bk} {t : Int} {s : Spot} {c d : Int} (h : b.behind t s c d = .unlike) : ∃ x y i j, b.step c s.1 = some (x, i) ∧ b.step d s.2.1 = some (y, j) ∧ x ≠ y ∧ s.2.2.1 + (cost c d).1 ≤ t ∧ s.2.2.2 + (cost c d).2 ≤ t := by
  unfold Bk.behind at h
  split at h
  · cases h
  · rename_i hm
    split at h
    · rename_i x i y j e1 e2
      split at h
      · cases h
      · rename_i hxy
        unfold imax at hm
        refine ⟨x, y, i, j, e1, e2, hxy, ?_, ?_⟩ <;> split at hm <;> omega
    · cases h
theorem Nx.ok {b : Bk} (O : b.Ok) {t : Int} {s s' : Spot} (h : SpOk t s) (n : Nx b t s s') : SpOk t s' := by
  obtain ⟨c, hc, d, hd, e⟩ := n
  obtain ⟨x, e1, e2, e3, e4, l1, l2⟩ := behind_to e
  have nn := cost_nn (good_cell hc) (good_cell hd)
  have := h.c
  have := h.d
  exact ⟨(O.step h.a e1).1, (O.step h.b e2).1, ⟨by omega, l1⟩, ⟨by omega, l2⟩⟩
theorem Rch.ok {b : Bk} (O : b.Ok) {t : Int} (h0 : 0 ≤ t) {s : Spot} (h : Rch b t s) : SpOk t s := by
  induction h with
  | start => exact ⟨.inl rfl, .inl rfl, ⟨Int.le_refl _, h0⟩, ⟨Int.le_refl _, h0⟩⟩
  | step _ n ih => exact n.ok O ih
/-- more torn holes -/
theorem behind_more {b : Bk} {t t' : Int} (h : t ≤ t') {s : Spot} {c d : Int} (e : b.behind t s c d ≠ .far) : b.behind t' s c d = b.behind t s c d := by
  unfold Bk.behind at e ⊢
  by_cases q : t < imax (s.2.2.1 + (cost c d).1) (s.2.2.2 + (cost c d).2)
  · rw [if_pos q] at e; exact absurd rfl e
  · have q' : ¬ t' < imax (s.2.2.1 + (cost c d).1) (s.2.2.2 + (cost c d).2) := by omega
    rw [if_neg q, if_neg q']
theorem Rch.more {b : Bk} {t t' : Int} (h : t ≤ t') {s : Spot} (r : Rch b t s) : Rch b t' s := by
  induction r with
  | start => exact .start
  | step _ n ih =>
    obtain ⟨c, hc, d, hd, e⟩ := n
    exact .step ih ⟨c, hc, d, hd, by rw [behind_more h (by rw [e]; exact fun z => by cases z), e]⟩
theorem Bad.more {b : Bk} {t t' : Int} (h : t ≤ t') (r : Bad b t) : Bad b t' := by
  obtain ⟨s, r, c, hc, d, hd, e⟩ := r
  exact ⟨s, r.more h, c, hc, d, hd, by rw [behind_more h (by rw [e]; exact fun z => by cases z), e]⟩
inductive Pth (b : Bk) (t : Int) : Spot → List (Int × Int) → Spot → Prop
  | nil {s : Spot} : Pth b t s [] s
  | cons {s s' s2 : Spot} {p : Int × Int} {ps : List (Int × Int)} : p.1 ∈ b.goods → p.2 ∈ b.goods → b.behind t s p.1 p.2 = .to s' → Pth b t s' ps s2 → Pth b t s (p :: ps) s2
def coT (ps : List (Int × Int)) : Int × Int := ((ps.map fun p => (cost p.1 p.2).1).sum, (ps.map fun p => (cost p.1 p.2).2).sum)
theorem Pth.snoc {b : Bk} {t : Int} {s s1 : Spot} {ps : List (Int × Int)} (h : Pth b t s ps s1) : ∀ {p : Int × Int} {x y : Str} {i j : Int}, p.1 ∈ b.goods → p.2 ∈ b.goods → b.step p.1 s1.1 = some (x, i) → b.step p.2 s1.2.1 = some (y, j) →
    ∃ z, b.read ((ps ++ [p]).map (·.1)) s.1 = some (z ++ x, i) ∧ b.read ((ps ++ [p]).map (·.2)) s.2.1 = some (z ++ y, j) ∧ s1.2.2.1 = s.2.2.1 + (coT ps).1 ∧ s1.2.2.2 = s.2.2.2 + (coT ps).2 ∧ ∀ q ∈ ps ++ [p], q.1 ∈ b.goods ∧ q.2 ∈ b.goods := by
  induction h with
  | nil =>
    rename_i s0
    intro p x y i j hp1 hp2 e1 e2
    refine ⟨(""  : Str), ?_, ?_, ?_, ?_, fun q hq => ?_⟩
    · show b.read [p.1] s0.1 = _
      have : b.read [p.1] s0.1 = some (x ++ (""  : Str), i) := by unfold Bk.read; rw [e1]; rfl
      rw [this, sapp_nil, nil_sapp]
    · show b.read [p.2] s0.2.1 = _
      have : b.read [p.2] s0.2.1 = some (y ++ (""  : Str), j) := by unfold Bk.read; rw [e2]; rfl
      rw [this, sapp_nil, nil_sapp]
    · show _ = _ + 0; omega
    · show _ = _ + 0; omega
    · rw [List.nil_append, List.mem_singleton] at hq; rw [hq]; exact ⟨hp1, hp2⟩
  | cons g1 g2 e h ih =>
    rename_i s s' s2 p0 ps
    intro p x y i j hp1 hp2 e1 e2
    obtain ⟨z, r1, r2, c1, c2, hg⟩ := ih hp1 hp2 e1 e2
    obtain ⟨u, f1, f2, f3, f4, _, _⟩ := behind_to e
    refine ⟨u ++ z, ?_, ?_, ?_, ?_, fun q hq => ?_⟩
    · show b.read (p0.1 :: (ps ++ [p]).map (·.1)) s.1 = _
      unfold Bk.read
      rw [f1]
      dsimp only
      rw [r1]
      show some (u ++ (z ++ x), i) = _
      rw [sapp_assoc]
    · show b.read (p0.2 :: (ps ++ [p]).map (·.2)) s.2.1 = _
      unfold Bk.read
      rw [f2]
      dsimp only
      rw [r2]
      show some (u ++ (z ++ y), j) = _
      rw [sapp_assoc]
    · rw [c1, f3]; unfold coT; rw [List.map_cons, List.sum_cons]; omega
    · rw [c2, f4]; unfold coT; dsimp only; rw [List.map_cons, List.sum_cons]; omega
    · rcases List.mem_cons.mp hq with rfl | hq
      · exact ⟨g1, g2⟩
      · exact hg q hq
theorem sapp_inj {z x y : Str} (h : z ++ x = z ++ y) : x = y := by
  have h1 : z.cps ++ x.cps = z.cps ++ y.cps := congrArg Str.cps h
  have h2 := Array.append_right_inj z.cps |>.mp h1
  cases x; cases y
  simp only at h2
  rw [h2]
theorem costs_pairs (ps : List (Int × Int)) : costs (ps.map (·.1)) (ps.map (·.2)) = ps.map fun p => cost p.1 p.2 := by
  unfold costs
  rw [List.zip_map', List.map_map]
  rfl
/-- a path and two cells of unlike things are a couple -/
theorem Pth.couple {b : Bk} {t : Int} {s : Spot} {ps : List (Int × Int)} {c d : Int} (h : Pth b t START ps s) (hc : c ∈ b.goods) (hd : d ∈ b.goods) (e : b.behind t s c d = .unlike) : cpB b t ((ps ++ [(c, d)]).map (·.1)) ((ps ++ [(c, d)]).map (·.2)) = true := by
  obtain ⟨x, y, i, j, e1, e2, hxy, l1, l2⟩ := behind_un e
  obtain ⟨z, r1, r2, c1, c2, hg⟩ := h.snoc (p := (c, d)) hc hd e1 e2
  unfold cpB
  have a1 : ((ps ++ [(c, d)]).map (·.1)).all cellB = true := List.all_eq_true.mpr fun q hq => by
    obtain ⟨p, hp, rfl⟩ := List.mem_map.mp hq
    exact good_cell (hg p hp).1
  have a2 : ((ps ++ [(c, d)]).map (·.2)).all cellB = true := List.all_eq_true.mpr fun q hq => by
    obtain ⟨p, hp, rfl⟩ := List.mem_map.mp hq
    exact good_cell (hg p hp).2
  have r1' : b.read ((ps ++ [(c, d)]).map (·.1)) 0 = some (z ++ x, i) := r1
  have r2' : b.read ((ps ++ [(c, d)]).map (·.2)) 0 = some (z ++ y, j) := r2
  rw [a1, a2, r1', r2']
  have a3 : decide (((ps ++ [(c, d)]).map (·.1)).length = ((ps ++ [(c, d)]).map (·.2)).length) = true := by rw [List.length_map, List.length_map]; exact decide_eq_true rfl
  rw [a3]
  show (true && true && true && (!decide (z ++ x = z ++ y) && decide _)) = true
  rw [decide_eq_false (fun q => hxy (sapp_inj q))]
  have t1 : (tornB ((ps ++ [(c, d)]).map (·.1)) ((ps ++ [(c, d)]).map (·.2))).1 = (coT ps).1 + (cost c d).1 := by
    have q : (tornB ((ps ++ [(c, d)]).map (·.1)) ((ps ++ [(c, d)]).map (·.2))).1 = ((ps ++ [(c, d)]).map fun p => (cost p.1 p.2).1).sum := by
      unfold tornB
      rw [costs_pairs]
      dsimp only
      rw [List.map_map]
      rfl
    rw [q, List.map_append, List.sum_append]
    show _ + (_ + 0) = _
    rw [Int.add_zero]
    rfl
  have t2 : (tornB ((ps ++ [(c, d)]).map (·.1)) ((ps ++ [(c, d)]).map (·.2))).2 = (coT ps).2 + (cost c d).2 := by
    have q : (tornB ((ps ++ [(c, d)]).map (·.1)) ((ps ++ [(c, d)]).map (·.2))).2 = ((ps ++ [(c, d)]).map fun p => (cost p.1 p.2).2).sum := by
      unfold tornB
      rw [costs_pairs]
      dsimp only
      rw [List.map_map]
      rfl
    rw [q, List.map_append, List.sum_append]
    show _ + (_ + 0) = _
    rw [Int.add_zero]
    rfl
  have z1 : START.2.2.1 = 0 := rfl
  have z2 : START.2.2.2 = 0 := rfl
  rw [t1, t2, decide_eq_true (by omega)]
  rfl
theorem closed_all {b : Bk} {t : Int} {S : List Spot} (h0 : START ∈ S) (h : ∀ s ∈ S, ∀ s', Nx b t s s' → s' ∈ S) {s : Spot} (r : Rch b t s) : s ∈ S := by
  induction r with
  | start => exact h0
  | step _ n ih => exact h _ ih _ n
theorem nodup_le {α : Type} [DecidableEq α] : ∀ (l u : List α), l.Nodup → (∀ x ∈ l, x ∈ u) → l.length ≤ u.length
  | [], _, _, _ => Nat.zero_le _
  | a :: l, u, hn, h => by
    obtain ⟨h1, h2⟩ := List.nodup_cons.mp hn
    have ha := h a List.mem_cons_self
    have := nodup_le l (u.erase a) h2 fun x hx => (List.mem_erase_of_ne (fun z => h1 (by rw [← z]; exact hx))).mpr (h x (List.mem_cons_of_mem _ hx))
    rw [List.length_erase_of_mem ha] at this
    have hp : 0 < u.length := List.length_pos_of_mem ha
    rw [List.length_cons]
    omega
def univ : List Spot := [(0 : Int), 1].flatMap fun i => [(0 : Int), 1].flatMap fun j => ((List.range 10).map fun k : Nat => (k : Int)).flatMap fun k => ((List.range 10).map fun k : Nat => (k : Int)).map fun l => (i, j, k, l)
theorem univ_mem {t : Int} (h9 : t ≤ 9) {s : Spot} (h : SpOk t s) : s ∈ univ := by
  obtain ⟨i, j, k, l⟩ := s
  unfold univ
  have a := h.a
  have b := h.b
  have c := h.c
  have d := h.d
  simp only at a b c d
  refine List.mem_flatMap.mpr ⟨i, by rcases a with rfl | rfl <;> simp, List.mem_flatMap.mpr ⟨j, by rcases b with rfl | rfl <;> simp, List.mem_flatMap.mpr ⟨k, List.mem_map.mpr ⟨k.toNat, List.mem_range.mpr (by omega), by omega⟩, List.mem_map.mpr ⟨l, List.mem_map.mpr ⟨l.toNat, List.mem_range.mpr (by omega), by omega⟩, rfl⟩⟩⟩⟩
theorem univ_len : univ.length = 400 := by decide +kernel
theorem line_le {t : Int} (h9 : t ≤ 9) {S : List Spot} (hn : S.Nodup) (h : ∀ s ∈ S, SpOk t s) : S.length ≤ 400 := by
  rw [← univ_len]
  exact nodup_le S univ hn fun s hs => univ_mem h9 (h s hs)
theorem toks_inj {s s' : Spot} (h : PySem.W.keyToks (pyD s.d) = PySem.W.keyToks (pyD s'.d)) : s = s' := by
  obtain ⟨a, b, c, d⟩ := s
  obtain ⟨a', b', c', d'⟩ := s'
  simp only [pyD, pyDs, List.map_cons, List.map_nil, PySem.W.keyToks, PySem.W.keyToksAll, List.cons_append, List.nil_append, List.cons.injEq, Sum.inl.injEq, true_and, and_true] at h
  obtain ⟨rfl, rfl, rfl, rfl⟩ := h
  rfl
theorem Slt.irrefl (s : Spot) : ¬ Slt s s := fun h => by
  have := (PyProof.Rows.listOrd PyProof.Rows.itemOrd).irrefl (PySem.W.keyToks (pyD s.d))
  unfold Slt PySem.W.dataLt at h
  rw [show PyProof.Rows.lexLt PyProof.Rows.itemOrd _ _ = false from this] at h
  cases h
theorem Slt.asymm {s s' : Spot} (h : Slt s s') (h' : Slt s' s) : False :=
  Slt.irrefl s ((PyProof.Rows.listOrd PyProof.Rows.itemOrd).trans (PySem.W.keyToks (pyD s.d)) (PySem.W.keyToks (pyD s'.d)) (PySem.W.keyToks (pyD s.d)) h h')
def sLe (a b : Spot) : Bool := PySem.W.dataLe false pyD a.d b.d
theorem srt_spots (S : List Spot) : srtD (S.map Spot.d) = (S.mergeSort sLe).map Spot.d := (PySem.W.sort_maps Spot.d fun a _ b _ => rfl).symm
theorem srt_strict {S : List Spot} (hn : S.Nodup) : (S.mergeSort sLe).Pairwise Slt := by
  have h1 : (S.mergeSort sLe).Pairwise fun a b => sLe a b = true := PySem.W.sort_pairwise (PySem.W.sortLe_total (PyProof.Rows.listOrd PyProof.Rows.itemOrd) false fun s : Spot => PySem.W.keyToks (pyD s.d)) S
  have h2 : (S.mergeSort sLe).Nodup := (List.mergeSort_perm S sLe).nodup_iff.mpr hn
  refine (h1.and h2).imp fun {a b} ⟨h, ne⟩ => ?_
  by_cases q : Slt a b
  · exact q
  · exfalso
    refine ne (toks_inj ((PyProof.Rows.listOrd PyProof.Rows.itemOrd).total _ _ ?_ ?_))
    · exact Bool.eq_false_iff.mpr q
    · have h' : (!(PyProof.Rows.listOrd PyProof.Rows.itemOrd).blt (PySem.W.keyToks (pyD b.d)) (PySem.W.keyToks (pyD a.d))) = true := h
      simpa using h'
theorem strict_ext : ∀ {l l' : List Spot}, l.Pairwise Slt → l'.Pairwise Slt → (∀ s, s ∈ l ↔ s ∈ l') → l = l'
  | [], [], _, _, _ => rfl
  | [], y :: r, _, _, h => by have := (h y).mpr List.mem_cons_self; cases this
  | x :: r, [], _, _, h => by have := (h x).mp List.mem_cons_self; cases this
  | x :: r, y :: r', h1, h2, h => by
    obtain ⟨a1, b1⟩ := List.pairwise_cons.mp h1
    obtain ⟨a2, b2⟩ := List.pairwise_cons.mp h2
    have e : x = y := by
      rcases List.mem_cons.mp ((h x).mp List.mem_cons_self) with e | hx
      · exact e
      · rcases List.mem_cons.mp ((h y).mpr List.mem_cons_self) with e | hy
        · exact e.symm
        · exact (Slt.asymm (a2 x hx) (a1 y hy)).elim
    subst e
    rw [strict_ext b1 b2 fun s => ?_]
    constructor
    · intro hs
      rcases List.mem_cons.mp ((h s).mp (List.mem_cons_of_mem _ hs)) with e | z
      · subst e; exact (Slt.irrefl s (a1 s hs)).elim
      · exact z
    · intro hs
      rcases List.mem_cons.mp ((h s).mpr (List.mem_cons_of_mem _ hs)) with e | z
      · subst e; exact (Slt.irrefl s (a2 s hs)).elim
      · exact z
/-- all spots in order -/
structure IsSp (b : Bk) (t : Int) (S : List Spot) : Prop where
  o : S.Pairwise Slt
  m : ∀ s, s ∈ S ↔ Rch b t s
theorem IsSp.uniq {b : Bk} {t : Int} {S S' : List Spot} (h : IsSp b t S) (h' : IsSp b t S') : S = S' := strict_ext h.o h'.o fun s => (h.m s).trans (h'.m s).symm
theorem IsSp.of {b : Bk} {t : Int} {S : List Spot} (hn : S.Nodup) (h : ∀ s, s ∈ S ↔ Rch b t s) : IsSp b t (S.mergeSort sLe) := ⟨srt_strict hn, fun s => List.mem_mergeSort.trans (h s)⟩
theorem univ_nodup : univ.Nodup := by decide +kernel
theorem exists_sp {b : Bk} (O : b.Ok) {t : Int} (h0 : 0 ≤ t) (h9 : t ≤ 9) : ∃ S, IsSp b t S := by
  classical
  refine ⟨_, IsSp.of (S := univ.filter fun s => decide (Rch b t s)) (univ_nodup.filter _) fun s => ?_⟩
  rw [List.mem_filter, decide_eq_true_iff]
  exact ⟨fun h => h.2, fun h => ⟨univ_mem h9 (h.ok O h0), h⟩⟩
theorem IsSp.ok {b : Bk} (O : b.Ok) {t : Int} (h0 : 0 ≤ t) {S : List Spot} (h : IsSp b t S) : ∀ s ∈ S, SpOk t s := fun s hs => ((h.m s).mp hs).ok O h0
theorem IsSp.nodup {b : Bk} {t : Int} {S : List Spot} (h : IsSp b t S) : S.Nodup := h.o.imp fun {a b} hlt e => by subst e; exact Slt.irrefl _ hlt
theorem IsSp.len {b : Bk} (O : b.Ok) {t : Int} (h0 : 0 ≤ t) (h9 : t ≤ 9) {S : List Spot} (h : IsSp b t S) : S.length ≤ 400 := line_le h9 h.nodup (h.ok O h0)
theorem IsSp.into {b : Bk} {t : Int} {S : List Spot} (h : IsSp b t S) (nb : ¬ Bad b t) : ∀ s ∈ S, Into b t S s := fun s hs c hc d hd => by
  have hr := (h.m s).mp hs
  split
  · exact True.intro
  · rename_i e
    exact nb ⟨s, hr, c, hc, d, hd, e⟩
  · rename_i s' e
    exact (h.m s').mpr (.step hr ⟨c, hc, d, hd, e⟩)
/-- the first one is the start -/
theorem IsSp.first {b : Bk} (O : b.Ok) {t : Int} (h0 : 0 ≤ t) {S : List Spot} (h : IsSp b t S) : ∃ r, S = START :: r ∧ START ∉ r := by
  have hs : START ∈ S := (h.m _).mpr .start
  cases S with
  | nil => cases hs
  | cons x r =>
    obtain ⟨a1, b1⟩ := List.pairwise_cons.mp h.o
    have hx := h.ok O h0 x List.mem_cons_self
    have e : x = START := by
      rcases List.mem_cons.mp hs with e | hm
      · exact e.symm
      · exfalso
        have hlt := a1 _ hm
        obtain ⟨i, j, k, l⟩ := x
        have a := hx.a
        have b := hx.b
        have c := hx.c
        have d := hx.d
        simp only at a b c d
        simp [Slt, PySem.W.dataLt, pyD, pyDs, PySem.W.keyToks, PySem.W.keyToksAll, PyProof.Rows.lexLt, PyProof.Rows.itemLt] at hlt
        rcases a with rfl | rfl <;> rcases b with rfl | rfl <;> omega
    subst e
    exact ⟨r, rfl, fun hm => Slt.irrefl _ (a1 _ hm)⟩
end Tb
set_option Elab.async false
set_option linter.all false
set_option maxRecDepth 100000
set_option maxHeartbeats 0
namespace Tb
open PySem PySem.Spec PyProof.Rows L2 Qz Hd
-- array_mem_dec: an operator on values
local macro_rules | `(tactic| array_mem_dec) => `(tactic| with_reducible first
  | exact fv_add | exact fv_sub | exact fv_le | exact fv_lt | exact fv_gt | exact fv_ge | exact fv_eqI | exact fv_eqS | exact fv_eqB | exact fv_is | exact fv_isn | exact fv_isB | exact fv_isnB | exact fv_neg
  | exact fv_revT | exact fa_abs | exact fa_int | exact fa_lenT | exact fa_max2
  | (apply fv_mod; decide) | (apply fv_div; decide) | (apply fv_ixT; with_unfolding_all rfl)
  | (apply fv_ne; array_mem_dec) | (apply fa_isiI; with_unfolding_all rfl) | (apply fa_isiB; with_unfolding_all rfl) | (apply fa_isiU; with_unfolding_all rfl) | (apply fa_isiS; with_unfolding_all rfl) | (apply fa_isiD; with_unfolding_all rfl) | (apply fa_isiUL; with_unfolding_all rfl) | assumption)
local macro_rules | `(tactic| sizeOf_list_dec) => `(tactic| assumption)
-- array_get_dec: what an expression, a test evaluates to
local macro_rules | `(tactic| array_get_dec) => `(tactic| with_reducible first
  | exact ev_c | (apply ev_var; with_unfolding_all rfl) | exact ea_nil
  | (apply ea_cons; · array_get_dec
     · array_get_dec)
  | (apply ev_bin; · array_get_dec
     · array_get_dec
     · array_mem_dec)
  | (apply ev_un; · array_get_dec
     · array_mem_dec)
  | (apply ev_tup; · array_get_dec
     · first | with_unfolding_all decide | with_unfolding_all exact Nat.le_of_ble_eq_true rfl)
  | (apply ev_cb; · array_get_dec
     · array_mem_dec)
  | (apply ev_call; · array_get_dec
     · sizeOf_list_dec
     · with_unfolding_all rfl)
  | (apply et_tst; array_get_dec)
  | (apply et_tru; · array_get_dec
     · exact tru_bl)
  | (apply et_not; array_get_dec)
  | assumption)
local macro_rules | `(tactic| sizeOf_list_dec) => `(tactic| first | exact sp36 | exact sp42 _ | exact sp41 _ _ | exact sp49 _ _ | exact sp18 (by assumption) (by assumption) | assumption)
section
variable {m : Mm} {L : Nat} {b : Bk}
abbrev cpF (b : Bk) (t : Int) (q r : Addr) (cp : D) : List (Str × D) := [("its_book", b.d), ("its_torn", .int t), ("its_line", .ref q), ("its_from", .ref r), ("its_couple", cp)]
structure Cpl (b : Bk) (t : Int) (m : Mm) (p q r : Addr) (line : List Spot) (kvs : List (List Key × D)) (cp : D) : Prop where
  o : m p = some (.ins 0 (cpF b t q r cp))
  l : m q = some (.lst (line.map Spot.d))
  f : m r = some (.dT kvs)
theorem Cpl.pq {t : Int} {p q r : Addr} {line : List Spot} {kvs : List (List Key × D)} {cp : D} (C : Cpl b t m p q r line kvs cp) : p ≠ q ∧ p ≠ r ∧ q ≠ r :=
  ⟨fun z => (by subst z; have := C.o.symm.trans C.l; cases this), fun z => (by subst z; have := C.o.symm.trans C.f; cases this), fun z => (by subst z; have := C.l.symm.trans C.f; cases this)⟩
def Keep (m m' : Mm) (p q r : Addr) : Prop := ∀ a o, m a = some o → a ≠ p → a ≠ q → a ≠ r → m' a = some o
theorem Keep.refl {p q r : Addr} : Keep m m p q r := fun _ _ h _ _ _ => h
theorem Keep.trans {m1 m2 : Mm} {p q r : Addr} (a : Keep m m1 p q r) (c : Keep m1 m2 p q r) : Keep m m2 p q r := fun x o h h1 h2 h3 => c x o (a x o h h1 h2 h3) h1 h2 h3
theorem l_book (b : Bk) (t : Int) (q r : Addr) (cp : D) : (cpF b t q r cp).lookup ("its_book" : Str) = some b.d := by rfl
theorem l_torn (b : Bk) (t : Int) (q r : Addr) (cp : D) : (cpF b t q r cp).lookup ("its_torn" : Str) = some (.int t) := by rfl
theorem l_line (b : Bk) (t : Int) (q r : Addr) (cp : D) : (cpF b t q r cp).lookup ("its_line" : Str) = some (.ref q) := by rfl
theorem l_from (b : Bk) (t : Int) (q r : Addr) (cp : D) : (cpF b t q r cp).lookup ("its_from" : Str) = some (.ref r) := by rfl
theorem l_couple (b : Bk) (t : Int) (q r : Addr) (cp : D) : (cpF b t q r cp).lookup ("its_couple" : Str) = some cp := by rfl
theorem p_couple (b : Bk) (t : Int) (q r : Addr) (cp cp' : D) : putN "its_couple" cp' (cpF b t q r cp) = cpF b t q r cp' := by rfl
/-- the line and where from -/
structure Lin (b : Bk) (t : Int) (line : List Spot) (kvs : List (List Key × D)) : Prop where
  h : line[0]? = some START
  n : line.Nodup
  r : ∀ s ∈ line, Rch b t s
  k : ∀ s : Spot, (valD kvs s.k).isSome = decide (s ∈ line)
  z : kvs.length ≤ line.length
  f0 : valD kvs (Spot.k START) = some .non
  f : ∀ i s, line[i + 1]? = some s → ∃ j prev c d, j ≤ i ∧ line[j]? = some prev ∧ c ∈ b.goods ∧ d ∈ b.goods ∧ b.behind t prev c d = .to s ∧ valD kvs s.k = some (.tup [prev.d, .tup [.int c, .int d]])
theorem Lin.len {t : Int} {line : List Spot} {kvs : List (List Key × D)} (O : b.Ok) (h0 : 0 ≤ t) (h9 : t ≤ 9) (I : Lin b t line kvs) : line.length ≤ 400 := line_le h9 I.n fun s hs => (I.r s hs).ok O h0
theorem Lin.snoc {t : Int} {line : List Spot} {kvs : List (List Key × D)} (I : Lin b t line kvs) {s s' : Spot} {c d : Int} (hs : s ∈ line) (hc : c ∈ b.goods) (hd : d ∈ b.goods) (e : b.behind t s c d = .to s') (hn : s' ∉ line) : Lin b t (line ++ [s']) (putD kvs s'.k (.tup [s.d, .tup [.int c, .int d]])) := by
  have hst : START ∈ line := List.mem_of_getElem? I.h
  have ne : ∀ {x : Spot}, x ∈ line → s'.k ≠ x.k := fun hx z => hn (by rw [Spot.k_inj z]; exact hx)
  have hpos : 0 < line.length := List.length_pos_of_mem hs
  refine ⟨?_, ?_, ?_, fun x => ?_, ?_, ?_, ?_⟩
  · rw [List.getElem?_append_left hpos]; exact I.h
  · refine List.nodup_append.mpr ⟨I.n, by simp, fun a ha y hy z => ?_⟩
    rw [List.mem_singleton] at hy
    subst hy z
    exact hn ha
  · intro x hx
    rcases List.mem_append.mp hx with hx | hx
    · exact I.r x hx
    · rw [List.mem_singleton] at hx
      subst hx
      exact .step (I.r s hs) ⟨c, hc, d, hd, e⟩
  · rw [valD_putD]
    by_cases q : s'.k = x.k
    · rw [if_pos q]
      have : x = s' := (Spot.k_inj q).symm
      subst this
      simp
    · rw [if_neg q, I.k x]
      have : x ≠ s' := fun z => q (by rw [z])
      simp [this]
  · have := length_putD kvs s'.k (.tup [s.d, .tup [.int c, .int d]])
    have := I.z
    rw [List.length_append]
    show _ ≤ line.length + 1
    omega
  · rw [valD_putD, if_neg (ne hst)]
    exact I.f0
  · intro i x hx
    by_cases hi : i + 1 < line.length
    · rw [List.getElem?_append_left hi] at hx
      obtain ⟨j, prev, c', d', h1, h2, h3, h4, h5, h6⟩ := I.f i x hx
      refine ⟨j, prev, c', d', h1, ?_, h3, h4, h5, ?_⟩
      · rw [List.getElem?_append_left (by omega)]; exact h2
      · rw [valD_putD, if_neg (ne (List.mem_of_getElem? hx))]; exact h6
    · rw [List.getElem?_append_right (by omega)] at hx
      have hi2 : i + 1 - line.length = 0 := by
        by_cases z : i + 1 - line.length = 0
        · exact z
        · rw [List.getElem?_eq_none (by show 1 ≤ _; omega)] at hx; cases hx
      rw [hi2] at hx
      cases hx
      obtain ⟨j, hj, ej⟩ := List.getElem_of_mem hs
      refine ⟨j, s, c, d, by omega, ?_, hc, hd, e, ?_⟩
      · rw [List.getElem?_append_left hj, List.getElem?_eq_getElem hj, ej]
      · rw [valD_putD, if_pos rfl]
theorem sp59 {t : Int} {p q r : Addr} {line : List Spot} {kvs : List (List Key × D)} {cp : D} (C : Cpl b t m p q r line kvs cp) (I : Lin b t line kvs) (hz : line.length ≤ 400) {s : Spot} (hs : s ∈ line) (c d : Int) : GFn (Lv tb (L + 1)) 59 [.ref p, s.d, .tup [.int c, .int d]] m (Rp fun x m' => m' = m ∧ ∃ ps, Pth b t START ps s ∧ ps.length ≤ 400 ∧ x = cpD ((ps ++ [(c, d)]).map (·.1)) ((ps ++ [(c, d)]).map (·.2))) := by
  refine fn_gor rfl rfl ?_
  refine g_setL (xs := [(c, d)].map pD) (el_lst (ea_cons (ev_var rfl) ea_nil) (Nat.le_of_ble_eq_true rfl)) fun f hf => ?_
  have hfp : p ≠ f := hf.ne C.o
  have hfr : r ≠ f := hf.ne C.f
  have eo : ∀ u, (m.set f u) p = some (.ins 0 (cpF b t q r cp)) := fun u => by rw [Mm.set_ne hfp]; exact C.o
  have er : ∀ u, (m.set f u) r = some (.dT kvs) := fun u => by rw [Mm.set_ne hfr]; exact C.f
  obtain ⟨n0, hn0, en0⟩ := List.getElem_of_mem hs
  refine g_seq (Q1 := fun ρ' m' => ∃ gs x4, ρ' = [some (.ref p), some (Spot.d START), some (.tup [.int c, .int d]), some (.ref f), x4, none, none] ∧ m' = m.set f (.lst (((c, d) :: gs).map pD)) ∧ Pth b t START gs.reverse s ∧ gs.length ≤ 400) ?_ ?_
  · refine g_while (n0 := n0) (fun n ρ' m' => ∃ s1 gs x4, line[n]? = some s1 ∧ ρ' = [some (.ref p), some s1.d, some (.tup [.int c, .int d]), some (.ref f), x4, none, none] ∧ m' = m.set f (.lst (((c, d) :: gs).map pD)) ∧ Pth b t s1 gs.reverse s ∧ gs.length + n ≤ n0) ⟨s, [], none, by rw [List.getElem?_eq_getElem hn0, en0], rfl, rfl, .nil, by simp⟩ ?_
    rintro n ρ' m' ⟨s1, gs, x4, hl, rfl, rfl, hp, hn⟩
    have get : ∀ {v : D} {ρ : Ev}, nth ρ 0 = some (.ref p) → nth ρ 1 = some s1.d → valD kvs s1.k = some v → Evd (wBin fIx (wFld 0 "its_from" (wVar 0)) (wVar 1)) (Lv tb L) ρ (m.set f (.lst (((c, d) :: gs).map pD))) v := fun h1 h2 hv => ev_bin (ev_fld (ev_var h1) (eo _) (l_from b t q r cp)) (ev_var h2) (fv_ixD (by rw [← hv]; exact dg_ints (er _) [s1.1, s1.2.1, s1.2.2.1, s1.2.2.2]))
    cases n with
    | zero =>
      rw [I.h] at hl
      cases hl
      exact ⟨false, et_tst (ev_bin (get rfl rfl I.f0) ev_c fv_isn), fun z => (by cases z), fun _ => ⟨gs, x4, rfl, rfl, hp, by omega⟩⟩
    | succ n =>
      obtain ⟨j, prev, c', d', h1, h2, h3, h4, h5, h6⟩ := I.f n s1 hl
      refine ⟨true, et_tst (ev_bin (get rfl rfl h6) ev_c fv_isn), fun _ => ?_, fun z => by cases z⟩
      refine g_tg (get rfl rfl h6) (fun P h => ⟨rfl, h⟩) ?_
      refine g_append (y := pD (c', d')) (ev_var rfl) (ev_var rfl) Mm.set_same (by rw [List.length_map, sizeLine_eq]; show gs.length + 1 < _; omega) ?_
      refine ⟨j, by omega, prev, gs ++ [(c', d')], _, h2, rfl, ?_, ?_, ?_⟩
      · rw [Mm.set_set, ← List.map_singleton, ← List.map_append]
        rfl
      · rw [List.reverse_append]
        exact .cons h3 h4 h5 hp
      · rw [List.length_append]
        show gs.length + 1 + j ≤ n0
        omega
  · rintro ρ' m' ⟨gs, x4, rfl, rfl, hp, hl⟩
    refine ⟨_, .refl _, ?_⟩
    have e0 : (m.set f (.lst (((c, d) :: gs).map pD))) f = some (.lst (((c, d) :: gs).map pD)) := Mm.set_same
    have hrev : (((c, d) :: gs).map pD).reverse = (gs.reverse ++ [(c, d)]).map pD := by rw [← List.map_reverse, List.reverse_cons]
    have hz2 : (gs.reverse ++ [(c, d)]).length ≤ sizeLine := by rw [List.length_append, List.length_reverse, sizeLine_eq]; show gs.length + 1 ≤ _; omega
    have it : ∀ {ρ : Ev}, nth ρ 3 = some (.ref f) → Evl (wUn fRev (wVar 3)) (Lv tb L) ρ (m.set f (.lst (((c, d) :: gs).map pD))) ((gs.reverse ++ [(c, d)]).map pD) := fun h => by
      rw [← hrev]
      exact el_revL (ev_var h) e0
    refine g_ret (d := cpD ((gs.reverse ++ [(c, d)]).map (·.1)) ((gs.reverse ++ [(c, d)]).map (·.2))) (ev_tup (ea_cons (ev_cbl (ea_one (el_mapFA pD .int (fun x : Int × Int => x.1) (it rfl) hz2 fun m' s x hx => ⟨_, rfl, ev_var rfl⟩)) fun p m' e => fa_tupL e) (ea_cons (ev_cbl (ea_one (el_mapFA pD .int (fun x : Int × Int => x.2) (it rfl) hz2 fun m' s x hx => ⟨_, rfl, ev_var rfl⟩)) fun p m' e => fa_tupL e) ea_nil)) (Nat.le_of_ble_eq_true rfl)) fun P Z h => ⟨m, Sub.fresh hf, h _ _ ⟨rfl, gs.reverse, hp, by rw [List.length_reverse]; exact hl, rfl⟩⟩
/-- one couple of cells is done -/
def Done (b : Bk) (t : Int) (S : List Spot) (s : Spot) (c d : Int) : Prop := match b.behind t s c d with
  | .far => True
  | .unlike => False
  | .to s' => s' ∈ S
theorem Done.mono {t : Int} {S S' : List Spot} {s : Spot} {c d : Int} (h : Done b t S s c d) (k : S <+: S') : Done b t S' s c d := by
  unfold Done at h ⊢
  split at h
  · exact True.intro
  · exact h
  · exact k.subset h
def CpOk (b : Bk) (t : Int) (cp : D) : Prop := Bad b t ∧ ∃ xs ys, cp = cpD xs ys ∧ cpB b t xs ys = true ∧ xs.length ≤ 500 ∧ ys.length ≤ 500
/-- what a part of the run leaves -/
def Left (b : Bk) (t : Int) (m : Mm) (p q r : Addr) (line : List Spot) (T : List Spot → Prop) (m' : Mm) : Prop := Keep m m' p q r ∧ ∃ line' kvs' cp', Cpl b t m' p q r line' kvs' cp' ∧ Lin b t line' kvs' ∧ line <+: line' ∧ ((cp' = .non ∧ T line') ∨ CpOk b t cp')
theorem sp58 (O : b.Ok) {t : Int} (h0 : 0 ≤ t) (h9 : t ≤ 9) {p q r : Addr} {line : List Spot} {kvs : List (List Key × D)} (C : Cpl b t m p q r line kvs .non) (I : Lin b t line kvs) {s : Spot} (hs : s ∈ line) {c d : Int} (hc : c ∈ b.goods) (hd : d ∈ b.goods) :
    GFn (Lv tb (L + 5)) 58 [.ref p, s.d, .int c, .int d] m (Rp fun x m' => x = .non ∧ Left b t m p q r line (fun S => Done b t S s c d) m') := by
  have sok := (I.r s hs).ok O h0
  have hlen := I.len O h0 h9
  have hne := C.pq
  refine fn_go (Q := fun _ m' => Left b t m p q r line (fun S => Done b t S s c d) m') rfl rfl ?_ fun ρ' m' h P Z hr => ⟨m', .refl _, hr _ _ ⟨rfl, h⟩⟩
  have s20 := sp20 (m := m) (L := L) O (t := t) (s := s) (Bk.goods_mem.mp hc).2 (Bk.goods_mem.mp hd).2 sok.a sok.b
  refine g_set (ev_call (ea_cons (ev_fld (ev_var rfl) C.o (l_book b t q r .non)) (ea_cons (ev_fld (ev_var rfl) C.o (l_torn b t q r .non)) (ea_cons (ev_var rfl) (ea_cons (ev_var rfl) (ea_cons (ev_var rfl) ea_nil))))) s20) ?_
  cases e : b.behind t s c d with
  | far =>
    refine g_ifr (k := true) (et_tst (ev_bin (ev_var rfl) ev_c fv_is)) (fun _ => g_retN fun P Z hr => ⟨m, .refl _, hr _ _ ⟨rfl, Keep.refl, line, kvs, .non, C, I, List.prefix_refl _, .inl ⟨rfl, ?_⟩⟩⟩) fun z => by cases z
    unfold Done
    rw [e]
    exact True.intro
  | unlike =>
    refine g_ifr (k := false) (et_tst (ev_bin (ev_var rfl) ev_c fv_is)) (fun z => by cases z) fun _ => ?_
    refine g_if (k := true) (Evt.to (et_tst (ev_bin (ev_var rfl) (ev_tup ea_nil (Nat.le_of_ble_eq_true rfl)) (fv_eqPy rfl rfl rfl rfl))) rfl) (fun _ => ?_) fun z => by cases z
    refine g_tgR1 (er_meth (ev_var rfl) C.o (by rfl) (ea_cons (ev_var rfl) (ea_cons (ev_tup (ea_cons (ev_var rfl) (ea_cons (ev_var rfl) ea_nil)) (Nat.le_of_ble_eq_true rfl)) ea_nil)) (sp59 (L := L + 3) C I hlen hs c d)) ?_
    rintro x m' ⟨rfl, ps, hp, hpl, rfl⟩
    refine ⟨_, _, gs_fld (ev_var rfl) C.o (Nat.lt_of_lt_of_le (Nat.lt_succ_self 5) (Nat.le_of_ble_eq_true rfl)), ?_⟩
    rw [p_couple]
    have hb : Bad b t := ⟨s, I.r s hs, c, hc, d, hd, e⟩
    refine ⟨fun a o h h1 _ _ => by rw [Mm.set_ne h1]; exact h, line, kvs, _, ⟨Mm.set_same, by rw [Mm.set_ne hne.1.symm]; exact C.l, by rw [Mm.set_ne hne.2.1.symm]; exact C.f⟩, I, List.prefix_refl _, .inr ⟨hb, _, _, rfl, hp.couple hc hd e, ?_, ?_⟩⟩
    · rw [List.length_map, List.length_append]
      show ps.length + 1 ≤ _
      omega
    · rw [List.length_map, List.length_append]
      show ps.length + 1 ≤ _
      omega
  | to s' =>
    refine g_ifr (k := false) (et_tst (ev_bin (ev_var rfl) ev_c fv_is)) (fun z => by cases z) fun _ => ?_
    refine g_if (k := false) (Evt.to (et_tst (ev_bin (ev_var rfl) (ev_tup ea_nil (Nat.le_of_ble_eq_true rfl)) (fv_eqPy rfl rfl rfl rfl))) rfl) (fun z => by cases z) fun _ => ?_
    refine g_if (k := !decide (s' ∈ line)) (Evt.to (et_tst (ev_bin (ev_var rfl) (ev_fld (ev_var rfl) C.o (l_from b t q r .non)) (fv_inD (dg_ints C.f [s'.1, s'.2.1, s'.2.2.1, s'.2.2.2])))) ?_) (fun h => ?_) fun h => ?_
    · show (true ^^ (valD kvs s'.k).isSome) = _
      rw [I.k, Bool.true_xor]
    · have hn : s' ∉ line := by simpa using h
      refine g_tgM (x := .tup [s.d, .tup [.int c, .int d]]) (by array_get_dec) (gs_dict (ev_fld (ev_var rfl) C.o (l_from b t q r .non)) (ev_var rfl) (dp_ints C.f [s'.1, s'.2.1, s'.2.2.1, s'.2.2.2] _ (by have := I.z; rw [sizeLine_eq]; omega))) ?_
      have I' := I.snoc hs hc hd e hn
      refine g_append (y := s'.d) (ev_fld (ev_var rfl) (by rw [Mm.set_ne hne.2.1]; exact C.o) (l_line b t q r .non)) (ev_var rfl) (by rw [Mm.set_ne hne.2.2]; exact C.l) (by rw [List.length_map, sizeLine_eq]; omega) ?_
      refine ⟨fun a o h _ h2 h3 => by rw [Mm.set_ne h2, Mm.set_ne h3]; exact h, line ++ [s'], _, .non, ⟨by rw [Mm.set_ne hne.1, Mm.set_ne hne.2.1]; exact C.o, by rw [Mm.set_same, List.map_append]; rfl, by rw [Mm.set_ne hne.2.2.symm, Mm.set_same]; rfl⟩, I', List.prefix_append _ _, .inl ⟨rfl, ?_⟩⟩
      unfold Done
      rw [e]
      simp
    · refine g_next ⟨Keep.refl, line, kvs, .non, C, I, List.prefix_refl _, .inl ⟨rfl, ?_⟩⟩
      unfold Done
      rw [e]
      simpa using h
end
end Tb
set_option Elab.async false
set_option linter.all false
set_option maxRecDepth 100000
set_option maxHeartbeats 0
namespace Tb
open PySem PySem.Spec PyProof.Rows L2 Qz Hd
-- array_mem_dec: an operator on values
local macro_rules | `(tactic| array_mem_dec) => `(tactic| with_reducible first
  | exact fv_add | exact fv_sub | exact fv_le | exact fv_lt | exact fv_gt | exact fv_ge | exact fv_eqI | exact fv_eqS | exact fv_eqB | exact fv_is | exact fv_isn | exact fv_isB | exact fv_isnB | exact fv_neg
  | exact fv_revT | exact fa_abs | exact fa_int | exact fa_lenT | exact fa_max2
  | (apply fv_mod; decide) | (apply fv_div; decide) | (apply fv_ixT; with_unfolding_all rfl)
  | (apply fv_ne; array_mem_dec) | (apply fa_isiI; with_unfolding_all rfl) | (apply fa_isiB; with_unfolding_all rfl) | (apply fa_isiU; with_unfolding_all rfl) | (apply fa_isiS; with_unfolding_all rfl) | (apply fa_isiD; with_unfolding_all rfl) | (apply fa_isiUL; with_unfolding_all rfl) | assumption)
local macro_rules | `(tactic| sizeOf_list_dec) => `(tactic| assumption)
-- array_get_dec: what an expression, a test evaluates to
local macro_rules | `(tactic| array_get_dec) => `(tactic| with_reducible first
  | exact ev_c | (apply ev_var; with_unfolding_all rfl) | exact ea_nil
  | (apply ea_cons; · array_get_dec
     · array_get_dec)
  | (apply ev_bin; · array_get_dec
     · array_get_dec
     · array_mem_dec)
  | (apply ev_un; · array_get_dec
     · array_mem_dec)
  | (apply ev_tup; · array_get_dec
     · first | with_unfolding_all decide | with_unfolding_all exact Nat.le_of_ble_eq_true rfl)
  | (apply ev_cb; · array_get_dec
     · array_mem_dec)
  | (apply ev_call; · array_get_dec
     · sizeOf_list_dec
     · with_unfolding_all rfl)
  | (apply et_tst; array_get_dec)
  | (apply et_tru; · array_get_dec
     · exact tru_bl)
  | (apply et_not; array_get_dec)
  | assumption)
local macro_rules | `(tactic| sizeOf_list_dec) => `(tactic| first | exact sp36 | exact sp42 _ | exact sp41 _ _ | exact sp49 _ _ | exact sp18 (by assumption) (by assumption) | exact sp15 (by assumption) | assumption)
section
variable {m : Mm} {L : Nat} {b : Bk}
theorem mem_take_succ {α : Type} {xs : List α} {i : Nat} {x y : α} (h : xs[i]? = some x) : y ∈ xs.take (i + 1) ↔ y ∈ xs.take i ∨ y = x := by
  rw [List.take_add_one, h, List.mem_append]
  simp
theorem Left.trans {t : Int} {m1 m2 : Mm} {p q r : Addr} {line line1 : List Spot} {T : List Spot → Prop} {T' : List Spot → Prop} (k : Keep m m1 p q r) (hl : line <+: line1) (h : Left b t m1 p q r line1 T m2) (hT : ∀ S, line1 <+: S → T S → T' S) : Left b t m p q r line T' m2 := by
  obtain ⟨k2, line', kvs', cp', C, I, hp, h⟩ := h
  refine ⟨k.trans k2, line', kvs', cp', C, I, hl.trans hp, ?_⟩
  rcases h with ⟨h1, h2⟩ | h
  · exact .inl ⟨h1, hT line' hp h2⟩
  · exact .inr h
theorem CpOk.is {t : Int} {cp : D} (h : CpOk b t cp) : isNon cp = false := by
  obtain ⟨_, xs, ys, rfl, _⟩ := h
  rfl
theorem sp57 (O : b.Ok) {t : Int} (h0 : 0 ≤ t) (h9 : t ≤ 9) {p q r : Addr} {line : List Spot} {kvs : List (List Key × D)} (C : Cpl b t m p q r line kvs .non) (I : Lin b t line kvs) {s : Spot} (hs : s ∈ line) :
    GFn (Lv tb (L + 6)) 57 [.ref p, s.d] m (Rp fun x m' => x = .non ∧ Left b t m p q r line (fun S => ∀ c ∈ b.goods, ∀ d ∈ b.goods, Done b t S s c d) m') := by
  refine fn_go (Q := fun _ m' => Left b t m p q r line (fun S => ∀ c ∈ b.goods, ∀ d ∈ b.goods, Done b t S s c d) m') rfl rfl ?_ fun ρ' m' h P Z hr => ⟨m', .refl _, hr _ _ ⟨rfl, h⟩⟩
  have fin : ∀ (T : Nat → List Spot → Prop) (ρ' : Ev) (m' : Mm), True := fun _ _ _ => True.intro
  refine g_for (its := b.goods.map .int) (fun i ρ' m' => (∃ x2 x3, ρ' = [some (.ref p), some s.d, x2, x3]) ∧ Left b t m p q r line (fun S => ∀ c ∈ b.goods.take i, ∀ d ∈ b.goods, Done b t S s c d) m') (ei_tup (ev_call (ea_cons (ev_fld (ev_var rfl) C.o (l_book b t q r .non)) ea_nil) (sp15 O))) ⟨⟨_, _, rfl⟩, Keep.refl, line, kvs, .non, C, I, List.prefix_refl _, .inl ⟨rfl, fun c hc => by simp at hc⟩⟩ (fun _ _ _ _ => True.intro) ?_ ?_
  · rintro i ρ' m1 x ⟨⟨x2, x3, rfl⟩, hL⟩ hx
    obtain ⟨c, hc, rfl⟩ := ix_ints hx
    have hcg := List.mem_of_getElem? hc
    refine ⟨_, rfl, ?_⟩
    obtain ⟨k1, line1, kvs1, cp1, C1, I1, hp1, hT1⟩ := id hL
    refine g_for (its := b.goods.map .int) (fun j ρ' m' => (∃ x3, ρ' = [some (.ref p), some s.d, some (.int c), x3]) ∧ Left b t m p q r line (fun S => (∀ c ∈ b.goods.take i, ∀ d ∈ b.goods, Done b t S s c d) ∧ ∀ d ∈ b.goods.take j, Done b t S s c d) m') (ei_tup (ev_call (ea_cons (ev_fld (ev_var rfl) C1.o (l_book b t q r cp1)) ea_nil) (sp15 O))) ⟨⟨_, rfl⟩, Left.trans Keep.refl (List.prefix_refl _) hL fun S _ h => ⟨h, fun d hd => by simp at hd⟩⟩ (fun _ _ _ _ => True.intro) ?_ ?_
    · rintro j ρ' m2 x ⟨⟨x3, rfl⟩, hL2⟩ hx
      obtain ⟨d, hd, rfl⟩ := ix_ints hx
      have hdg := List.mem_of_getElem? hd
      refine ⟨_, rfl, ?_⟩
      obtain ⟨k2, line2, kvs2, cp2, C2, I2, hp2, hT2⟩ := id hL2
      refine g_if (k := isNon cp2) (et_tst (ev_bin (ev_fld (ev_var rfl) C2.o (l_couple b t q r cp2)) ev_c fv_is)) (fun h => ?_) fun h => ?_
      · rcases hT2 with ⟨rfl, hT2⟩ | hT2
        · refine g_exR (er_meth (ev_var rfl) C2.o (by rfl) (by array_get_dec) (sp58 (L := L) O h0 h9 C2 I2 (hp2.subset hs) hcg hdg)) ?_
          rintro x m3 ⟨_, hL3⟩
          refine ⟨⟨_, rfl⟩, Left.trans k2 hp2 hL3 fun S hS hD => ⟨fun c' h1 d' h2 => (hT2.1 c' h1 d' h2).mono hS, fun d' h2 => ?_⟩⟩
          rcases (mem_take_succ hd).mp h2 with h2 | h2
          · exact (hT2.2 d' h2).mono hS
          · subst h2; exact hD
        · rw [hT2.is] at h; cases h
      · rcases hT2 with ⟨rfl, hT2⟩ | hT2
        · cases h
        · exact g_next ⟨⟨_, rfl⟩, k2, line2, kvs2, cp2, C2, I2, hp2, .inr hT2⟩
    · rintro ρ' m2 ⟨⟨x3, rfl⟩, hL2⟩
      refine ⟨⟨_, _, rfl⟩, Left.trans Keep.refl (List.prefix_refl _) hL2 fun S _ h c' h1 d' h2 => ?_⟩
      rcases (mem_take_succ hc).mp h1 with h1 | h1
      · exact h.1 c' h1 d' h2
      · subst h1
        exact h.2 d' (by rw [List.length_map, List.take_length]; exact h2)
  · rintro ρ' m2 ⟨_, hL2⟩
    exact Left.trans Keep.refl (List.prefix_refl _) hL2 fun S _ h c' h1 d' h2 => h c' (by rw [List.length_map, List.take_length]; exact h1) d' h2
/-- the whole run -/
def Fin (b : Bk) (t : Int) (m : Mm) (p q r : Addr) (line : List Spot) (m' : Mm) : Prop := Left b t m p q r line (fun S => ∀ s ∈ S, ∀ c ∈ b.goods, ∀ d ∈ b.goods, Done b t S s c d) m'
theorem sp56 (O : b.Ok) {t : Int} (h0 : 0 ≤ t) (h9 : t ≤ 9) {p q r : Addr} {line : List Spot} {kvs : List (List Key × D)} (C : Cpl b t m p q r line kvs .non) (I : Lin b t line kvs) :
    GFn (Lv tb (L + 7)) 56 [.ref p] m (Rp fun x m' => x = .non ∧ Fin b t m p q r line m') := by
  refine fn_go (Q := fun _ m' => Fin b t m p q r line m') rfl rfl ?_ fun ρ' m' h P Z hr => ⟨m', .refl _, hr _ _ ⟨rfl, h⟩⟩
  refine g_set ev_c ?_
  refine g_while (n0 := 401) (fun n ρ' m' => ∃ at_ : Nat, ρ' = [some (.ref p), some (.int (at_ : Nat))] ∧ n + at_ = 401 ∧ Keep m m' p q r ∧ ∃ line' kvs' cp', Cpl b t m' p q r line' kvs' cp' ∧ Lin b t line' kvs' ∧ line <+: line' ∧ at_ ≤ line'.length ∧ ((cp' = .non ∧ ∀ i s, i < at_ → line'[i]? = some s → ∀ c ∈ b.goods, ∀ d ∈ b.goods, Done b t line' s c d) ∨ CpOk b t cp')) ⟨0, rfl, rfl, Keep.refl, line, kvs, .non, C, I, List.prefix_refl _, Nat.zero_le _, .inl ⟨rfl, fun i s hi => by omega⟩⟩ ?_
  rintro n ρ' m1 ⟨at_, rfl, hn, k1, line1, kvs1, cp1, C1, I1, hp1, ha, hT⟩
  have hlen := I1.len O h0 h9
  refine ⟨decide ((at_ : Int) < (line1.length : Int)) && isNon cp1, et_and (Evt.to (et_tst (ev_bin (ev_var rfl) (ev_cb (ea_cons (ev_fld (ev_var rfl) C1.o (l_line b t q r cp1)) ea_nil) (fa_lenL C1.l)) fv_lt)) (by rw [List.length_map])) fun _ => et_tst (ev_bin (ev_fld (ev_var rfl) C1.o (l_couple b t q r cp1)) ev_c fv_is), fun h => ?_, fun h => ?_⟩
  · obtain ⟨h1, h2⟩ := ba h
    have hlt : at_ < line1.length := by have := of_decide_eq_true h1; omega
    have hx : line1[at_]? = some line1[at_] := List.getElem?_eq_getElem hlt
    rcases hT with ⟨rfl, hT⟩ | hT
    · refine g_exsR (er_meth (ev_var rfl) C1.o (by rfl) (ea_cons (ev_bin (ev_fld (ev_var rfl) C1.o (l_line b t q r .non)) (ev_var rfl) (fv_ixL C1.l (atI_nat (by rw [List.getElem?_map, hx]; rfl)))) ea_nil) (sp57 (L := L) O h0 h9 C1 I1 (List.getElem_mem hlt))) ?_
      rintro x m2 ⟨_, k2, line2, kvs2, cp2, C2, I2, hp2, hT2⟩
      refine ⟨m2, .refl _, g_inc rfl ev_c ⟨n - 1, by omega, at_ + 1, rfl, by omega, k1.trans k2, line2, kvs2, cp2, C2, I2, hp1.trans hp2, by have := hp2.length_le; omega, ?_⟩⟩
      rcases hT2 with ⟨h3, hT2⟩ | hT2
      · refine .inl ⟨h3, fun i s hi hs => ?_⟩
        by_cases hi2 : i < at_
        · have hs1 : line1[i]? = some s := by
            obtain ⟨ts, rfl⟩ := hp2
            rwa [List.getElem?_append_left (by omega)] at hs
          exact fun c hc d hd => (hT i s hi2 hs1 c hc d hd).mono hp2
        · have e : i = at_ := by omega
          subst e
          have hs1 : line1[i] = s := by
            obtain ⟨ts, rfl⟩ := hp2
            rw [List.getElem?_append_left hlt, hx] at hs
            cases hs
            rfl
          subst hs1
          exact hT2
      · exact .inr hT2
    · rw [hT.is] at h2; cases h2
  · refine ⟨k1, line1, kvs1, cp1, C1, I1, hp1, ?_⟩
    rcases hT with ⟨rfl, hT⟩ | hT
    · have hge : ¬ at_ < line1.length := fun z => by
        rw [decide_eq_true (by omega)] at h
        cases h
      refine .inl ⟨rfl, fun s hs => ?_⟩
      obtain ⟨i, hi, ei⟩ := List.getElem_of_mem hs
      exact hT i s (by omega) (by rw [List.getElem?_eq_getElem hi, ei])
    · exact .inr hT
/-- what a run of Couples leaves -/
def Ran (b : Bk) (t : Int) (m : Mm) (p : Addr) (m' : Mm) : Prop := Sub m m' ∧ ∃ q r line kvs cp, Cpl b t m' p q r line kvs cp ∧ Lin b t line kvs ∧ ((cp = .non ∧ ¬ Bad b t ∧ ∀ s, s ∈ line ↔ Rch b t s) ∨ CpOk b t cp)
theorem lin0 (b : Bk) (t : Int) : Lin b t [START] [(Spot.k START, .non)] := by
  refine ⟨rfl, by simp, fun s hs => ?_, fun s => ?_, Nat.le_refl _, by rw [valD_cons, if_pos rfl], fun i s h => by simp at h⟩
  · rw [List.mem_singleton] at hs
    subst hs
    exact .start
  · rw [valD_cons]
    by_cases q : Spot.k START = s.k
    · rw [if_pos q, ← Spot.k_inj q]
      simp
    · rw [if_neg q]
      have : s ≠ START := fun z => q (by rw [z])
      simp [valD, this]
theorem gcns {G : Gam} {a : WG} {r : WGs} {d : D} {ds : List D} {ρ : Ev} {P : Ev → Mm → Prop} (h : a G d ρ m fun ρ' m' => r G ds ρ' m' P) : gCns a r G (d :: ds) ρ m P := h
theorem gnl {G : Gam} {ρ : Ev} {P : Ev → Mm → Prop} (h : P ρ m) : gNl G [] ρ m P := h
theorem sp55 (O : b.Ok) {t : Int} (h0 : 0 ≤ t) (h9 : t ≤ 9) {p : Addr} (hp : Fr m p) : GFn (Lv tb (L + 8)) 55 [.ref p, b.d, .int t] (m.set p (.ins 0 [])) (Rp fun x m' => x = .non ∧ Ran b t m p m') := by
  refine fn_go (Q := fun _ m' => Ran b t m p m') rfl rfl ?_ fun ρ' m' h P Z hr => ⟨m', .refl _, hr _ _ ⟨rfl, h⟩⟩
  refine g_exs (by array_get_dec) ?_
  have e1 : (m.set p (.ins 0 [])) p = some (.ins 0 []) := Mm.set_same
  refine g_tgM (x := .tup [b.d, .int t]) (ρ' := startD 3 [.ref p, b.d, .int t]) (m1 := m.set p (.ins 0 [("its_book", b.d), ("its_torn", .int t)])) (by array_get_dec) (fun P h => ⟨rfl, gcns (gs_fld (ev_var rfl) e1 (by decide) _ (gcns (gs_fld (fs := [("its_book", b.d)]) (ev_var rfl) Mm.set_same (by simp) _ (gnl ?_))))⟩) ?_
  · rw [Mm.set_set, Mm.set_set]
    exact h
  have e2 : (m.set p (.ins 0 [("its_book", b.d), ("its_torn", .int t)])) p = some (.ins 0 [("its_book", b.d), ("its_torn", .int t)]) := Mm.set_same
  refine g_tgR (T := fun d m' => ∃ q r, d = .tup [.ref q, .ref r, .non] ∧ q ≠ p ∧ r ≠ p ∧ Fr m q ∧ Fr m r ∧ m' p = some (.ins 0 [("its_book", b.d), ("its_torn", .int t)]) ∧ m' q = some (.lst [Spot.d START]) ∧ m' r = some (.dT [(Spot.k START, .non)]) ∧ Sub m m') ?_ ?_
  · have hl : Evl (wLst (wCons (wC (.tup [.int 0, .int 0, .int 0, .int 0])) wNil)) (Lv tb (L + 7)) (startD 3 [.ref p, b.d, .int t]) (m.set p (.ins 0 [("its_book", b.d), ("its_torn", .int t)])) [Spot.d START] := el_lst (ea_cons (Evd.to ev_c (by rfl)) ea_nil) (Nat.le_of_ble_eq_true rfl)
    have hT : Era (wCons (wLst (wCons (wC (.tup [.int 0, .int 0, .int 0, .int 0])) wNil)) (wCons (wDisp [((wC (.tup [.int 0, .int 0, .int 0, .int 0])), (wC .non))]) (wCons (wC .non) wNil))) (Lv tb (L + 7)) (startD 3 [.ref p, b.d, .int t]) (m.set p (.ins 0 [("its_book", b.d), ("its_torn", .int t)])) fun ds m' => ∃ q r, ds = [.ref q, .ref r, .non] ∧ q ≠ p ∧ r ≠ p ∧ Fr m q ∧ Fr m r ∧ m' p = some (.ins 0 [("its_book", b.d), ("its_torn", .int t)]) ∧ m' q = some (.lst [Spot.d START]) ∧ m' r = some (.dT [(Spot.k START, .non)]) ∧ Sub m m' := by
      refine era_consL hl fun q m1 hq s1 => ?_
      have hs1 := s1.sets hq
      refine era_cons (T := fun d m2 => ∃ r, d = .ref r ∧ Fr m1 r ∧ m2 = m1.set r (.dT [(Spot.k START, .non)])) (fun Z P k => .inr ⟨[(Spot.k START, .non)], rfl, fun r hr => k _ _ ⟨r, rfl, hr, rfl⟩⟩) ?_
      rintro d m2 ⟨r, rfl, hr, rfl⟩
      have hsm : Sub m (m.set p (.ins 0 [("its_book", b.d), ("its_torn", .int t)])) := Sub.fresh hp
      have hqp : q ≠ p := (hq.ne e2).symm
      have hrp : r ≠ p := (hr.ne (hs1 _ _ e2)).symm
      exact era_consD ev_c (era_nil ⟨q, r, rfl, hqp, hrp, hq.sub hsm, (hr.sub hs1).sub hsm, by rw [Mm.set_ne hrp.symm]; exact hs1 _ _ e2, by rw [Mm.set_ne (hr.ne s1.at)]; exact s1.at, Mm.set_same, (hsm.trans hs1).trans (Sub.fresh hr)⟩)
    refine Evr.imp (er_tup hT fun ds m1 ⟨q, r, e, _⟩ => by rw [e]; exact Nat.le_of_ble_eq_true rfl) ?_
    rintro d m' ⟨ds, rfl, q, r, rfl, h⟩
    exact ⟨q, r, rfl, h⟩
  rintro d m1 ⟨q, r, rfl, hqp, hrp, hq, hr, e3, e4, e5, hs⟩
  refine ⟨startD 3 [.ref p, b.d, .int t], m1.set p (.ins 0 (cpF b t q r .non)), _, fun P h => ⟨rfl, gcns (gs_fld (ev_var rfl) e3 (by simp) _ (gcns (gs_fld (fs := [("its_book", b.d), ("its_torn", .int t), ("its_line", .ref q)]) (ev_var rfl) Mm.set_same (by simp) _ (gcns (gs_fld (fs := [("its_book", b.d), ("its_torn", .int t), ("its_line", .ref q), ("its_from", .ref r)]) (ev_var rfl) Mm.set_same (by simp) _ (gnl ?_))))))⟩, .refl _, ?_⟩
  · rw [Mm.set_set, Mm.set_set]
    exact h
  have C : Cpl b t (m1.set p (.ins 0 (cpF b t q r .non))) p q r [START] [(Spot.k START, .non)] .non := ⟨Mm.set_same, by rw [Mm.set_ne hqp]; exact e4, by rw [Mm.set_ne hrp]; exact e5⟩
  refine g_exR (er_meth (ev_var rfl) C.o (by rfl) ea_nil (sp56 (L := L) O h0 h9 C (lin0 b t))) ?_
  rintro x m2 ⟨_, k, line, kvs, cp, C2, I2, hp2, hT⟩
  refine ⟨fun a o h => ?_, q, r, line, kvs, cp, C2, I2, ?_⟩
  · have ha : a ≠ p := fun z => by subst z; unfold Qz.Fr at hp; rw [hp] at h; cases h
    have hb : a ≠ q := fun z => by subst z; unfold Qz.Fr at hq; rw [hq] at h; cases h
    have hc : a ≠ r := fun z => by subst z; unfold Qz.Fr at hr; rw [hr] at h; cases h
    exact k a o (by rw [Mm.set_ne ha]; exact hs a o h) ha hb hc
  · rcases hT with ⟨rfl, hT⟩ | hT
    · have h1 : ∀ s, s ∈ line ↔ Rch b t s := fun s => ⟨I2.r s, fun hr => closed_all (List.mem_of_getElem? I2.h) (fun s hs s' ⟨c, hc, d, hd, e⟩ => by have := hT s hs c hc d hd; unfold Done at this; rw [e] at this; exact this) hr⟩
      refine .inl ⟨rfl, fun ⟨s, hs, c, hc, d, hd, e⟩ => ?_, h1⟩
      have := hT s ((h1 s).mpr hs) c hc d hd
      unfold Done at this
      rw [e] at this
      exact this
    · exact .inr hT
theorem er_couples (O : b.Ok) {t : Int} (h0 : 0 ≤ t) (h9 : t ≤ 9) {ρ : Ev} (h1 : nth ρ 0 = some b.d) (h2 : nth ρ 1 = some (.int t)) : Evr (wMake 55 3 0 (wCons (wVar 0) (wCons (wVar 1) wNil))) (Lv tb (L + 8)) ρ m fun x m' => ∃ p, x = .ref p ∧ Ran b t m p m' :=
  er_make (ea_cons (ev_var h1) (ea_cons (ev_var h2) ea_nil)) fun p hp => (sp55 O h0 h9 hp).imp fun P Z h d m' ⟨e, r⟩ => h d m' ⟨e, p, rfl, r⟩
theorem sp21 (O : b.Ok) {t : Int} (h0 : 0 ≤ t) (h9 : t ≤ 9) : GFn (Lv tb (L + 9)) 21 [b.d, .int t] m (Rp fun x m' => m' = m ∧ ((x = .non ∧ ¬ Bad b t) ∨ CpOk b t x)) := by
  refine fn_gor rfl rfl ?_
  refine g_retR (T := fun x m' => Sub m m' ∧ ((x = .non ∧ ¬ Bad b t) ∨ CpOk b t x)) (er_fld (Evr.imp (er_couples O h0 h9 rfl rfl) ?_)) fun P Z h d m' ⟨s, t⟩ => ⟨m, s, h _ _ ⟨rfl, t⟩⟩
  rintro x m' ⟨p, rfl, s, q, r, line, kvs, cp, C, I, h⟩
  refine ⟨p, _, cp, rfl, C.o, l_couple b t q r cp, s, ?_⟩
  rcases h with ⟨h1, h2, _⟩ | h
  · exact .inl ⟨h1, h2⟩
  · exact .inr h
theorem sp22 (O : b.Ok) {t : Int} (h0 : 0 ≤ t) (h9 : t ≤ 9) {k : Bool} (hk : k = true ↔ ¬ Bad b t) : Fn (Lv tb (L + 10)) 22 [b.d, .int t] m (.bl k) := by
  refine GFn.fn (fn_gor rfl rfl ?_)
  refine g_retR (T := fun x m' => m' = m ∧ x = .bl k) (er_binL (er_call (by array_get_dec) (sp21 O h0 h9)) ?_) fun P Z h d m' ⟨s, t⟩ => ⟨m, s ▸ .refl _, t ▸ h⟩
  rintro x m' ⟨rfl, h⟩
  refine ⟨_, _, ev_c, fv_is, rfl, congrArg D.bl ?_⟩
  rcases h with ⟨rfl, h⟩ | h
  · exact (hk.mpr h).symm
  · rw [h.is]
    cases k with
    | true => exact absurd h.1 (hk.mp rfl)
    | false => rfl
theorem fal_srt {a : Addr} {S : List Spot} (e : m a = some (.lst (S.map Spot.d))) : FvAL fSorted [.ref a] m ((S.mergeSort sLe).map Spot.d) := by
  rw [← srt_spots]
  refine fal_sorted e (isPys_of fun d hd => ?_) ?_ (.inl fun d hd => ?_) fun d hd => ?_
  · obtain ⟨s, _, rfl⟩ := List.mem_map.mp hd
    rfl
  · intro d hd d' hd'
    rw [List.map_map] at hd hd'
    obtain ⟨s, _, rfl⟩ := List.mem_map.mp hd
    obtain ⟨s', _, rfl⟩ := List.mem_map.mp hd'
    rfl
  · rw [List.map_map] at hd
    obtain ⟨s, _, rfl⟩ := List.mem_map.mp hd
    exact ⟨_, _, rfl⟩
  · obtain ⟨s, _, rfl⟩ := List.mem_map.mp hd
    exact Nat.le_of_ble_eq_true rfl
theorem sp27 (O : b.Ok) {t : Int} (h0 : 0 ≤ t) (h9 : t ≤ 9) {S : List Spot} (hS : IsSp b t S) (nb : ¬ Bad b t) : Fn (Lv tb (L + 9)) 27 [b.d, .int t] m (spsD S) := by
  refine GFn.fn (fn_gor rfl rfl ?_)
  refine g_setR (er_couples O h0 h9 rfl rfl) ?_
  rintro x m' ⟨p, rfl, s, q, r, line, kvs, cp, C, I, h⟩
  refine ⟨m', .refl _, ?_⟩
  rcases h with ⟨rfl, h2, h3⟩ | h
  · refine g_ifr (k := false) (et_tst (ev_bin (ev_fld (ev_var rfl) C.o (l_couple b t q r .non)) ev_c fv_isn)) (fun z => by cases z) fun _ => ?_
    rw [hS.uniq (IsSp.of I.n h3)]
    exact g_ret (ev_cbl (ea_one (el_cb (ea_cons (ev_fld (ev_var rfl) C.o (l_line b t q r .non)) ea_nil) (fal_srt C.l))) fun p m' e => fa_tupL e) (rd_ok s)
  · exact absurd h.1 nb
theorem sp27r (O : b.Ok) {t : Int} (h0 : 0 ≤ t) (h9 : t ≤ 9) (hb : Bad b t) : GFn (Lv tb (L + 9)) 27 [b.d, .int t] m (Rx (fun _ _ => False) fun x m' => m' = m ∧ x = ⟨2, [("why", .str "couple")]⟩) := by
  refine fn_gor rfl rfl ?_
  refine g_setR (er_couples O h0 h9 rfl rfl) ?_
  rintro x m' ⟨p, rfl, s, q, r, line, kvs, cp, C, I, h⟩
  refine ⟨m', .refl _, ?_⟩
  rcases h with ⟨rfl, h2, h3⟩ | h
  · exact absurd hb h2
  · exact g_ifr (k := true) (Evt.to (et_tst (ev_bin (ev_fld (ev_var rfl) C.o (l_couple b t q r cp)) ev_c fv_isn)) (by rw [h.is]; rfl)) (fun _ => g_raise (ea_cons ev_c ea_nil) fun P Z hz => ⟨m, s, hz.2 _ _ ⟨rfl, rfl⟩⟩) fun z => by cases z
theorem sp32 (O : b.Ok) {t : Int} (h0 : 0 ≤ t) (h9 : t ≤ 9) {S : List Spot} (hS : IsSp b t S) : GFn (Lv tb (L + 10)) 32 [b.d, .int t] m (Rp fun x m' => m' = m ∧ ((x = .tup [.str "paper", spsD S] ∧ ¬ Bad b t) ∨ ∃ cp, x = .tup [.str "couple", cp] ∧ CpOk b t cp)) := by
  refine fn_gor rfl rfl ?_
  refine g_setR (er_call (by array_get_dec) (sp21 O h0 h9)) ?_
  rintro x m' ⟨rfl, h⟩
  refine ⟨m', .refl _, ?_⟩
  rcases h with ⟨rfl, h⟩ | h
  · exact g_ret (d := .tup [.str "paper", spsD S]) (ev_ifd (k := false) (et_tst (ev_bin (ev_var rfl) ev_c fv_isn)) (fun z => by cases z) fun _ => ev_tup (ea_cons ev_c (ea_cons (ev_call (by array_get_dec) (sp27 O h0 h9 hS h)) ea_nil)) (Nat.le_of_ble_eq_true rfl)) fun P Z hr => ⟨m', .refl _, hr _ _ ⟨rfl, .inl ⟨rfl, h⟩⟩⟩
  · exact g_ret (d := .tup [.str "couple", x]) (ev_ifd (k := true) (Evt.to (et_tst (ev_bin (ev_var rfl) ev_c fv_isn)) (by rw [h.is]; rfl)) (fun _ => by array_get_dec) fun z => by cases z) fun P Z hr => ⟨m', .refl _, hr _ _ ⟨rfl, .inr ⟨x, rfl, h⟩⟩⟩
end
end Tb
set_option Elab.async false
set_option linter.all false
set_option maxRecDepth 100000
set_option maxHeartbeats 0
namespace Tb
open PySem PySem.Spec PyProof.Rows L2 Qz Hd
-- array_mem_dec: an operator on values
local macro_rules | `(tactic| array_mem_dec) => `(tactic| with_reducible first
  | exact fv_add | exact fv_sub | exact fv_le | exact fv_lt | exact fv_gt | exact fv_ge | exact fv_eqI | exact fv_eqS | exact fv_eqB | exact fv_is | exact fv_isn | exact fv_isB | exact fv_isnB | exact fv_neg
  | exact fv_revT | exact fa_abs | exact fa_int | exact fa_lenT | exact fa_max2
  | (apply fv_mod; decide) | (apply fv_div; decide) | (apply fv_ixT; with_unfolding_all rfl)
  | (apply fv_ne; array_mem_dec) | (apply fa_isiI; with_unfolding_all rfl) | (apply fa_isiB; with_unfolding_all rfl) | (apply fa_isiU; with_unfolding_all rfl) | (apply fa_isiS; with_unfolding_all rfl) | (apply fa_isiD; with_unfolding_all rfl) | (apply fa_isiUL; with_unfolding_all rfl) | assumption)
local macro_rules | `(tactic| sizeOf_list_dec) => `(tactic| assumption)
-- array_get_dec: what an expression, a test evaluates to
local macro_rules | `(tactic| array_get_dec) => `(tactic| with_reducible first
  | exact ev_c | (apply ev_var; with_unfolding_all rfl) | exact ea_nil
  | (apply ea_cons; · array_get_dec
     · array_get_dec)
  | (apply ev_bin; · array_get_dec
     · array_get_dec
     · array_mem_dec)
  | (apply ev_un; · array_get_dec
     · array_mem_dec)
  | (apply ev_tup; · array_get_dec
     · first | with_unfolding_all decide | with_unfolding_all exact Nat.le_of_ble_eq_true rfl)
  | (apply ev_cb; · array_get_dec
     · array_mem_dec)
  | (apply ev_call; · array_get_dec
     · sizeOf_list_dec
     · with_unfolding_all rfl)
  | (apply et_tst; array_get_dec)
  | (apply et_tru; · array_get_dec
     · exact tru_bl)
  | (apply et_not; array_get_dec)
  | assumption)
local macro_rules | `(tactic| sizeOf_list_dec) => `(tactic| first | exact sp36 | exact sp42 _ | exact sp41 _ _ | exact sp49 _ _ | exact sp18 (by assumption) (by assumption) | exact sp15 (by assumption) | assumption)
/-- a dict of lists: p holds f -/
structure Tab (m0 m : Mm) (p : Addr) (n : Nat) (f : List Key → List D) : Prop where
  e : ∃ kvs, m p = some (.dT kvs) ∧ kvs.length ≤ n ∧ (∀ k, (valD kvs k = none ∧ f k = []) ∨ ∃ a, valD kvs k = some (.ref a) ∧ m a = some (.lst (f k)) ∧ Fr m0 a) ∧ ∀ k k' a, valD kvs k = some (.ref a) → valD kvs k' = some (.ref a) → k = k'
  s : Sub m0 m
  fr : Fr m0 p
section
variable {G : Gam} {ρ : Ev} {m m0 : Mm} {Q C : Ev → Mm → Prop} {R : Rq}
/-- d.setdefault(k, []).append(e) -/
theorem g_tab {o k e : WE} {p : Addr} {n : Nat} {f : List Key → List D} {ks : List Key} {y : D} (T : Tab m0 m p n f) (ho : Evd o G ρ m (.ref p)) (hk : Evd k G ρ m (.tup (ks.map keyD))) (he : ∀ m', Evd e G ρ m' y) (hn : n < sizeLine) (hf : (f ks).length < sizeLine)
    (h : ∀ m', Tab m0 m' p (n + 1) (fun k => if k = ks then f k ++ [y] else f k) → Q ρ m') : Go (wExpr (wBM "list" fAppend (wBM "dict" fSetd o (wCons k (wCons (wLst wNil) wNil))) (wCons e wNil))) G ρ m Q C R := by
  obtain ⟨⟨kvs, ep, hl, hv, hi⟩, hs, hfr⟩ := T
  intro N B Ct P Z x y' z
  refine ho _ _ ⟨.inr ⟨rfl, .inr ⟨kvs, ep⟩⟩, hk _ _ ?_⟩
  refine (show Evl (wLst wNil) G ρ m [] from el_lst ea_nil (Nat.le_of_ble_eq_true rfl)) _ _ fun q m1 hq s1 => ?_
  have hsm := s1.sets hq
  have ep1 : m1 p = some (.dT kvs) := hsm _ _ ep
  refine ⟨_, .inr ⟨kvs, ks, ep1, rfl, by omega, rfl⟩, ?_⟩
  rcases hv ks with ⟨h1, h2⟩ | ⟨a, h1, h2, h3⟩
  · -- a new list
    refine .inr ⟨.inr ⟨kvs, ks, ep1, rfl, h1.symm⟩, _, .refl _, ?_⟩
    have hqp : q ≠ p := (hq.ne ep).symm
    have eq2 : (m1.set p (.dT (putD kvs ks (.ref q)))) q = some (.lst []) := by rw [Mm.set_ne hqp]; exact s1.at
    refine ⟨.inl ⟨rfl, [], eq2⟩, he _ _ _ ⟨[], eq2, by rw [sizeLine_eq]; decide, _, .refl _, x _ _ (h _ ⟨⟨putD kvs ks (.ref q), ?_, ?_, fun k' => ?_, fun k1 k2 a e1 e2 => ?_⟩, ?_, hfr⟩)⟩⟩
    · rw [Mm.set_ne hqp.symm, Mm.set_same]
    · have := length_putD kvs ks (.ref q)
      omega
    · rw [valD_putD]
      by_cases ek : ks = k'
      · rw [if_pos ek]
        refine .inr ⟨q, rfl, ?_, hq.sub hs⟩
        rw [Mm.set_same, if_pos ek.symm, ← ek, h2]
        
      · rw [if_neg ek, if_neg (Ne.symm ek)]
        rcases hv k' with h | ⟨a, e1, e2, e3⟩
        · exact .inl h
        · refine .inr ⟨a, e1, ?_, e3⟩
          rw [Mm.set_ne (hq.ne e2), Mm.set_ne (fun z => by subst z; rw [ep] at e2; cases e2)]
          exact hsm _ _ e2
    · rw [valD_putD] at e1 e2
      have old : ∀ {k'}, valD kvs k' = some (.ref a) → a ≠ q := fun {k'} e => by
        rcases hv k' with ⟨h, _⟩ | ⟨a', e1, e2, e3⟩
        · rw [h] at e; cases e
        · rw [e1] at e; cases e
          exact hq.ne e2
      by_cases c1 : ks = k1
      · by_cases c2 : ks = k2
        · exact c1.symm.trans c2
        · rw [if_pos c1] at e1
          rw [if_neg c2] at e2
          cases e1
          exact absurd rfl (old e2)
      · by_cases c2 : ks = k2
        · rw [if_neg c1] at e1
          rw [if_pos c2] at e2
          cases e2
          exact absurd rfl (old e1)
        · rw [if_neg c1] at e1
          rw [if_neg c2] at e2
          exact hi _ _ _ e1 e2
    · exact Sub.set (hq.sub hs) (Sub.set hfr (hs.trans hsm))
  · -- one that stands
    refine .inl ⟨.ref a, .inr ⟨kvs, ks, ep1, rfl, h1.symm⟩, m, hsm, ?_⟩
    refine ⟨.inl ⟨rfl, _, h2⟩, he _ _ _ ⟨_, h2, hf, _, .refl _, x _ _ (h _ ⟨⟨kvs, ?_, by omega, fun k' => ?_, hi⟩, Sub.set h3 hs, hfr⟩)⟩⟩
    · rw [Mm.set_ne (fun z => by subst z; rw [ep] at h2; cases h2)]
      exact ep
    · by_cases ek : k' = ks
      · subst ek
        refine .inr ⟨a, h1, ?_, h3⟩
        rw [Mm.set_same, if_pos rfl]
      · rw [if_neg ek]
        rcases hv k' with h | ⟨a', e1, e2, e3⟩
        · exact .inl h
        · refine .inr ⟨a', e1, ?_, e3⟩
          rw [Mm.set_ne (fun z => ek (hi _ _ a' e1 (by rw [z]; exact h1)))]
          exact e2
end
section
variable {m : Mm} {L : Nat} {b : Bk}
def Bk.ts (b : Bk) (i c : Int) : Str × Int := (b.step c i).getD (("" : Str), 0)
/-- what is told of two cells in two cases -/
def toldD (b : Bk) (h t : Int) (p : Int × Int) : D := .tup [pD p, .bl (decide ((b.ts h p.1).1 = (b.ts t p.2).1)), .tup [.int (b.ts h p.1).2, .int (b.ts t p.2).2], pD (costL p.1 p.2)]
abbrev Qd := (Int × Int) × Int × Int
def sq4 (p : Int × Int) : List Qd := [(p, 0, 0), (p, 0, 1), (p, 1, 0), (p, 1, 1)]
def tabF (b : Bk) (sq : List Qd) : List Key → List D := fun k => (sq.filter fun q => decide (([q.2.1, q.2.2] : List Int).map .inl = k)).map fun q => toldD b q.2.1 q.2.2 q.1
theorem tabF_snoc (sq : List Qd) (q : Qd) : tabF b (sq ++ [q]) = fun k => if k = ([q.2.1, q.2.2] : List Int).map .inl then tabF b sq k ++ [toldD b q.2.1 q.2.2 q.1] else tabF b sq k := by
  funext k
  unfold tabF
  rw [List.filter_append, List.map_append]
  by_cases h : k = ([q.2.1, q.2.2] : List Int).map .inl
  · rw [if_pos h]
    subst h
    simp
  · rw [if_neg h]
    have h' : ¬ ([q.2.1, q.2.2] : List Int).map .inl = k := fun z => h z.symm
    rw [List.filter_cons_of_neg (by rw [decide_eq_false h']; exact Bool.false_ne_true), List.filter_nil]
    simp
theorem tabF_len (sq : List Qd) (k : List Key) : (tabF b sq k).length ≤ sq.length := by
  unfold tabF
  rw [List.length_map]
  exact List.length_filter_le _ _
def sqI (b : Bk) (i : Nat) : List Qd := (b.goods.take i).flatMap fun c => b.goods.flatMap fun d => sq4 (c, d)
def sqJ (b : Bk) (c : Int) (j : Nat) : List Qd := (b.goods.take j).flatMap fun d => sq4 (c, d)
def prs (b : Bk) : List (Int × Int) := b.goods.flatMap fun c => b.goods.map fun d => (c, d)
theorem fm_le {α β : Type} {n : Nat} (f : α → List β) (h : ∀ x, (f x).length ≤ n) : ∀ xs : List α, (xs.flatMap f).length ≤ xs.length * n
  | [] => Nat.zero_le _
  | x :: r => by
    rw [List.flatMap_cons, List.length_append, List.length_cons, Nat.succ_mul]
    have := fm_le f h r
    have := h x
    omega
theorem sqJ_le (c : Int) (j : Nat) : (sqJ b c j).length ≤ 128 := by
  have h1 := fm_le (fun d => sq4 (c, d)) (n := 4) (fun _ => Nat.le_refl _) (b.goods.take j)
  have h2 := b.goods_len
  have h3 : (b.goods.take j).length ≤ b.goods.length := by rw [List.length_take]; exact Nat.min_le_right _ _
  unfold sqJ
  omega
theorem sqI_le (i : Nat) : (sqI b i).length ≤ 4096 := by
  have h0 : ∀ c : Int, (b.goods.flatMap fun d => sq4 (c, d)).length ≤ 128 := fun c => by
    have := sqJ_le (b := b) c b.goods.length
    unfold sqJ at this
    rwa [List.take_length] at this
  have h1 := fm_le (fun c => b.goods.flatMap fun d => sq4 (c, d)) (n := 128) h0 (b.goods.take i)
  have h2 := b.goods_len
  have h3 : (b.goods.take i).length ≤ b.goods.length := by rw [List.length_take]; exact Nat.min_le_right _ _
  unfold sqI
  omega
theorem filter_fm {α β : Type} (q : β → Bool) (f : α → List β) : ∀ xs : List α, (xs.flatMap f).filter q = xs.flatMap fun x => (f x).filter q
  | [] => rfl
  | x :: r => by rw [List.flatMap_cons, List.flatMap_cons, List.filter_append, filter_fm q f r]
theorem tabF_end {h t : Int} (hh : Cs h) (ht : Cs t) : tabF b (sqI b b.goods.length) (([h, t] : List Int).map .inl) = (prs b).map (toldD b h t) := by
  unfold tabF sqI prs
  rw [List.take_length, filter_fm, List.map_flatMap, List.map_flatMap]
  refine congrArg (fun q => List.flatMap q b.goods) (funext fun c => ?_)
  rw [filter_fm, List.map_flatMap, List.map_map]
  have : ∀ ds : List Int, (ds.flatMap fun d => ((sq4 (c, d)).filter fun q => decide (([q.2.1, q.2.2] : List Int).map (Sum.inl : Int → Key) = ([h, t] : List Int).map .inl)).map fun q => toldD b q.2.1 q.2.2 q.1) = ds.map (toldD b h t ∘ fun d => (c, d)) := by
    intro ds
    induction ds with
    | nil => rfl
    | cons d r ih =>
      rw [List.flatMap_cons, ih]
      rcases hh with rfl | rfl <;> rcases ht with rfl | rfl <;> rfl
  exact this b.goods
theorem stD_get {c i : Int} (h : (b.step c 0).isSome = true) : stD (b.step c i) = .tup [.str (b.ts i c).1, .int (b.ts i c).2] := by
  obtain ⟨⟨x, j⟩, e⟩ := Option.isSome_iff_exists.mp (Bk.step_some (j := i) h)
  unfold Bk.ts
  rw [e]
  rfl
theorem er_dict0 : Evr wDict0 (Lv tb L) ρ m fun x m' => ∃ p, x = .ref p ∧ Fr m p ∧ m' = m.set p (.dT []) := fun Z P k => .inr fun p hp => k _ _ ⟨p, rfl, hp, rfl⟩
theorem sp50 (O : b.Ok) : GFn (Lv tb (L + 4)) 50 [b.d] m (Rp fun x m' => ∃ p kvs, x = .ref p ∧ Sub m m' ∧ Fr m p ∧ m' p = some (.dT kvs) ∧ ∀ h t, Cs h → Cs t → ∃ a, valD kvs (([h, t] : List Int).map .inl) = some (.ref a) ∧ m' a = some (.lst ((prs b).map (toldD b h t))) ∧ Fr m a) := by
  refine fn_gor rfl rfl ?_
  refine g_tgR (T := fun d m' => ∃ g p, d = .tup [.ref g, .ref p] ∧ Fr m g ∧ m' g = some (.lst (b.goods.map .int)) ∧ Fr m p ∧ p ≠ g ∧ m' p = some (.dT []) ∧ Sub m m') ?_ ?_
  · have hT : Era (wCons (wCallN 38 1 (wCons (wVar 0) wNil)) (wCons wDict0 wNil)) (Lv tb (L + 3)) (startD 12 [b.d]) m fun ds m' => ∃ g p, ds = [.ref g, .ref p] ∧ Fr m g ∧ m' g = some (.lst (b.goods.map .int)) ∧ Fr m p ∧ p ≠ g ∧ m' p = some (.dT []) ∧ Sub m m' := by
      refine era_consL (el_call (by array_get_dec) (sp38 O)) fun g m1 hg s1 => era_cons er_dict0 ?_
      rintro d m2 ⟨p, rfl, hp, rfl⟩
      exact era_nil ⟨g, p, rfl, hg, by rw [Mm.set_ne (hp.ne s1.at)]; exact s1.at, hp.sub (s1.sets hg), (hp.ne s1.at).symm, Mm.set_same, (s1.sets hg).trans (Sub.fresh hp)⟩
    refine Evr.imp (er_tup hT fun ds m1 ⟨g, p, e, _⟩ => by rw [e]; exact Nat.le_of_ble_eq_true rfl) ?_
    rintro d m' ⟨ds, rfl, g, p, rfl, h⟩
    exact ⟨g, p, rfl, h⟩
  rintro d m1 ⟨g, p, rfl, hg, eg, hp, hpg, ep, s1⟩
  refine ⟨_, m1, m1, fun P h => ⟨rfl, h⟩, .refl _, ?_⟩
  -- the base: all but p
  have base : ∃ mb : Mm, Sub m mb ∧ mb g = some (.lst (b.goods.map .int)) ∧ Fr mb p ∧ Sub mb m1 := by
    refine ⟨fun a => if a = p then none else m1 a, fun a o h => ?_, ?_, ?_, fun a o h => ?_⟩
    · have ha : a ≠ p := hp.ne h
      show (if a = p then none else m1 a) = _
      rw [if_neg ha]; exact s1 a o h
    · show (if g = p then none else m1 g) = _
      rw [if_neg hpg.symm]; exact eg
    · show (if p = p then none else m1 p) = _
      rw [if_pos rfl]
    · have h' : (if a = p then none else m1 a) = some o := h
      by_cases ha : a = p
      · rw [if_pos ha] at h'; cases h'
      · rw [if_neg ha] at h'; exact h'
  obtain ⟨mb, sb, egb, hpb, sb1⟩ := base
  have T0 : Tab mb m1 p 0 (tabF b []) := ⟨⟨[], ep, Nat.le_refl _, fun k => .inl ⟨rfl, rfl⟩, fun k k' a e => by cases e⟩, sb1, hpb⟩
  have sh : Sz 5 := by decide
  refine g_seq (Q1 := fun ρ' m' => (∃ x3 x4 x5 x6 x7 x8 x9 x10 x11, ρ' = [some b.d, some (.ref g), some (.ref p), x3, x4, x5, x6, x7, x8, x9, x10, x11]) ∧ Tab mb m' p (sqI b b.goods.length).length (tabF b (sqI b b.goods.length))) ?_ ?_
  · refine g_for (its := b.goods.map .int) (fun i ρ' m' => (∃ x3 x4 x5 x6 x7 x8 x9 x10 x11, ρ' = [some b.d, some (.ref g), some (.ref p), x3, x4, x5, x6, x7, x8, x9, x10, x11]) ∧ Tab mb m' p (sqI b i).length (tabF b (sqI b i))) (ei_lst (ev_var rfl) eg) ⟨⟨_, _, _, _, _, _, _, _, _, rfl⟩, T0⟩ (fun i ρ' m' h => h.2.s _ _ egb) ?_ ?_
    · rintro i ρ' m2 x ⟨⟨x3, x4, x5, x6, x7, x8, x9, x10, x11, rfl⟩, T2⟩ hx
      obtain ⟨c, hc, rfl⟩ := ix_ints hx
      have hcg := List.mem_of_getElem? hc
      refine ⟨_, rfl, ?_⟩
      refine g_for (its := b.goods.map .int) (fun j ρ' m' => (∃ x4 x5 x6 x7 x8 x9 x10 x11, ρ' = [some b.d, some (.ref g), some (.ref p), some (.int c), x4, x5, x6, x7, x8, x9, x10, x11]) ∧ Tab mb m' p (sqI b i ++ sqJ b c j).length (tabF b (sqI b i ++ sqJ b c j))) (ei_lst (ev_var rfl) (T2.s _ _ egb)) ⟨⟨_, _, _, _, _, _, _, _, rfl⟩, by rw [show sqJ b c 0 = [] from rfl, List.append_nil]; exact T2⟩ (fun i ρ' m' h => h.2.s _ _ egb) ?_ ?_
      · rintro j ρ' m3 x ⟨⟨x4, x5, x6, x7, x8, x9, x10, x11, rfl⟩, T3⟩ hx
        obtain ⟨d, hd, rfl⟩ := ix_ints hx
        have hdg := List.mem_of_getElem? hd
        refine ⟨_, rfl, ?_⟩
        refine g_tg (x := pD (costL c d)) (by array_get_dec) (fun P h => ⟨rfl, h⟩) ?_
        have hsz : ∀ k, (sqI b i ++ sqJ b c j ++ (sq4 (c, d)).take k).length ≤ 5000 := fun k => by
          have h1 := sqI_le (b := b) i
          have h2 := sqJ_le (b := b) c j
          have h3 : ((sq4 (c, d)).take k).length ≤ 4 := by rw [List.length_take]; exact Nat.min_le_right _ _
          rw [List.length_append, List.length_append]
          omega
        have hJ : sqJ b c (j + 1) = sqJ b c j ++ sq4 (c, d) := by
          unfold sqJ
          rw [List.take_add_one, hd, List.flatMap_append]
          simp
        refine g_for (its := [.int 0, .int 1]) (fun k ρ' m' => (∃ x7 x8 x9 x10 x11, ρ' = [some b.d, some (.ref g), some (.ref p), some (.int c), some (.int d), some (.int (costL c d).1), some (.int (costL c d).2), x7, x8, x9, x10, x11]) ∧ Tab mb m' p (sqI b i ++ sqJ b c j ++ (sq4 (c, d)).take (2 * k)).length (tabF b (sqI b i ++ sqJ b c j ++ (sq4 (c, d)).take (2 * k)))) (ei_r1 (j := 2) (by array_get_dec)) ⟨⟨_, _, _, _, _, rfl⟩, by rw [show (sq4 (c, d)).take (2 * 0) = [] from rfl, List.append_nil]; exact T3⟩ (fun _ _ _ _ => True.intro) ?_ ?_
        · rintro k ρ' m4 x ⟨⟨x7, x8, x9, x10, x11, rfl⟩, T4⟩ hx
          have hk : k < 2 ∧ x = .int (k : Nat) := by
            match k, hx with
            | 0, hx => cases hx; exact ⟨by decide, rfl⟩
            | 1, hx => cases hx; exact ⟨by decide, rfl⟩
          obtain ⟨hk, rfl⟩ := hk
          refine ⟨_, rfl, ?_⟩
          refine g_for (its := [.int 0, .int 1]) (fun l ρ' m' => (∃ x8 x9 x10 x11, ρ' = [some b.d, some (.ref g), some (.ref p), some (.int c), some (.int d), some (.int (costL c d).1), some (.int (costL c d).2), some (.int (k : Nat)), x8, x9, x10, x11]) ∧ Tab mb m' p (sqI b i ++ sqJ b c j ++ (sq4 (c, d)).take (2 * k + l)).length (tabF b (sqI b i ++ sqJ b c j ++ (sq4 (c, d)).take (2 * k + l)))) (ei_r1 (j := 2) (by array_get_dec)) ⟨⟨_, _, _, _, rfl⟩, T4⟩ (fun _ _ _ _ => True.intro) ?_ ?_
          · rintro l ρ' m5 x ⟨⟨x8, x9, x10, x11, rfl⟩, T5⟩ hx
            have hl : l < 2 ∧ x = .int (l : Nat) := by
              match l, hx with
              | 0, hx => cases hx; exact ⟨by decide, rfl⟩
              | 1, hx => cases hx; exact ⟨by decide, rfl⟩
            obtain ⟨hl, rfl⟩ := hl
            refine ⟨_, rfl, ?_⟩
            have ck : Cs (k : Nat) := by
              have : k = 0 ∨ k = 1 := by omega
              rcases this with rfl | rfl
              · exact .inl rfl
              · exact .inr rfl
            have cl : Cs (l : Nat) := by
              have : l = 0 ∨ l = 1 := by omega
              rcases this with rfl | rfl
              · exact .inl rfl
              · exact .inr rfl
            have s1 := sp37 (m := m5) (L := L + 1) O c ck
            have s2 := sp37 (m := m5) (L := L + 1) O d cl
            rw [stD_get (Bk.goods_mem.mp hcg).2] at s1
            rw [stD_get (Bk.goods_mem.mp hdg).2] at s2
            refine g_tg (x := .tup [.tup [.str (b.ts (k : Nat) c).1, .int (b.ts (k : Nat) c).2], .tup [.str (b.ts (l : Nat) d).1, .int (b.ts (l : Nat) d).2]]) (by array_get_dec) (fun P h => ⟨rfl, h⟩) ?_
            refine g_set (x := toldD b (k : Nat) (l : Nat) (c, d)) (Evd.to (by array_get_dec) (by rfl)) ?_
            have hq : (sq4 (c, d)).take (2 * k + (l + 1)) = (sq4 (c, d)).take (2 * k + l) ++ [((c, d), (k : Int), (l : Int))] := by
              have : (k = 0 ∨ k = 1) ∧ (l = 0 ∨ l = 1) := by omega
              rcases this with ⟨rfl | rfl, rfl | rfl⟩ <;> rfl
            refine g_tab (ks := ([(k : Int), (l : Int)] : List Int).map .inl) (y := toldD b (k : Nat) (l : Nat) (c, d)) T5 (ev_var rfl) (Evd.to (d' := .tup [.int (k : Nat), .int (l : Nat)]) (by array_get_dec) (by rfl)) (fun m' => ev_var rfl) (by have := hsz (2 * k + l); rw [sizeLine_eq]; omega) (by have := hsz (2 * k + l); have h2 := tabF_len (b := b) (sqI b i ++ sqJ b c j ++ (sq4 (c, d)).take (2 * k + l)) (([(k : Int), (l : Int)] : List Int).map .inl); rw [sizeLine_eq]; omega) ?_
            intro m6 T6
            refine ⟨⟨_, _, _, _, rfl⟩, ?_⟩
            rw [hq, ← List.append_assoc, tabF_snoc, List.length_append]
            exact T6
          · rintro ρ' m5 ⟨⟨x8, x9, x10, x11, rfl⟩, T5⟩
            exact ⟨⟨_, _, _, _, _, rfl⟩, T5⟩
        · rintro ρ' m4 ⟨⟨x7, x8, x9, x10, x11, rfl⟩, T4⟩
          refine ⟨⟨_, _, _, _, _, _, _, _, rfl⟩, ?_⟩
          rw [hJ, ← List.append_assoc]
          exact T4
      · rintro ρ' m3 ⟨⟨x4, x5, x6, x7, x8, x9, x10, x11, rfl⟩, T3⟩
        refine ⟨⟨_, _, _, _, _, _, _, _, _, rfl⟩, ?_⟩
        have : sqI b (i + 1) = sqI b i ++ sqJ b c (b.goods.map D.int).length := by
          unfold sqI sqJ
          rw [List.take_add_one, hc, List.flatMap_append, List.length_map, List.take_length]
          simp
        rw [this]
        exact T3
    · rintro ρ' m2 ⟨h, T2⟩
      rw [List.length_map] at T2
      exact ⟨h, T2⟩
  · rintro ρ' m2 ⟨⟨x3, x4, x5, x6, x7, x8, x9, x10, x11, rfl⟩, T2⟩
    refine ⟨m2, .refl _, ?_⟩
    obtain ⟨⟨kvs, e1, e2, e3, e4⟩, e5, e6⟩ := T2
    refine g_ret (ev_var rfl) fun P Z hr => ⟨m2, .refl _, hr _ _ ⟨p, kvs, rfl, sb.trans e5, hp, e1, fun h t hh ht => ?_⟩⟩
    have hne : (prs b).map (toldD b h t) ≠ [] := fun z => by
      have z0 : (0 : Int) ∈ b.goods := Bk.goods_mem.mpr ⟨by decide, rfl⟩
      have : ((0 : Int), (0 : Int)) ∈ prs b := List.mem_flatMap.mpr ⟨0, z0, List.mem_map.mpr ⟨0, z0, rfl⟩⟩
      rw [List.map_eq_nil_iff.mp z] at this
      cases this
    rcases e3 (([h, t] : List Int).map .inl) with ⟨_, f2⟩ | ⟨a, f1, f2, f3⟩
    · rw [tabF_end hh ht] at f2
      exact absurd f2 hne
    · rw [tabF_end hh ht] at f2
      exact ⟨a, f1, f2, f3.sub sb⟩
end
end Tb
set_option Elab.async false
set_option linter.all false
set_option maxRecDepth 100000
set_option maxHeartbeats 0
namespace Tb
open PySem PySem.Spec PyProof.Rows L2 Qz Hd
-- array_mem_dec: an operator on values
local macro_rules | `(tactic| array_mem_dec) => `(tactic| with_reducible first
  | exact fv_add | exact fv_sub | exact fv_le | exact fv_lt | exact fv_gt | exact fv_ge | exact fv_eqI | exact fv_eqS | exact fv_eqB | exact fv_is | exact fv_isn | exact fv_isB | exact fv_isnB | exact fv_neg
  | exact fv_revT | exact fa_abs | exact fa_int | exact fa_lenT | exact fa_max2
  | (apply fv_mod; decide) | (apply fv_div; decide) | (apply fv_ixT; with_unfolding_all rfl)
  | (apply fv_ne; array_mem_dec) | (apply fa_isiI; with_unfolding_all rfl) | (apply fa_isiB; with_unfolding_all rfl) | (apply fa_isiU; with_unfolding_all rfl) | (apply fa_isiS; with_unfolding_all rfl) | (apply fa_isiD; with_unfolding_all rfl) | (apply fa_isiUL; with_unfolding_all rfl) | assumption)
local macro_rules | `(tactic| sizeOf_list_dec) => `(tactic| assumption)
-- array_get_dec: what an expression, a test evaluates to
local macro_rules | `(tactic| array_get_dec) => `(tactic| with_reducible first
  | exact ev_c | (apply ev_var; with_unfolding_all rfl) | exact ea_nil
  | (apply ea_cons; · array_get_dec
     · array_get_dec)
  | (apply ev_bin; · array_get_dec
     · array_get_dec
     · array_mem_dec)
  | (apply ev_un; · array_get_dec
     · array_mem_dec)
  | (apply ev_tup; · array_get_dec
     · first | with_unfolding_all decide | with_unfolding_all exact Nat.le_of_ble_eq_true rfl)
  | (apply ev_cb; · array_get_dec
     · array_mem_dec)
  | (apply ev_call; · array_get_dec
     · sizeOf_list_dec
     · with_unfolding_all rfl)
  | (apply et_tst; array_get_dec)
  | (apply et_tru; · array_get_dec
     · exact tru_bl)
  | (apply et_not; array_get_dec)
  | assumption)
local macro_rules | `(tactic| sizeOf_list_dec) => `(tactic| first | exact sp36 | exact sp42 _ | exact sp41 _ _ | exact sp49 _ _ | exact sp18 (by assumption) (by assumption) | exact sp15 (by assumption) | assumption)
section
variable {m : Mm} {L : Nat} {b : Bk}
theorem behind_told {t : Int} {s : Spot} {c d : Int} (hc : c ∈ b.goods) (hd : d ∈ b.goods) : b.behind t s c d = if t < max (s.2.2.1 + (costL c d).1) (s.2.2.2 + (costL c d).2) then .far else if (b.ts s.1 c).1 = (b.ts s.2.1 d).1 then .to ((b.ts s.1 c).2, (b.ts s.2.1 d).2, s.2.2.1 + (costL c d).1, s.2.2.2 + (costL c d).2) else .unlike := by
  obtain ⟨⟨x, i⟩, e1⟩ := Option.isSome_iff_exists.mp (Bk.step_some (j := s.1) (Bk.goods_mem.mp hc).2)
  obtain ⟨⟨y, j⟩, e2⟩ := Option.isSome_iff_exists.mp (Bk.step_some (j := s.2.1) (Bk.goods_mem.mp hd).2)
  unfold Bk.behind Bk.ts imax
  rw [e1, e2, max2, cost_eq (good_cell hc) (good_cell hd)]
  rfl
theorem prs_mem {p : Int × Int} : p ∈ prs b ↔ p.1 ∈ b.goods ∧ p.2 ∈ b.goods := by
  unfold prs
  rw [List.mem_flatMap]
  constructor
  · rintro ⟨c, hc, h⟩
    obtain ⟨d, hd, rfl⟩ := List.mem_map.mp h
    exact ⟨hc, hd⟩
  · rintro ⟨h1, h2⟩
    exact ⟨p.1, h1, List.mem_map.mpr ⟨p.2, h2, rfl⟩⟩
theorem prs_len : (prs b).length ≤ 1024 := by
  have h1 := fm_le (fun c => b.goods.map fun d => (c, d)) (n := 32) (fun c => by rw [List.length_map]; exact b.goods_len) b.goods
  have h2 := b.goods_len
  unfold prs
  omega
/-- the line and what was met -/
structure Li (b : Bk) (t : Int) (line : List Spot) (kvs : List (List Key × D)) : Prop where
  h : START ∈ line
  n : line.Nodup
  r : ∀ s ∈ line, Rch b t s
  k : ∀ s : Spot, (valD kvs s.k).isSome = decide (s ∈ line)
  z : kvs.length ≤ line.length
theorem Li.len {t : Int} {line : List Spot} {kvs : List (List Key × D)} (O : b.Ok) (h0 : 0 ≤ t) (h9 : t ≤ 9) (I : Li b t line kvs) : line.length ≤ 400 := line_le h9 I.n fun s hs => (I.r s hs).ok O h0
theorem Li.snoc {t : Int} {line : List Spot} {kvs : List (List Key × D)} (I : Li b t line kvs) {s' : Spot} (hr : Rch b t s') (hn : s' ∉ line) (v : D) : Li b t (line ++ [s']) (putD kvs s'.k v) := by
  refine ⟨List.mem_append_left _ I.h, ?_, ?_, fun x => ?_, ?_⟩
  · refine List.nodup_append.mpr ⟨I.n, by simp, fun a ha y hy z => ?_⟩
    rw [List.mem_singleton] at hy
    subst hy z
    exact hn ha
  · intro x hx
    rcases List.mem_append.mp hx with hx | hx
    · exact I.r x hx
    · rw [List.mem_singleton] at hx
      subst hx
      exact hr
  · rw [valD_putD]
    by_cases q : s'.k = x.k
    · rw [if_pos q]
      have : x = s' := (Spot.k_inj q).symm
      subst this
      simp
    · rw [if_neg q, I.k x]
      have : x ≠ s' := fun z => q (by rw [z])
      simp [this]
  · have := length_putD kvs s'.k v
    have := I.z
    rw [List.length_append]
    show _ ≤ line.length + 1
    omega
theorem li0 (b : Bk) (t : Int) : Li b t [START] [(Spot.k START, .bl true)] := by
  refine ⟨by simp, by simp, fun s hs => ?_, fun s => ?_, Nat.le_refl _⟩
  · rw [List.mem_singleton] at hs
    subst hs
    exact .start
  · rw [valD_cons]
    by_cases q : Spot.k START = s.k
    · rw [if_pos q, ← Spot.k_inj q]
      simp
    · rw [if_neg q]
      have : s ≠ START := fun z => q (by rw [z])
      simp [valD, this]
/-- the table of pairs in the memory -/
def PT (b : Bk) (m : Mm) (pp ql rm : Addr) : Prop := ∃ pk, m pp = some (.dT pk) ∧ pp ≠ ql ∧ pp ≠ rm ∧ ∀ h t, Cs h → Cs t → ∃ a, valD pk (([h, t] : List Int).map .inl) = some (.ref a) ∧ m a = some (.lst ((prs b).map (toldD b h t))) ∧ a ≠ ql ∧ a ≠ rm
def DoneU (b : Bk) (t : Int) (S : List Spot) (xs : List (Int × Int)) (s : Spot) (p : Int × Int) : Prop := match b.behind t s p.1 p.2 with
  | .far => True
  | .unlike => xs ≠ []
  | .to s' => s' ∈ S
theorem DoneU.mono {t : Int} {S S' : List Spot} {xs xs' : List (Int × Int)} {s : Spot} {p : Int × Int} (h : DoneU b t S xs s p) (k : S <+: S') (k2 : xs <+: xs') : DoneU b t S' xs' s p := by
  unfold DoneU at h ⊢
  split at h
  · exact True.intro
  · intro z
    subst z
    exact h (List.prefix_nil.mp k2)
  · exact k.subset h
theorem sp51 (O : b.Ok) {t : Int} (h0 : 0 ≤ t) (h9 : t ≤ 9) : GFn (Lv tb (L + 5)) 51 [b.d, .int t] m (Rp fun x m' => ∃ (p : Addr) (xs : List (Int × Int)), x = .ref p ∧ m' p = some (.lst (xs.map pD)) ∧ Sub m m' ∧ (xs = [] ↔ ¬ Bad b t)) := by
  refine fn_gor rfl rfl ?_
  refine g_tgR (T := fun d m' => ∃ q f r, d = .tup [.ref q, .int 0, .ref f, .ref r] ∧ Fr m q ∧ Fr m r ∧ f ≠ q ∧ m' q = some (.lst [Spot.d START]) ∧ m' f = some (.lst []) ∧ m' r = some (.dT [(Spot.k START, .bl true)]) ∧ Sub m m') ?_ ?_
  · have hT : Era (wCons (wLst (wCons (wTup (wCons (wC (.int 0)) (wCons (wC (.int 0)) (wCons (wC (.int 0)) (wCons (wC (.int 0)) wNil))))) wNil)) (wCons (wC (.int 0)) (wCons (wLst wNil) (wCons (wDisp [((wTup (wCons (wC (.int 0)) (wCons (wC (.int 0)) (wCons (wC (.int 0)) (wCons (wC (.int 0)) wNil))))), (wC (.bl true)))]) wNil)))) (Lv tb (L + 4)) (startD 17 [b.d, .int t]) m fun ds m' => ∃ q f r, ds = [.ref q, .int 0, .ref f, .ref r] ∧ Fr m q ∧ Fr m r ∧ f ≠ q ∧ m' q = some (.lst [Spot.d START]) ∧ m' f = some (.lst []) ∧ m' r = some (.dT [(Spot.k START, .bl true)]) ∧ Sub m m' := by
      refine era_consL (xs := [Spot.d START]) (el_lst (ea_cons (Evd.to (d' := .tup [.int 0, .int 0, .int 0, .int 0]) (by array_get_dec) (by rfl)) ea_nil) (Nat.le_of_ble_eq_true rfl)) fun q m1 hq s1 => era_consD ev_c (era_consL (el_lst ea_nil (Nat.le_of_ble_eq_true rfl)) fun f m2 hf s2 => ?_)
      refine era_cons (T := fun d m3 => ∃ r, d = .ref r ∧ Fr m2 r ∧ m3 = m2.set r (.dT [(Spot.k START, .bl true)])) (fun Z P k => ⟨Nat.le_of_ble_eq_true rfl, .inr ⟨[(Spot.k START, .bl true)], rfl, fun r hr => k _ _ ⟨r, rfl, hr, rfl⟩⟩⟩) ?_
      rintro d m3 ⟨r, rfl, hr, rfl⟩
      have h12 := s2.sets hf
      have h01 := s1.sets hq
      exact era_nil ⟨q, f, r, rfl, hq, (hr.sub h12).sub h01, (hf.ne s1.at).symm, by rw [Mm.set_ne (hr.ne (h12 _ _ s1.at))]; exact h12 _ _ s1.at, by rw [Mm.set_ne (hr.ne s2.at)]; exact s2.at, Mm.set_same, (h01.trans h12).trans (Sub.fresh hr)⟩
    refine Evr.imp (er_tup hT fun ds m1 ⟨q, f, r, e, _⟩ => by rw [e]; exact Nat.le_of_ble_eq_true rfl) ?_
    rintro d m' ⟨ds, rfl, q, f, r, rfl, h⟩
    exact ⟨q, f, r, rfl, h⟩
  rintro d m0 ⟨q, f0, r, rfl, hq, hr, hfq0, eq0, ef0, er0, s0⟩
  refine ⟨_, m0, m0, fun P h => ⟨rfl, h⟩, .refl _, ?_⟩
  refine g_setR (er_call (by array_get_dec) (sp50 (L := L) O)) ?_
  rintro x m1 ⟨pp, pk, rfl, s1, hpp, epp, hpk⟩
  refine ⟨m1, .refl _, ?_⟩
  have hPT : PT b m1 pp q r := ⟨pk, epp, (hpp.ne eq0).symm, (hpp.ne er0).symm, fun h t hh ht => let ⟨a, e1, e2, e3⟩ := hpk h t hh ht; ⟨a, e1, e2, (e3.ne eq0).symm, (e3.ne er0).symm⟩⟩
  have eq1 := s1 _ _ eq0
  have ef1 := s1 _ _ ef0
  have er1 := s1 _ _ er0
  have hqr : q ≠ r := fun z => by subst z; rw [eq0] at er0; cases er0
  have hsub : Sub m m1 := s0.trans s1
  refine g_seq (Q1 := fun ρ' m' => ∃ (f : Addr) (xs : List (Int × Int)) (at_ : Int) (x7 x8 x9 x10 x11 x12 x13 x14 x15 x16 : Option D), ρ' = [some b.d, some (.int t), some (.ref q), some (.int at_), some (.ref f), some (.ref r), some (.ref pp), x7, x8, x9, x10, x11, x12, x13, x14, x15, x16] ∧ m' f = some (.lst (xs.map pD)) ∧ Keep m1 m' q r r ∧ (xs = [] ↔ ¬ Bad b t)) ?_ ?_
  · refine g_while (n0 := 401) (fun n ρ' m' => ∃ (f : Addr) (xs : List (Int × Int)) (at_ : Nat) (line : List Spot) (kvs : List (List Key × D)) (x7 x8 x9 x10 x11 x12 x13 x14 x15 x16 : Option D), ρ' = [some b.d, some (.int t), some (.ref q), some (.int (at_ : Nat)), some (.ref f), some (.ref r), some (.ref pp), x7, x8, x9, x10, x11, x12, x13, x14, x15, x16] ∧ n + at_ = 401 ∧ f ≠ q ∧ m' f = some (.lst (xs.map pD)) ∧ m' q = some (.lst (line.map Spot.d)) ∧ m' r = some (.dT kvs) ∧ Keep m1 m' q r r ∧ Li b t line kvs ∧ at_ ≤ line.length ∧ xs.length ≤ 1024 * at_ ∧ (xs ≠ [] → Bad b t) ∧ ∀ i s, i < at_ → line[i]? = some s → ∀ p ∈ prs b, DoneU b t line xs s p)
      ⟨f0, [], 0, [START], _, _, _, _, _, _, _, _, _, _, _, rfl, rfl, hfq0, ef1, eq1, er1, fun a o h _ _ _ => h, li0 b t, Nat.zero_le _, Nat.zero_le _, fun h => absurd rfl h, fun i s hi => by omega⟩ ?_
    rintro n ρ' m2 ⟨f, xs, at_, line, kvs, x7, x8, x9, x10, x11, x12, x13, x14, x15, x16, rfl, hn, hfq, ef, eq, er, kp, I, ha, hxl, hxb, hD⟩
    have hlen := I.len O h0 h9
    refine ⟨decide ((at_ : Int) < (line.length : Int)), Evt.to (et_tst (ev_bin (ev_var rfl) (ev_cb (ea_cons (ev_var rfl) ea_nil) (fa_lenL eq)) fv_lt)) (by rw [List.length_map]), fun h => ?_, fun h => ?_⟩
    · have hlt : at_ < line.length := by have := of_decide_eq_true h; omega
      have hx : line[at_]? = some line[at_] := List.getElem?_eq_getElem hlt
      have hsm : line[at_] ∈ line := List.getElem_mem hlt
      generalize hs : line[at_] = s at hx hsm
      have sok := (I.r s hsm).ok O h0
      refine g_tg (x := s.d) (ev_bin (ev_var rfl) (ev_var rfl) (fv_ixL eq (atI_nat (by rw [List.getElem?_map, hx]; rfl)))) (fun P h => ⟨rfl, h⟩) ?_
      refine g_incs rfl ev_c ?_
      obtain ⟨pk, e1, e2, e3, e4⟩ := hPT
      obtain ⟨a, g1, g2, g3, g4⟩ := e4 s.1 s.2.1 sok.a sok.b
      have epp2 : m2 pp = some (.dT pk) := kp _ _ e1 e2 e3 e3
      have ea2 : m2 a = some (.lst ((prs b).map (toldD b s.1 s.2.1))) := kp _ _ g2 g3 g4 g4
      have it : Evd (wBin fIx (wVar 6) (wTup (wCons (wVar 7) (wCons (wVar 8) wNil)))) (Lv tb (L + 4)) [some b.d, some (.int t), some (.ref q), some (.int ((at_ : Int) + 1)), some (.ref f), some (.ref r), some (.ref pp), some (.int s.1), some (.int s.2.1), some (.int s.2.2.1), some (.int s.2.2.2), x11, x12, x13, x14, x15, x16] m2 (.ref a) :=
        ev_bin (ev_var rfl) (by array_get_dec) (fv_ixD (by rw [← g1]; exact dg_ints epp2 [s.1, s.2.1]))
      refine g_mono (g_for (C := No) (its := (prs b).map (toldD b s.1 s.2.1)) (fun j ρ' m' => ∃ (f : Addr) (xs' : List (Int × Int)) (line' : List Spot) (kvs' : List (List Key × D)) (x11 x12 x13 x14 x15 x16 : Option D), ρ' = [some b.d, some (.int t), some (.ref q), some (.int ((at_ : Int) + 1)), some (.ref f), some (.ref r), some (.ref pp), some (.int s.1), some (.int s.2.1), some (.int s.2.2.1), some (.int s.2.2.2), x11, x12, x13, x14, x15, x16] ∧ f ≠ q ∧ m' f = some (.lst (xs'.map pD)) ∧ m' q = some (.lst (line'.map Spot.d)) ∧ m' r = some (.dT kvs') ∧ Keep m1 m' q r r ∧ Li b t line' kvs' ∧ line <+: line' ∧ xs <+: xs' ∧ xs'.length ≤ 1024 * at_ + j ∧ (xs' ≠ [] → Bad b t) ∧ ∀ p ∈ (prs b).take j, DoneU b t line' xs' s p)
        (ei_lst it ea2) ⟨f, xs, line, kvs, _, _, _, _, _, _, rfl, hfq, ef, eq, er, kp, I, List.prefix_refl _, List.prefix_refl _, hxl, hxb, fun p hp => by simp at hp⟩ (fun i ρ' m' ⟨_, _, _, _, _, _, _, _, _, _, _, _, _, _, _, k, _⟩ => k _ _ g2 g3 g4 g4) ?_ (Q := fun ρ' m' => ∃ n', n' < n ∧ ∃ (f : Addr) (xs : List (Int × Int)) (at_ : Nat) (line : List Spot) (kvs : List (List Key × D)) (x7 x8 x9 x10 x11 x12 x13 x14 x15 x16 : Option D), ρ' = [some b.d, some (.int t), some (.ref q), some (.int (at_ : Nat)), some (.ref f), some (.ref r), some (.ref pp), x7, x8, x9, x10, x11, x12, x13, x14, x15, x16] ∧ n' + at_ = 401 ∧ f ≠ q ∧ m' f = some (.lst (xs.map pD)) ∧ m' q = some (.lst (line.map Spot.d)) ∧ m' r = some (.dT kvs) ∧ Keep m1 m' q r r ∧ Li b t line kvs ∧ at_ ≤ line.length ∧ xs.length ≤ 1024 * at_ ∧ (xs ≠ [] → Bad b t) ∧ ∀ i s, i < at_ → line[i]? = some s → ∀ p ∈ prs b, DoneU b t line xs s p) ?_) (fun _ _ h => h) (fun _ _ h => h.elim) (fun _ _ h => h)
      · rintro j ρ' m3 x ⟨f, xs', line', kvs', x11, x12, x13, x14, x15, x16, rfl, hfq, ef, eq, er, kp, I', hp1, hp2, hxl', hxb', hD'⟩ hx
        rw [List.getElem?_map] at hx
        cases ep : (prs b)[j]? with
        | none => rw [ep] at hx; cases hx
        | some pr =>
          rw [ep] at hx
          cases hx
          obtain ⟨c, d⟩ := pr
          obtain ⟨hc, hd⟩ := prs_mem.mp (List.mem_of_getElem? ep)
          refine ⟨_, rfl, ?_⟩
          have hlen' := I'.len O h0 h9
          have hjl : j < 1024 := Nat.lt_of_lt_of_le (List.getElem?_eq_some_iff.mp ep).1 prs_len
          have hbt := behind_told (t := t) (s := s) hc hd
          have old : ∀ {xs2 : List (Int × Int)} {line2 : List Spot}, line' <+: line2 → xs' <+: xs2 → DoneU b t line2 xs2 s (c, d) → ∀ p ∈ (prs b).take (j + 1), DoneU b t line2 xs2 s p := fun k1 k2 hn p hp => by
            rcases (mem_take_succ ep).mp hp with h | h
            · exact (hD' p h).mono k1 k2
            · subst h; exact hn
          refine g_set (x := Spot.d ((b.ts s.1 c).2, (b.ts s.2.1 d).2, s.2.2.1 + (costL c d).1, s.2.2.2 + (costL c d).2)) (Evd.to (ev_bin (ev_var rfl) (by array_get_dec) (fv_addT (Nat.le_of_ble_eq_true rfl))) (by rfl)) ?_
          refine g_ifr (k := decide (t < max (s.2.2.1 + (costL c d).1) (s.2.2.2 + (costL c d).2))) (et_tst (ev_bin (ev_cb (ea_cons (Evd.to (ev_slT (ev_var rfl) (ep_at ev_c) ep_no) (d := .tup (([s.2.2.1 + (costL c d).1, s.2.2.2 + (costL c d).2] : List Int).map .int)) (by rfl)) ea_nil) fa_maxT) (ev_var rfl) fv_gt)) (fun hf => ?_) fun hf => ?_
          · refine g_cont ⟨f, xs', line', kvs', _, _, _, _, _, _, rfl, hfq, ef, eq, er, kp, I', hp1, hp2, by omega, hxb', old (List.prefix_refl _) (List.prefix_refl _) ?_⟩
            unfold DoneU
            rw [hbt, if_pos (of_decide_eq_true hf)]
            exact True.intro
          · rw [if_neg (of_decide_eq_false hf)] at hbt
            by_cases hl : (b.ts s.1 c).1 = (b.ts s.2.1 d).1
            · -- like things
              rw [if_pos hl] at hbt
              have hr' : Rch b t ((b.ts s.1 c).2, (b.ts s.2.1 d).2, s.2.2.1 + (costL c d).1, s.2.2.2 + (costL c d).2) := .step (I.r s hsm) ⟨c, hc, d, hd, hbt⟩
              refine g_setL (xs := xs'.map pD) (el_binDL (ys := []) (ev_var rfl) (fun Z P k => ⟨fun z => (by simp [hl] at z), fun _ => (el_lst ea_nil (Nat.le_of_ble_eq_true rfl)) Z P k⟩) fun w m4 s4 ew => ?_) fun f' hf' => ?_
              · have := fl_add (s4 _ _ ef) ew (by rw [List.length_map, sizeLine_eq]; show xs'.length + 0 ≤ _; omega)
                rwa [List.append_nil] at this
              have hfq' : f' ≠ q := (hf'.ne eq).symm
              have hfr' : f' ≠ r := (hf'.ne er).symm
              have keep' : ∀ {a o}, m3 a = some o → (m3.set f' (.lst (xs'.map pD))) a = some o := fun h => Sub.fresh hf' _ _ h
              refine g_if (k := true && !decide (((b.ts s.1 c).2, (b.ts s.2.1 d).2, s.2.2.1 + (costL c d).1, s.2.2.2 + (costL c d).2) ∈ line')) (et_and (et_tru (ev_var rfl) (by rw [← decide_eq_true hl]; exact tru_bl)) fun _ => Evt.to (et_tst (ev_bin (ev_var rfl) (ev_var rfl) (fv_inD (dg_ints (keep' er) [(b.ts s.1 c).2, (b.ts s.2.1 d).2, s.2.2.1 + (costL c d).1, s.2.2.2 + (costL c d).2])))) ?_) (fun hk => ?_) fun hk => ?_
              · show (true ^^ (valD kvs' (Spot.k ((b.ts s.1 c).2, (b.ts s.2.1 d).2, s.2.2.1 + (costL c d).1, s.2.2.2 + (costL c d).2))).isSome) = _
                rw [I'.k, Bool.true_xor]
              · have hn : ((b.ts s.1 c).2, (b.ts s.2.1 d).2, s.2.2.1 + (costL c d).1, s.2.2.2 + (costL c d).2) ∉ line' := by simpa using hk
                refine g_tgM ev_c (gs_dict (ev_var rfl) (ev_var rfl) (dp_ints (keep' er) [(b.ts s.1 c).2, (b.ts s.2.1 d).2, s.2.2.1 + (costL c d).1, s.2.2.2 + (costL c d).2] _ (by have := I'.z; rw [sizeLine_eq]; omega))) ?_
                refine g_append (y := Spot.d ((b.ts s.1 c).2, (b.ts s.2.1 d).2, s.2.2.1 + (costL c d).1, s.2.2.2 + (costL c d).2)) (ev_var rfl) (ev_var rfl) (by rw [Mm.set_ne hqr]; exact keep' eq) (by rw [List.length_map, sizeLine_eq]; omega) ?_
                refine ⟨f', xs', line' ++ [_], _, _, _, _, _, _, _, rfl, hfq', by rw [Mm.set_ne hfq', Mm.set_ne hfr', Mm.set_same], by rw [Mm.set_same, List.map_append]; rfl, by rw [Mm.set_ne hqr.symm, Mm.set_same]; rfl, fun a o h h1 h2 h3 => by rw [Mm.set_ne h1, Mm.set_ne h2]; exact keep' (kp a o h h1 h2 h3), I'.snoc hr' hn _, hp1.trans (List.prefix_append _ _), hp2, by omega, hxb', old (List.prefix_append _ _) (List.prefix_refl _) ?_⟩
                unfold DoneU
                rw [hbt]
                simp
              · refine g_next ⟨f', xs', line', kvs', _, _, _, _, _, _, rfl, hfq', Mm.set_same, keep' eq, keep' er, fun a o h h1 h2 h3 => keep' (kp a o h h1 h2 h3), I', hp1, hp2, by omega, hxb', old (List.prefix_refl _) (List.prefix_refl _) ?_⟩
                unfold DoneU
                rw [hbt]
                simpa using hk
            · -- unlike things
              rw [if_neg hl] at hbt
              have hb : Bad b t := ⟨s, I.r s hsm, c, hc, d, hd, hbt⟩
              refine g_setL (xs := (xs' ++ [(c, d)]).map pD) (el_binDL (ys := [pD (c, d)]) (ev_var rfl) (fun Z P k => ⟨fun _ => (el_lst (ea_cons (ev_var rfl) ea_nil) (Nat.le_of_ble_eq_true rfl)) Z P k, fun z => (by simp [hl] at z)⟩) fun w m4 s4 ew => ?_) fun f' hf' => ?_
              · rw [List.map_append]
                exact fl_add (s4 _ _ ef) ew (by rw [List.length_map, sizeLine_eq]; show xs'.length + 1 ≤ _; omega)
              have hfq' : f' ≠ q := (hf'.ne eq).symm
              have keep' : ∀ {a o}, m3 a = some o → (m3.set f' (.lst ((xs' ++ [(c, d)]).map pD))) a = some o := fun h => Sub.fresh hf' _ _ h
              refine g_if (k := false) (Evt.to (et_and (k := false) (l := false) (et_tru (ev_var rfl) (by rw [← decide_eq_false hl]; exact tru_bl)) fun z => by cases z) rfl) (fun z => by cases z) fun _ => ?_
              refine g_next ⟨f', xs' ++ [(c, d)], line', kvs', _, _, _, _, _, _, rfl, hfq', Mm.set_same, keep' eq, keep' er, fun a o h h1 h2 h3 => keep' (kp a o h h1 h2 h3), I', hp1, hp2.trans (List.prefix_append _ _), by rw [List.length_append]; show xs'.length + 1 ≤ _; omega, fun _ => hb, old (List.prefix_refl _) (List.prefix_append _ _) ?_⟩
              unfold DoneU
              rw [hbt]
              simp
      · rintro ρ' m3 ⟨f, xs', line', kvs', x11, x12, x13, x14, x15, x16, rfl, hfq, ef, eq, er, kp, I', hp1, hp2, hxl', hxb', hD'⟩
        rw [List.length_map] at hxl' hD'
        rw [List.take_length] at hD'
        have hpl := prs_len (b := b)
        refine ⟨n - 1, by omega, f, xs', at_ + 1, line', kvs', _, _, _, _, _, _, _, _, _, _, rfl, by omega, hfq, ef, eq, er, kp, I', by have := hp1.length_le; omega, by omega, hxb', fun i s2 hi hs2 => ?_⟩
        obtain ⟨ts, rfl⟩ := id hp1
        by_cases hi2 : i < at_
        · rw [List.getElem?_append_left (by omega)] at hs2
          exact fun p hp => (hD i s2 hi2 hs2 p hp).mono hp1 hp2
        · have e : i = at_ := by omega
          subst e
          rw [List.getElem?_append_left hlt, hx] at hs2
          cases hs2
          exact hD'
    · have hge : at_ = line.length := by have := of_decide_eq_false h; omega
      have all : ∀ s ∈ line, ∀ p ∈ prs b, DoneU b t line xs s p := fun s hs => by
        obtain ⟨i, hi, ei⟩ := List.getElem_of_mem hs
        exact hD i s (by omega) (by rw [List.getElem?_eq_getElem hi, ei])
      have cl : ∀ s, Rch b t s → s ∈ line := fun s hr => closed_all I.h (fun s hs s' ⟨c, hc, d, hd, e⟩ => by have := all s hs (c, d) (prs_mem.mpr ⟨hc, hd⟩); unfold DoneU at this; rw [e] at this; exact this) hr
      refine ⟨f, xs, _, _, _, _, _, _, _, _, _, _, _, rfl, ef, kp, fun hx hb => ?_, fun hb => ?_⟩
      · obtain ⟨s, hs, c, hc, d, hd, e⟩ := hb
        have := all s (cl s hs) (c, d) (prs_mem.mpr ⟨hc, hd⟩)
        unfold DoneU at this
        rw [e] at this
        exact this hx
      · cases xs with
        | nil => rfl
        | cons x r => exact absurd (hxb (fun z => by cases z)) hb
  · rintro ρ' m2 ⟨f, xs, at_, x7, x8, x9, x10, x11, x12, x13, x14, x15, x16, rfl, ef, kp, hx⟩
    refine ⟨m2, .refl _, g_ret (ev_var rfl) fun P Z h => ⟨m2, .refl _, h _ _ ⟨f, xs, rfl, ef, fun a o e => ?_, hx⟩⟩⟩
    have h1 : a ≠ q := fun z => by subst z; unfold Qz.Fr at hq; rw [hq] at e; cases e
    have h2 : a ≠ r := fun z => by subst z; unfold Qz.Fr at hr; rw [hr] at e; cases e
    exact kp a o (hsub _ _ e) h1 h2 h2
end
end Tb
set_option Elab.async false
set_option linter.all false
set_option maxRecDepth 100000
set_option maxHeartbeats 0
namespace Tb
open PySem PySem.Spec PyProof.Rows L2 Qz Hd
-- array_mem_dec: an operator on values
local macro_rules | `(tactic| array_mem_dec) => `(tactic| with_reducible first
  | exact fv_add | exact fv_sub | exact fv_le | exact fv_lt | exact fv_gt | exact fv_ge | exact fv_eqI | exact fv_eqS | exact fv_eqB | exact fv_is | exact fv_isn | exact fv_isB | exact fv_isnB | exact fv_neg
  | exact fv_revT | exact fa_abs | exact fa_int | exact fa_lenT | exact fa_max2
  | (apply fv_mod; decide) | (apply fv_div; decide) | (apply fv_ixT; with_unfolding_all rfl)
  | (apply fv_ne; array_mem_dec) | (apply fa_isiI; with_unfolding_all rfl) | (apply fa_isiB; with_unfolding_all rfl) | (apply fa_isiU; with_unfolding_all rfl) | (apply fa_isiS; with_unfolding_all rfl) | (apply fa_isiD; with_unfolding_all rfl) | (apply fa_isiUL; with_unfolding_all rfl) | assumption)
local macro_rules | `(tactic| sizeOf_list_dec) => `(tactic| assumption)
-- array_get_dec: what an expression, a test evaluates to
local macro_rules | `(tactic| array_get_dec) => `(tactic| with_reducible first
  | exact ev_c | (apply ev_var; with_unfolding_all rfl) | exact ea_nil
  | (apply ea_cons; · array_get_dec
     · array_get_dec)
  | (apply ev_bin; · array_get_dec
     · array_get_dec
     · array_mem_dec)
  | (apply ev_un; · array_get_dec
     · array_mem_dec)
  | (apply ev_tup; · array_get_dec
     · first | with_unfolding_all decide | with_unfolding_all exact Nat.le_of_ble_eq_true rfl)
  | (apply ev_cb; · array_get_dec
     · array_mem_dec)
  | (apply ev_call; · array_get_dec
     · sizeOf_list_dec
     · with_unfolding_all rfl)
  | (apply et_tst; array_get_dec)
  | (apply et_tru; · array_get_dec
     · exact tru_bl)
  | (apply et_not; array_get_dec)
  | assumption)
local macro_rules | `(tactic| sizeOf_list_dec) => `(tactic| first | exact sp36 | exact sp42 _ | exact sp41 _ _ | exact sp49 _ _ | exact sp18 (by assumption) (by assumption) | exact sp15 (by assumption) | assumption)
section
variable {m : Mm} {L : Nat} {b : Bk}
def DoneT (b : Bk) (t : Int) (S : List Spot) (s : Spot) (p : Int × Int) : Prop := ∀ s', b.behind t s p.1 p.2 = .to s' → s' ∈ S
theorem sp53 (O : b.Ok) {t : Int} (h0 : 0 ≤ t) (h9 : t ≤ 9) (nb : ¬ Bad b t) {S : List Spot} (hS : IsSp b t S) : Fn (Lv tb (L + 5)) 53 [b.d, .int t] m (spsD S) := by
  refine GFn.fn (fn_gor rfl rfl ?_)
  refine g_tgR (T := fun d m' => ∃ q r pp, d = .tup [.ref q, .int 0, .ref r, .ref pp] ∧ Fr m q ∧ Fr m r ∧ m' q = some (.lst [Spot.d START]) ∧ m' r = some (.dT [(Spot.k START, .bl true)]) ∧ Sub m m' ∧ PT b m' pp q r) ?_ ?_
  · have hT : Era (wCons (wLst (wCons (wTup (wCons (wC (.int 0)) (wCons (wC (.int 0)) (wCons (wC (.int 0)) (wCons (wC (.int 0)) wNil))))) wNil)) (wCons (wC (.int 0)) (wCons (wDisp [((wTup (wCons (wC (.int 0)) (wCons (wC (.int 0)) (wCons (wC (.int 0)) (wCons (wC (.int 0)) wNil))))), (wC (.bl true)))]) (wCons (wCallN 50 1 (wCons (wVar 0) wNil)) wNil)))) (Lv tb (L + 4)) (startD 16 [b.d, .int t]) m fun ds m' => ∃ q r pp, ds = [.ref q, .int 0, .ref r, .ref pp] ∧ Fr m q ∧ Fr m r ∧ m' q = some (.lst [Spot.d START]) ∧ m' r = some (.dT [(Spot.k START, .bl true)]) ∧ Sub m m' ∧ PT b m' pp q r := by
      refine era_consL (xs := [Spot.d START]) (el_lst (ea_cons (Evd.to (d' := .tup [.int 0, .int 0, .int 0, .int 0]) (by array_get_dec) (by rfl)) ea_nil) (Nat.le_of_ble_eq_true rfl)) fun q m1 hq s1 => era_consD ev_c ?_
      refine era_cons (T := fun d m3 => ∃ r, d = .ref r ∧ Fr m1 r ∧ m3 = m1.set r (.dT [(Spot.k START, .bl true)])) (fun Z P k => ⟨Nat.le_of_ble_eq_true rfl, .inr ⟨[(Spot.k START, .bl true)], rfl, fun r hr => k _ _ ⟨r, rfl, hr, rfl⟩⟩⟩) ?_
      rintro d m3 ⟨r, rfl, hr, rfl⟩
      have h01 := s1.sets hq
      have eq0 : (m1.set r (.dT [(Spot.k START, .bl true)])) q = some (.lst [Spot.d START]) := by rw [Mm.set_ne (hr.ne s1.at)]; exact s1.at
      have er0 : (m1.set r (.dT [(Spot.k START, .bl true)])) r = some (.dT [(Spot.k START, .bl true)]) := Mm.set_same
      refine era_cons (er_call (by array_get_dec) (sp50 (L := L) O)) ?_
      rintro x m4 ⟨pp, pk, rfl, s4, hpp, epp, hpk⟩
      exact era_nil ⟨q, r, pp, rfl, hq, hr.sub h01, s4 _ _ eq0, s4 _ _ er0, (h01.trans (Sub.fresh hr)).trans s4, pk, epp, (hpp.ne eq0).symm, (hpp.ne er0).symm, fun h t hh ht => let ⟨a, e1, e2, e3⟩ := hpk h t hh ht; ⟨a, e1, e2, (e3.ne eq0).symm, (e3.ne er0).symm⟩⟩
    refine Evr.imp (er_tup hT fun ds m1 ⟨q, r, pp, e, _⟩ => by rw [e]; exact Nat.le_of_ble_eq_true rfl) ?_
    rintro d m' ⟨ds, rfl, q, r, pp, rfl, h⟩
    exact ⟨q, r, pp, rfl, h⟩
  rintro d m1 ⟨q, r, pp, rfl, hq, hr, eq1, er1, hsub, hPT⟩
  refine ⟨_, m1, m1, fun P h => ⟨rfl, h⟩, .refl _, ?_⟩
  have hqr : q ≠ r := fun z => by subst z; rw [eq1] at er1; cases er1
  refine g_seq (Q1 := fun ρ' m' => ∃ (line : List Spot) (x3 x6 x7 x8 x9 x10 x11 x12 x13 x14 x15 : Option D), ρ' = [some b.d, some (.int t), some (.ref q), x3, some (.ref r), some (.ref pp), x6, x7, x8, x9, x10, x11, x12, x13, x14, x15] ∧ m' q = some (.lst (line.map Spot.d)) ∧ Keep m1 m' q r r ∧ line.Nodup ∧ ∀ s, s ∈ line ↔ Rch b t s) ?_ ?_
  · refine g_while (n0 := 401) (fun n ρ' m' => ∃ (at_ : Nat) (line : List Spot) (kvs : List (List Key × D)) (x6 x7 x8 x9 x10 x11 x12 x13 x14 x15 : Option D), ρ' = [some b.d, some (.int t), some (.ref q), some (.int (at_ : Nat)), some (.ref r), some (.ref pp), x6, x7, x8, x9, x10, x11, x12, x13, x14, x15] ∧ n + at_ = 401 ∧ m' q = some (.lst (line.map Spot.d)) ∧ m' r = some (.dT kvs) ∧ Keep m1 m' q r r ∧ Li b t line kvs ∧ at_ ≤ line.length ∧ ∀ i s, i < at_ → line[i]? = some s → ∀ p ∈ prs b, DoneT b t line s p)
      ⟨0, [START], _, _, _, _, _, _, _, _, _, _, _, rfl, rfl, eq1, er1, fun a o h _ _ _ => h, li0 b t, Nat.zero_le _, fun i s hi => by omega⟩ ?_
    rintro n ρ' m2 ⟨at_, line, kvs, x6, x7, x8, x9, x10, x11, x12, x13, x14, x15, rfl, hn, eq, er, kp, I, ha, hD⟩
    have hlen := I.len O h0 h9
    refine ⟨decide ((at_ : Int) < (line.length : Int)), Evt.to (et_tst (ev_bin (ev_var rfl) (ev_cb (ea_cons (ev_var rfl) ea_nil) (fa_lenL eq)) fv_lt)) (by rw [List.length_map]), fun h => ?_, fun h => ?_⟩
    · have hlt : at_ < line.length := by have := of_decide_eq_true h; omega
      have hx : line[at_]? = some line[at_] := List.getElem?_eq_getElem hlt
      have hsm : line[at_] ∈ line := List.getElem_mem hlt
      generalize hs : line[at_] = s at hx hsm
      have sok := (I.r s hsm).ok O h0
      refine g_tg (x := s.d) (ev_bin (ev_var rfl) (ev_var rfl) (fv_ixL eq (atI_nat (by rw [List.getElem?_map, hx]; rfl)))) (fun P h => ⟨rfl, h⟩) ?_
      refine g_incs rfl ev_c ?_
      obtain ⟨pk, e1, e2, e3, e4⟩ := hPT
      obtain ⟨a, g1, g2, g3, g4⟩ := e4 s.1 s.2.1 sok.a sok.b
      have epp2 : m2 pp = some (.dT pk) := kp _ _ e1 e2 e3 e3
      have ea2 : m2 a = some (.lst ((prs b).map (toldD b s.1 s.2.1))) := kp _ _ g2 g3 g4 g4
      have it : Evd (wBin fIx (wVar 5) (wTup (wCons (wVar 6) (wCons (wVar 7) wNil)))) (Lv tb (L + 4)) [some b.d, some (.int t), some (.ref q), some (.int ((at_ : Int) + 1)), some (.ref r), some (.ref pp), some (.int s.1), some (.int s.2.1), some (.int s.2.2.1), some (.int s.2.2.2), x10, x11, x12, x13, x14, x15] m2 (.ref a) :=
        ev_bin (ev_var rfl) (by array_get_dec) (fv_ixD (by rw [← g1]; exact dg_ints epp2 [s.1, s.2.1]))
      refine g_mono (g_for (C := No) (its := (prs b).map (toldD b s.1 s.2.1)) (fun j ρ' m' => ∃ (line' : List Spot) (kvs' : List (List Key × D)) (x10 x11 x12 x13 x14 x15 : Option D), ρ' = [some b.d, some (.int t), some (.ref q), some (.int ((at_ : Int) + 1)), some (.ref r), some (.ref pp), some (.int s.1), some (.int s.2.1), some (.int s.2.2.1), some (.int s.2.2.2), x10, x11, x12, x13, x14, x15] ∧ m' q = some (.lst (line'.map Spot.d)) ∧ m' r = some (.dT kvs') ∧ Keep m1 m' q r r ∧ Li b t line' kvs' ∧ line <+: line' ∧ ∀ p ∈ (prs b).take j, DoneT b t line' s p)
        (ei_lst it ea2) ⟨line, kvs, _, _, _, _, _, _, rfl, eq, er, kp, I, List.prefix_refl _, fun p hp => by simp at hp⟩ (fun i ρ' m' ⟨_, _, _, _, _, _, _, _, _, _, _, k, _⟩ => k _ _ g2 g3 g4 g4) ?_ (Q := fun ρ' m' => ∃ n', n' < n ∧ ∃ (at_ : Nat) (line : List Spot) (kvs : List (List Key × D)) (x6 x7 x8 x9 x10 x11 x12 x13 x14 x15 : Option D), ρ' = [some b.d, some (.int t), some (.ref q), some (.int (at_ : Nat)), some (.ref r), some (.ref pp), x6, x7, x8, x9, x10, x11, x12, x13, x14, x15] ∧ n' + at_ = 401 ∧ m' q = some (.lst (line.map Spot.d)) ∧ m' r = some (.dT kvs) ∧ Keep m1 m' q r r ∧ Li b t line kvs ∧ at_ ≤ line.length ∧ ∀ i s, i < at_ → line[i]? = some s → ∀ p ∈ prs b, DoneT b t line s p) ?_) (fun _ _ h => h) (fun _ _ h => h.elim) (fun _ _ h => h)
      · rintro j ρ' m3 x ⟨line', kvs', x10, x11, x12, x13, x14, x15, rfl, eq, er, kp, I', hp1, hD'⟩ hx
        rw [List.getElem?_map] at hx
        cases ep : (prs b)[j]? with
        | none => rw [ep] at hx; cases hx
        | some pr =>
          rw [ep] at hx
          cases hx
          obtain ⟨c, d⟩ := pr
          obtain ⟨hc, hd⟩ := prs_mem.mp (List.mem_of_getElem? ep)
          refine ⟨_, rfl, ?_⟩
          have hlen' := I'.len O h0 h9
          have hbt := behind_told (t := t) (s := s) hc hd
          have old : ∀ {line2 : List Spot}, line' <+: line2 → DoneT b t line2 s (c, d) → ∀ p ∈ (prs b).take (j + 1), DoneT b t line2 s p := fun k1 hn p hp => by
            rcases (mem_take_succ ep).mp hp with h | h
            · exact fun s' e => k1.subset (hD' p h s' e)
            · subst h; exact hn
          refine g_set (x := Spot.d ((b.ts s.1 c).2, (b.ts s.2.1 d).2, s.2.2.1 + (costL c d).1, s.2.2.2 + (costL c d).2)) (Evd.to (ev_bin (ev_var rfl) (by array_get_dec) (fv_addT (Nat.le_of_ble_eq_true rfl))) (by rfl)) ?_
          refine g_if (k := decide (max (s.2.2.1 + (costL c d).1) (s.2.2.2 + (costL c d).2) ≤ t) && !decide (((b.ts s.1 c).2, (b.ts s.2.1 d).2, s.2.2.1 + (costL c d).1, s.2.2.2 + (costL c d).2) ∈ line')) (et_and (et_tst (ev_bin (ev_cb (ea_cons (Evd.to (ev_slT (ev_var rfl) (ep_at ev_c) ep_no) (d := .tup (([s.2.2.1 + (costL c d).1, s.2.2.2 + (costL c d).2] : List Int).map .int)) (by rfl)) ea_nil) fa_maxT) (ev_var rfl) fv_le)) fun _ => Evt.to (et_tst (ev_bin (ev_var rfl) (ev_var rfl) (fv_inD (dg_ints er [(b.ts s.1 c).2, (b.ts s.2.1 d).2, s.2.2.1 + (costL c d).1, s.2.2.2 + (costL c d).2])))) ?_) (fun hk => ?_) fun hk => ?_
          · show (true ^^ (valD kvs' (Spot.k ((b.ts s.1 c).2, (b.ts s.2.1 d).2, s.2.2.1 + (costL c d).1, s.2.2.2 + (costL c d).2))).isSome) = _
            rw [I'.k, Bool.true_xor]
          · obtain ⟨k1, k2⟩ := ba hk
            have k1' : ¬ t < max (s.2.2.1 + (costL c d).1) (s.2.2.2 + (costL c d).2) := by have := of_decide_eq_true k1; omega
            have hn : ((b.ts s.1 c).2, (b.ts s.2.1 d).2, s.2.2.1 + (costL c d).1, s.2.2.2 + (costL c d).2) ∉ line' := by simpa using k2
            rw [if_neg k1'] at hbt
            have hl : (b.ts s.1 c).1 = (b.ts s.2.1 d).1 := by
              by_cases hl : (b.ts s.1 c).1 = (b.ts s.2.1 d).1
              · exact hl
              · rw [if_neg hl] at hbt
                exact absurd ⟨s, I.r s hsm, c, hc, d, hd, hbt⟩ nb
            rw [if_pos hl] at hbt
            have hr' : Rch b t ((b.ts s.1 c).2, (b.ts s.2.1 d).2, s.2.2.1 + (costL c d).1, s.2.2.2 + (costL c d).2) := .step (I.r s hsm) ⟨c, hc, d, hd, hbt⟩
            refine g_tgM ev_c (gs_dict (ev_var rfl) (ev_var rfl) (dp_ints er [(b.ts s.1 c).2, (b.ts s.2.1 d).2, s.2.2.1 + (costL c d).1, s.2.2.2 + (costL c d).2] _ (by have := I'.z; rw [sizeLine_eq]; omega))) ?_
            refine g_append (y := Spot.d ((b.ts s.1 c).2, (b.ts s.2.1 d).2, s.2.2.1 + (costL c d).1, s.2.2.2 + (costL c d).2)) (ev_var rfl) (ev_var rfl) (by rw [Mm.set_ne hqr]; exact eq) (by rw [List.length_map, sizeLine_eq]; omega) ?_
            refine ⟨line' ++ [_], _, _, _, _, _, _, _, rfl, by rw [Mm.set_same, List.map_append]; rfl, by rw [Mm.set_ne hqr.symm, Mm.set_same]; rfl, fun a o h h1 h2 h3 => by rw [Mm.set_ne h1, Mm.set_ne h2]; exact kp a o h h1 h2 h3, I'.snoc hr' hn _, hp1.trans (List.prefix_append _ _), old (List.prefix_append _ _) fun s' e => ?_⟩
            rw [hbt] at e
            cases e
            simp
          · refine g_next ⟨line', kvs', _, _, _, _, _, _, rfl, eq, er, kp, I', hp1, old (List.prefix_refl _) fun s' e => ?_⟩
            by_cases hf : t < max (s.2.2.1 + (costL c d).1) (s.2.2.2 + (costL c d).2)
            · rw [hbt, if_pos hf] at e
              cases e
            · rw [if_neg hf] at hbt
              by_cases hl : (b.ts s.1 c).1 = (b.ts s.2.1 d).1
              · rw [hbt, if_pos hl] at e
                cases e
                rw [decide_eq_true (show max (s.2.2.1 + (costL c d).1) (s.2.2.2 + (costL c d).2) ≤ t by omega), Bool.true_and] at hk
                simpa using hk
              · rw [hbt, if_neg hl] at e
                cases e
      · rintro ρ' m3 ⟨line', kvs', x10, x11, x12, x13, x14, x15, rfl, eq, er, kp, I', hp1, hD'⟩
        rw [List.length_map, List.take_length] at hD'
        refine ⟨n - 1, by omega, at_ + 1, line', kvs', _, _, _, _, _, _, _, _, _, _, rfl, by omega, eq, er, kp, I', by have := hp1.length_le; omega, fun i s2 hi hs2 => ?_⟩
        obtain ⟨ts, rfl⟩ := id hp1
        by_cases hi2 : i < at_
        · rw [List.getElem?_append_left (by omega)] at hs2
          exact fun p hp s' e => hp1.subset (hD i s2 hi2 hs2 p hp s' e)
        · have e : i = at_ := by omega
          subst e
          rw [List.getElem?_append_left hlt, hx] at hs2
          cases hs2
          exact hD'
    · have hge : at_ = line.length := by have := of_decide_eq_false h; omega
      have all : ∀ s ∈ line, ∀ p ∈ prs b, DoneT b t line s p := fun s hs => by
        obtain ⟨i, hi, ei⟩ := List.getElem_of_mem hs
        exact hD i s (by omega) (by rw [List.getElem?_eq_getElem hi, ei])
      exact ⟨line, _, _, _, _, _, _, _, _, _, _, _, rfl, eq, kp, I.n, fun s => ⟨I.r s, fun hr => closed_all I.h (fun s hs s' ⟨c, hc, d, hd, e⟩ => all s hs (c, d) (prs_mem.mpr ⟨hc, hd⟩) s' e) hr⟩⟩
  · rintro ρ' m2 ⟨line, x3, x6, x7, x8, x9, x10, x11, x12, x13, x14, x15, rfl, eq, kp, hn, hr'⟩
    have hs : Sub m m2 := fun a o e => by
      have h1 : a ≠ q := fun z => by subst z; unfold Qz.Fr at hq; rw [hq] at e; cases e
      have h2 : a ≠ r := fun z => by subst z; unfold Qz.Fr at hr; rw [hr] at e; cases e
      exact kp a o (hsub _ _ e) h1 h2 h2
    refine ⟨m2, .refl _, ?_⟩
    rw [hS.uniq (IsSp.of hn hr')]
    exact g_ret (ev_cbl (ea_one (el_cb (ea_cons (ev_var rfl) ea_nil) (fal_srt eq))) fun p m' e => fa_tupL e) (rd_ok hs)
/-- how many torn holes are borne -/
theorem sp23 (O : b.Ok) {k : Nat} (hk : k ≤ 9) (h1 : ∀ t : Nat, t ≤ 9 → (¬ Bad b t ↔ t < k)) : Fn (Lv tb (L + 11)) 23 [b.d] m (.int ((k : Int) - 1)) := by
  refine GFn.fn (fn_gor rfl rfl ?_)
  have e10 : ((List.range ((10 : Int)).toNat).map fun i => D.int (0 + (i : Nat))) = ((List.range 10).map fun i : Nat => (i : Int)).map D.int := by
    rw [List.map_map]
    refine List.map_congr_left fun i _ => ?_
    show D.int (0 + (i : Int)) = D.int (i : Int)
    rw [Int.zero_add]
  have hi : Evi (wRange1 (wCons (wBin fAdd (wC (.int 9)) (wC (.int 1))) wNil)) (Lv tb (L + 10)) (startD 3 [b.d]) m (((List.range 10).map fun i : Nat => (i : Int)).map D.int) (fun _ => True) := by
    rw [← e10]
    exact ei_r1 (j := 10) (Evd.to (by array_get_dec) (by rfl) |> fun h => ea_cons h ea_nil)
  have hflt : (((List.range 10).map fun i : Nat => (i : Int)).filter fun t => decide (t < (k : Int))) = (List.range k).map fun i : Nat => (i : Int) := by
    have : ∀ k : _root_.Fin 10, (((List.range 10).map fun i : Nat => (i : Int)).filter fun t => decide (t < (k.val : Int))) = (List.range k.val).map fun i : Nat => (i : Int) := by decide
    exact this ⟨k, by omega⟩
  refine g_setL (xs := ((List.range k).map fun i : Nat => (i : Int)).map .int) ?_ fun p hp => ?_
  · rw [← hflt]
    refine el_fltA .int (fun t => decide (t < (k : Int))) hi True.intro (by rw [List.length_map, List.length_range, sizeLine_eq]; decide) fun t ht => ⟨_, rfl, ?_, ev_var rfl⟩
    obtain ⟨i, hi, rfl⟩ := List.mem_map.mp ht
    have hi2 := List.mem_range.mp hi
    refine et_tru (ev_call (by array_get_dec) (sp22 O (by omega) (by omega) (k := decide ((i : Int) < (k : Int))) ?_)) tru_bl
    rw [decide_eq_true_iff]
    exact ⟨fun h => (h1 i (by omega)).mpr (by omega), fun h => by have := (h1 i (by omega)).mp h; omega⟩
  · have e0 : (m.set p (.lst (((List.range k).map fun i : Nat => (i : Int)).map .int))) p = some (.lst (((List.range k).map fun i : Nat => (i : Int)).map .int)) := Mm.set_same
    have hlen : ((((List.range k).map fun i : Nat => (i : Int)).map D.int).length : Int) = (k : Int) := by rw [List.length_map, List.length_map, List.length_range]
    refine g_ret (ev_ifd (k := false) (Evt.to (et_tst (ev_bin (ev_cb (ea_cons (ev_var rfl) ea_nil) (fa_lenL e0)) (by array_get_dec) fv_eqI)) ?_) (fun z => by cases z) fun _ => Evd.to (ev_bin (ev_cb (ea_cons (ev_var rfl) ea_nil) (fa_lenL e0)) ev_c fv_sub) ?_) (rd_ok (Sub.fresh hp))
    · rw [hlen]
      exact decide_eq_false (by omega)
    · rw [hlen]
end
end Tb
set_option Elab.async false
set_option linter.all false
set_option maxRecDepth 100000
set_option maxHeartbeats 0
namespace Tb
open PySem PySem.Spec PyProof.Rows L2 Qz Hd
-- array_mem_dec: an operator on values
local macro_rules | `(tactic| array_mem_dec) => `(tactic| with_reducible first
  | exact fv_add | exact fv_sub | exact fv_le | exact fv_lt | exact fv_gt | exact fv_ge | exact fv_eqI | exact fv_eqS | exact fv_eqB | exact fv_is | exact fv_isn | exact fv_isB | exact fv_isnB | exact fv_neg
  | exact fv_revT | exact fa_abs | exact fa_int | exact fa_lenT | exact fa_max2
  | (apply fv_mod; decide) | (apply fv_div; decide) | (apply fv_ixT; with_unfolding_all rfl)
  | (apply fv_ne; array_mem_dec) | (apply fa_isiI; with_unfolding_all rfl) | (apply fa_isiB; with_unfolding_all rfl) | (apply fa_isiU; with_unfolding_all rfl) | (apply fa_isiS; with_unfolding_all rfl) | (apply fa_isiD; with_unfolding_all rfl) | (apply fa_isiUL; with_unfolding_all rfl) | assumption)
local macro_rules | `(tactic| sizeOf_list_dec) => `(tactic| assumption)
-- array_get_dec: what an expression, a test evaluates to
local macro_rules | `(tactic| array_get_dec) => `(tactic| with_reducible first
  | exact ev_c | (apply ev_var; with_unfolding_all rfl) | exact ea_nil
  | (apply ea_cons; · array_get_dec
     · array_get_dec)
  | (apply ev_bin; · array_get_dec
     · array_get_dec
     · array_mem_dec)
  | (apply ev_un; · array_get_dec
     · array_mem_dec)
  | (apply ev_tup; · array_get_dec
     · first | with_unfolding_all decide | with_unfolding_all exact Nat.le_of_ble_eq_true rfl)
  | (apply ev_cb; · array_get_dec
     · array_mem_dec)
  | (apply ev_call; · array_get_dec
     · sizeOf_list_dec
     · with_unfolding_all rfl)
  | (apply et_tst; array_get_dec)
  | (apply et_tru; · array_get_dec
     · exact tru_bl)
  | (apply et_not; array_get_dec)
  | assumption)
local macro_rules | `(tactic| sizeOf_list_dec) => `(tactic| first | exact sp36 | exact sp42 _ | exact sp41 _ _ | exact sp49 _ _ | assumption)
mutual
inductive Sa (m : Mm) : Nat → D → D → Prop
  | non : Sa m 1 .non .non
  | bl (b : Bool) : Sa m 1 (.bl b) (.bl b)
  | int (i : Int) : Sa m 1 (.int i) (.int i)
  | str (s : Str) : Sa m 1 (.str s) (.str s)
  | tup {n : Nat} {xs ys : List D} : Sas m n xs ys → Sa m (n + 1) (.tup xs) (.tup ys)
  | lst {n : Nat} {a c : Addr} {xs ys : List D} : m a = some (.lst xs) → m c = some (.lst ys) → Sas m n xs ys → Sa m (n + 1) (.ref a) (.ref c)
inductive Sas (m : Mm) : Nat → List D → List D → Prop
  | nil : Sas m 0 [] []
  | cons {n k : Nat} {x y : D} {xs ys : List D} : Sa m n x y → Sas m k xs ys → Sas m (n + k) (x :: xs) (y :: ys)
end
section
variable {m : Mm} {L : Nat} {b : Bk}
theorem Sas.length : ∀ {xs ys : List D} {n : Nat}, Sas m n xs ys → xs.length = ys.length ∧ xs.length ≤ n
  | [], _, _, h => by cases h; exact ⟨rfl, Nat.le_refl _⟩
  | x :: xs, _, _, h => by
    cases h with
    | cons h1 h2 =>
      obtain ⟨e1, e2⟩ := Sas.length h2
      have : ∀ {n x y}, Sa m n x y → 1 ≤ n := fun h => by cases h <;> omega
      have := this h1
      exact ⟨by rw [List.length_cons, List.length_cons, e1], by rw [List.length_cons]; omega⟩
theorem Sas.append : ∀ {xs ys zs ws : List D} {n k : Nat}, Sas m n xs ys → Sas m k zs ws → Sas m (n + k) (xs ++ zs) (ys ++ ws)
  | [], _, _, _, _, _, h, h2 => by cases h; rw [Nat.zero_add]; exact h2
  | x :: xs, _, _, _, _, _, h, h2 => by
    cases h with
    | cons h1 h3 =>
      have := Sas.append h3 h2
      rw [Nat.add_assoc]
      exact .cons h1 this
theorem zipD_append {xs ys zs ws : List D} (h : xs.length = ys.length) : zipD (xs ++ zs) (ys ++ ws) = zipD xs ys ++ zipD zs ws := by
  unfold zipD
  rw [List.zip_append h, List.map_append]
theorem el_lzT {G : Gam} {ρ : Ev} {a : WA} {xs ys : List D} (ha : Eva a G ρ m [.tup xs, .tup ys]) : Evl (wLZ a) G ρ m (zipD xs ys) := fun Z P h => ha _ _ fun p hp => h p _ hp (.refl _)
theorem el_lzL {G : Gam} {ρ : Ev} {a : WA} {p q : Addr} {xs ys : List D} (ha : Eva a G ρ m [.ref p, .ref q]) (e1 : m p = some (.lst xs)) (e2 : m q = some (.lst ys)) : Evl (wLZ a) G ρ m (zipD xs ys) := fun Z P h => ha _ _ ⟨xs, ys, e1, e2, fun p hp => h p _ hp (.refl _)⟩
theorem Sa.ty {n : Nat} {x y : D} (h : Sa m n x y) : ∃ T : Ty, tyD m x T ∧ tyD m y T := by
  cases h with
  | non => exact ⟨.non, rfl, rfl⟩
  | bl b => exact ⟨.bool, rfl, rfl⟩
  | int i => exact ⟨.int, rfl, rfl⟩
  | str s => exact ⟨.str, rfl, rfl⟩
  | tup _ => exact ⟨.tuple, rfl, rfl⟩
  | lst h1 h2 _ => exact ⟨.list, .inl ⟨rfl, _, h1⟩, .inl ⟨rfl, _, h2⟩⟩
theorem tyD_sub {m' : Mm} (s : Sub m m') {x : D} {T : Ty} (h : tyD m x T) : tyD m' x T := by
  cases x with
  | ref a =>
    rcases h with ⟨e, xs, h⟩ | ⟨e, ⟨kvs, h⟩ | ⟨kvs, h⟩⟩
    · exact .inl ⟨e, xs, s _ _ h⟩
    · exact .inr ⟨e, .inl ⟨kvs, s _ _ h⟩⟩
    · exact .inr ⟨e, .inr ⟨kvs, s _ _ h⟩⟩
  | _ => exact h
theorem g_ifr1 {G : Gam} {ρ : Ev} {Q C : Ev → Mm → Prop} {R : Rq} {t : WT} {a : WS} {k : Bool} (ht : Evt t G ρ m k) (ha : k = true → Go a G ρ m Q C R) (hr : k = false → Q ρ m) : Go (wIfS t a wNext) G ρ m Q C R := g_if ht ha fun e => g_next (hr e)
theorem sp45 {N : Nat} (hN : N ≤ 1000000) {x y : D} (h : Sa m N x y) : Fn (Lv tb (L + 1)) 45 [x, y] m (.bl true) := by
  refine GFn.fn (fn_gor rfl rfl ?_)
  refine g_tgR (T := fun d m' => ∃ p, d = .tup [.ref p, .int 0] ∧ Fr m p ∧ Sub (m.set p (.lst [.tup [x, y]])) m') ?_ ?_
  · have hT : Era (wCons (wLst (wCons (wTup (wCons (wVar 0) (wCons (wVar 1) wNil))) wNil)) (wCons (wC (.int 0)) wNil)) (Lv tb L) (startD 6 [x, y]) m fun ds m' => ∃ p, ds = [.ref p, .int 0] ∧ Fr m p ∧ Sub (m.set p (.lst [.tup [x, y]])) m' :=
      era_consL (el_lst (ds := [.tup [x, y]]) (by array_get_dec) (Nat.le_of_ble_eq_true rfl)) fun p m1 hp s => era_consD ev_c (era_nil ⟨p, rfl, hp, s⟩)
    refine Evr.imp (er_tup hT fun ds m1 ⟨p, e, _⟩ => by rw [e]; exact Nat.le_of_ble_eq_true rfl) ?_
    rintro d m' ⟨ds, rfl, p, rfl, h⟩
    exact ⟨p, rfl, h⟩
  rintro d m1 ⟨p, rfl, hp, s1⟩
  refine ⟨_, m1, m1, fun P h => ⟨rfl, h⟩, .refl _, ?_⟩
  refine g_seq (Q1 := fun _ m' => Sub m m') ?_ fun ρ' m' s => ⟨m', .refl _, g_ret ev_c (rd_ok s)⟩
  refine g_while (n0 := N) (fun n ρ' m' => ∃ (done xs ys : List D) (x4 x5 : Option D), ρ' = [some x, some y, some (.ref p), some (.int (done.length : Nat)), x4, x5] ∧ Sub m m' ∧ m' p = some (.lst (done ++ zipD xs ys)) ∧ Sas m n xs ys ∧ done.length + n ≤ N) ⟨[], [x], [y], _, _, rfl, s1.sets hp, s1.at, .cons h .nil, by simp⟩ ?_
  rintro n ρ' m2 ⟨done, xs, ys, x4, x5, rfl, s2, e2, hS, hn⟩
  have hzl : (zipD xs ys).length = xs.length := by
    unfold zipD
    rw [List.length_map, List.length_zip, ← hS.length.1, Nat.min_self]
  refine ⟨!xs.isEmpty, Evt.to (et_tst (ev_bin (ev_var rfl) (ev_cb (ea_cons (ev_var rfl) ea_nil) (fa_lenL e2)) fv_lt)) ?_, fun hk => ?_, fun hk => s2⟩
  · rw [List.length_append, hzl]
    cases xs with
    | nil => simp
    | cons _ _ => rw [decide_eq_true (by rw [List.length_cons]; omega)]; rfl
  cases hS with
  | nil => cases hk
  | cons h1 h2 =>
    rename_i n1 n2 u v us vs
    obtain ⟨T, t1, t2⟩ := h1.ty
    have t1' := tyD_sub s2 t1
    have t2' := tyD_sub s2 t2
    have hl2 := h2.length
    refine g_tg (x := .tup [u, v]) (ev_bin (ev_var rfl) (ev_var rfl) (fv_ixL e2 (atI_nat (by rw [List.getElem?_append_right (Nat.le_refl _), Nat.sub_self]; rfl)))) (fun P h => ⟨rfl, h⟩) ?_
    refine g_incs rfl ev_c ?_
    have e3 : done ++ zipD (u :: us) (v :: vs) = (done ++ [.tup [u, v]]) ++ zipD us vs := by rw [List.append_assoc]; rfl
    rw [e3] at e2
    have ne2 : ∀ {C : Ty}, Evt (wTst (wBin fNe (wCB fIsi (wCons (wVar 4) (wCons (wC (.ty C.nm)) wNil))) (wCB fIsi (wCons (wVar 5) (wCons (wC (.ty C.nm)) wNil))))) (Lv tb L) [some x, some y, some (.ref p), some (.int ((done.length : Nat) + 1)), some u, some v] m2 false := fun {C} => Evt.to (et_tst (ev_bin (ev_cb (ea_cons (ev_var rfl) (ea_cons ev_c ea_nil)) (fa_isi t1')) (ev_cb (ea_cons (ev_var rfl) (ea_cons ev_c ea_nil)) (fa_isi t2')) (fv_ne fv_eqB))) (by rw [decide_eq_true rfl]; rfl)
    refine g_ifr (k := false) (Evt.to (et_or (k := false) (l := false) (ne2 (C := .bool)) fun _ => ne2 (C := .str)) rfl) (fun z => by cases z) fun _ => ?_
    refine g_ifr (k := false) (Evt.to (et_tst (ev_bin (ev_cb (ea_cons (ev_var rfl) (ea_cons (ev_tup (ea_cons ev_c (ea_cons ev_c ea_nil)) (Nat.le_of_ble_eq_true rfl)) ea_nil)) (fa_isiUL t1')) (ev_cb (ea_cons (ev_var rfl) (ea_cons (ev_tup (ea_cons ev_c (ea_cons ev_c ea_nil)) (Nat.le_of_ble_eq_true rfl)) ea_nil)) (fa_isiUL t2')) (fv_ne fv_eqB))) (by rw [decide_eq_true rfl]; rfl)) (fun z => by cases z) fun _ => ?_
    have seqT : Evt (wTru (wCB fIsi (wCons (wVar 4) (wCons (wTup (wCons (wC (.ty "tuple")) (wCons (wC (.ty "list")) wNil))) wNil)))) (Lv tb L) [some x, some y, some (.ref p), some (.int ((done.length : Nat) + 1)), some u, some v] m2 (subTy T .tuple || (subTy T .list || false)) := et_tru (ev_cb (ea_cons (ev_var rfl) (ea_cons (ev_tup (ea_cons ev_c (ea_cons ev_c ea_nil)) (Nat.le_of_ble_eq_true rfl)) ea_nil)) (fa_isiUL t1')) tru_bl
    have next : ∀ (m3 : Mm) (ps qs : List D) (k : Nat), Sub m m3 → Sas m k ps qs → k < n1 → m3 p = some (.lst ((done ++ [.tup [u, v]]) ++ zipD (us ++ ps) (vs ++ qs))) → ∃ n', n' < n1 + n2 ∧ ∃ (done' xs ys : List D) (x4 x5 : Option D), [some x, some y, some (.ref p), some (.int ((done.length : Nat) + 1)), some u, some v] = [some x, some y, some (.ref p), some (.int (done'.length : Nat)), x4, x5] ∧ Sub m m3 ∧ m3 p = some (.lst (done' ++ zipD xs ys)) ∧ Sas m n' xs ys ∧ done'.length + n' ≤ N := by
      intro m3 ps qs k s3 hk hlt e
      refine ⟨n2 + k, by omega, done ++ [.tup [u, v]], us ++ ps, vs ++ qs, some u, some v, ?_, s3, e, h2.append hk, ?_⟩
      · rw [List.length_append]; rfl
      · rw [List.length_append]
        show done.length + 1 + _ ≤ N
        omega
    have same : ∀ m3, Sub m m3 → m3 p = some (.lst ((done ++ [.tup [u, v]]) ++ zipD us vs)) → 0 < n1 → ∃ n', n' < n1 + n2 ∧ ∃ (done' xs ys : List D) (x4 x5 : Option D), [some x, some y, some (.ref p), some (.int ((done.length : Nat) + 1)), some u, some v] = [some x, some y, some (.ref p), some (.int (done'.length : Nat)), x4, x5] ∧ Sub m m3 ∧ m3 p = some (.lst (done' ++ zipD xs ys)) ∧ Sas m n' xs ys ∧ done'.length + n' ≤ N := fun m3 s3 e hp => next m3 [] [] 0 s3 .nil hp (by rw [List.append_nil, List.append_nil]; exact e)
    have hle : ((done ++ [D.tup [u, v]]) ++ zipD us vs).length ≤ 1000000 := by
      unfold zipD
      rw [List.length_append, List.length_append, List.length_map, List.length_zip, ← hl2.1, Nat.min_self]
      show done.length + 1 + _ ≤ _
      have : 1 ≤ n1 := by cases h1 <;> omega
      omega
    cases h1 with
    | non => cases t1; exact g_if (k := false) seqT (fun z => by cases z) fun _ => g_ifr1 (k := false) (Evt.to (et_tst (ev_bin (ev_var rfl) (ev_var rfl) (fv_ne fv_eqN))) (by rfl)) (fun z => by cases z) fun _ => same m2 s2 e2 (by decide)
    | bl w => cases t1; exact g_if (k := false) seqT (fun z => by cases z) fun _ => g_ifr1 (k := false) (Evt.to (et_tst (ev_bin (ev_var rfl) (ev_var rfl) (fv_ne fv_eqB))) (by rw [decide_eq_true rfl]; rfl)) (fun z => by cases z) fun _ => same m2 s2 e2 (by decide)
    | int w => cases t1; exact g_if (k := false) seqT (fun z => by cases z) fun _ => g_ifr1 (k := false) (Evt.to (et_tst (ev_bin (ev_var rfl) (ev_var rfl) (fv_ne fv_eqI))) (by rw [decide_eq_true rfl]; rfl)) (fun z => by cases z) fun _ => same m2 s2 e2 (by decide)
    | str w => cases t1; exact g_if (k := false) seqT (fun z => by cases z) fun _ => g_ifr1 (k := false) (Evt.to (et_tst (ev_bin (ev_var rfl) (ev_var rfl) (fv_ne fv_eqS))) (by rw [decide_eq_true rfl]; rfl)) (fun z => by cases z) fun _ => same m2 s2 e2 (by decide)
    | tup hs =>
      rename_i k ps qs
      cases t1
      have hl := hs.length
      refine g_if (k := true) seqT (fun _ => ?_) fun z => by cases z
      refine g_ifr (k := false) (Evt.to (et_or (k := false) (l := false) (ne2 (C := .tuple)) fun _ => Evt.to (et_tst (ev_bin (ev_cb (ea_cons (ev_var rfl) ea_nil) fa_lenT) (ev_cb (ea_cons (ev_var rfl) ea_nil) fa_lenT) (fv_ne fv_eqI))) (by rw [decide_eq_true (by rw [hl.1])]; rfl)) rfl) (fun z => by cases z) fun _ => ?_
      refine g_extend (ev_var rfl) e2 (el_lzT (ea_cons (ev_var rfl) (ea_cons (ev_var rfl) ea_nil))) ?_ fun q m3 hq hqp s3 => ?_
      · have : (zipD ps qs).length ≤ k := by unfold zipD; rw [List.length_map, List.length_zip]; omega
        rw [sizeLine_eq]
        omega
      · refine next m3 ps qs k ((Sub.set hp (Sub.set (hq.sub s2) s2)).trans s3) hs (Nat.lt_succ_self _) ?_
        rw [s3.at, zipD_append hl2.1]; simp only [List.append_assoc]
    | lst a1 a2 hs =>
      rename_i k a c ps qs
      have hl := hs.length
      rcases t1 with ⟨rfl, _⟩ | ⟨_, ⟨kvs, z⟩ | ⟨kvs, z⟩⟩
      · refine g_if (k := true) seqT (fun _ => ?_) fun z => by cases z
        refine g_ifr (k := false) (Evt.to (et_or (k := false) (l := false) (ne2 (C := .tuple)) fun _ => Evt.to (et_tst (ev_bin (ev_cb (ea_cons (ev_var rfl) ea_nil) (fa_lenL (s2 _ _ a1))) (ev_cb (ea_cons (ev_var rfl) ea_nil) (fa_lenL (s2 _ _ a2))) (fv_ne fv_eqI))) (by rw [decide_eq_true (by rw [hl.1])]; rfl)) rfl) (fun z => by cases z) fun _ => ?_
        refine g_extend (ev_var rfl) e2 (el_lzL (ea_cons (ev_var rfl) (ea_cons (ev_var rfl) ea_nil)) (s2 _ _ a1) (s2 _ _ a2)) ?_ fun q m3 hq hqp s3 => ?_
        · have : (zipD ps qs).length ≤ k := by unfold zipD; rw [List.length_map, List.length_zip]; omega
          rw [sizeLine_eq]
          omega
        · refine next m3 ps qs k ((Sub.set hp (Sub.set (hq.sub s2) s2)).trans s3) hs (Nat.lt_succ_self _) ?_
          rw [s3.at, zipD_append hl2.1]; simp only [List.append_assoc]
      · rw [a1] at z; cases z
      · rw [a1] at z; cases z
end
end Tb
set_option Elab.async false
set_option linter.all false
set_option maxRecDepth 100000
set_option maxHeartbeats 0
namespace Tb
open PySem PySem.Spec PyProof.Rows L2 Qz Hd
-- array_mem_dec: an operator on values
local macro_rules | `(tactic| array_mem_dec) => `(tactic| with_reducible first
  | exact fv_add | exact fv_sub | exact fv_le | exact fv_lt | exact fv_gt | exact fv_ge | exact fv_eqI | exact fv_eqS | exact fv_eqB | exact fv_is | exact fv_isn | exact fv_isB | exact fv_isnB | exact fv_neg
  | exact fv_revT | exact fa_abs | exact fa_int | exact fa_lenT | exact fa_max2
  | (apply fv_mod; decide) | (apply fv_div; decide) | (apply fv_ixT; with_unfolding_all rfl)
  | (apply fv_ne; array_mem_dec) | (apply fa_isiI; with_unfolding_all rfl) | (apply fa_isiB; with_unfolding_all rfl) | (apply fa_isiU; with_unfolding_all rfl) | (apply fa_isiS; with_unfolding_all rfl) | (apply fa_isiD; with_unfolding_all rfl) | (apply fa_isiUL; with_unfolding_all rfl) | assumption)
local macro_rules | `(tactic| sizeOf_list_dec) => `(tactic| assumption)
-- array_get_dec: what an expression, a test evaluates to
local macro_rules | `(tactic| array_get_dec) => `(tactic| with_reducible first
  | exact ev_c | (apply ev_var; with_unfolding_all rfl) | exact ea_nil
  | (apply ea_cons; · array_get_dec
     · array_get_dec)
  | (apply ev_bin; · array_get_dec
     · array_get_dec
     · array_mem_dec)
  | (apply ev_un; · array_get_dec
     · array_mem_dec)
  | (apply ev_tup; · array_get_dec
     · first | with_unfolding_all decide | with_unfolding_all exact Nat.le_of_ble_eq_true rfl)
  | (apply ev_cb; · array_get_dec
     · array_mem_dec)
  | (apply ev_call; · array_get_dec
     · sizeOf_list_dec
     · with_unfolding_all rfl)
  | (apply et_tst; array_get_dec)
  | (apply et_tru; · array_get_dec
     · exact tru_bl)
  | (apply et_not; array_get_dec)
  | assumption)
local macro_rules | `(tactic| sizeOf_list_dec) => `(tactic| assumption)
mutual
def dsz : D → Nat
  | .tup xs => dszs xs + 1
  | _ => 1
def dszs : List D → Nat
  | [] => 0
  | x :: xs => dsz x + dszs xs
end
mutual
theorem sa_refl {m : Mm} : ∀ {d : D}, isPy d = true → Sa m (dsz d) d d
  | .non, _ => by unfold dsz; exact .non
  | .bl b, _ => by unfold dsz; exact .bl b
  | .int b, _ => by unfold dsz; exact .int b
  | .str b, _ => by unfold dsz; exact .str b
  | .tup xs, h => by
    unfold dsz
    unfold isPy at h
    exact .tup (sas_refl h)
  | .byt _, h => by simp [isPy] at h
  | .ty _, h => by simp [isPy] at h
  | .ref _, h => by simp [isPy] at h
  | .rol _, h => by simp [isPy] at h
theorem sas_refl {m : Mm} : ∀ {ds : List D}, isPys ds = true → Sas m (dszs ds) ds ds
  | [], _ => by unfold dszs; exact .nil
  | x :: xs, h => by
    unfold dszs
    unfold isPys at h
    rw [Bool.and_eq_true] at h
    exact .cons (sa_refl h.1) (sas_refl h.2)
end
theorem dszs_le {k : Nat} : ∀ {ds : List D}, (∀ d ∈ ds, dsz d ≤ k) → dszs ds ≤ ds.length * k
  | [], _ => Nat.zero_le _
  | x :: xs, h => by
    unfold dszs
    have h1 := h x List.mem_cons_self
    have h2 := dszs_le (ds := xs) fun d hd => h d (List.mem_cons_of_mem _ hd)
    rw [List.length_cons, Nat.succ_mul]
    omega
theorem sps_py (S : List Spot) : isPy (spsD S) = true := by
  show isPys _ = true
  refine isPys_of fun d hd => ?_
  obtain ⟨s, _, rfl⟩ := List.mem_map.mp hd
  rfl
theorem sps_sz (S : List Spot) : dsz (spsD S) ≤ S.length * 5 + 1 := by
  show dszs _ + 1 ≤ _
  have := dszs_le (k := 5) (ds := S.map Spot.d) fun d hd => by
    obtain ⟨s, _, rfl⟩ := List.mem_map.mp hd
    exact Nat.le_refl _
  rw [List.length_map] at this
  omega
theorem iD_py (xs : List Int) : isPy (iD xs) = true := isPys_ints xs
theorem iD_sz (xs : List Int) : dsz (iD xs) ≤ xs.length * 1 + 1 := by
  show dszs _ + 1 ≤ _
  have := dszs_le (k := 1) (ds := xs.map D.int) fun d hd => by
    obtain ⟨s, _, rfl⟩ := List.mem_map.mp hd
    exact Nat.le_refl _
  rw [List.length_map] at this
  omega
theorem pairs_py (xs : List (Int × Int)) : isPys (xs.map pD) = true := isPys_of fun d hd => by
  obtain ⟨s, _, rfl⟩ := List.mem_map.mp hd
  rfl
theorem pairs_shp (xs : List (Int × Int)) : SeqAt.shaped (.list (pyDs (xs.map pD))) = true := by
  rw [pyDs_map, List.map_map]
  refine shp_lst fun p hp => ?_
  obtain ⟨c, _, rfl⟩ := List.mem_map.mp hp
  exact ⟨by simp [pyD, pyDs, PyData.canLay0, PyData.canLayAll0], Nat.le_of_ble_eq_true rfl⟩
open Classical in
noncomputable def nbB (b : Bk) (t : Nat) : Bool := decide (¬ Bad b t)
open Classical in
theorem nb_iff {b : Bk} {t : Nat} : nbB b t = true ↔ ¬ Bad b t := by
  unfold nbB
  exact decide_eq_true_iff
theorem nb_false {b : Bk} {t : Nat} (h : nbB b t = false) : Bad b t := by
  by_cases q : Bad b t
  · exact q
  · rw [nb_iff.mpr q] at h
    cases h
theorem nb_less {b : Bk} {t : Nat} (h : nbB b (t + 1) = true) : nbB b t = true := nb_iff.mpr fun q => nb_iff.mp h (q.more (by omega))
noncomputable def aheadB (b : Bk) : Nat → Bool
  | 0 => true
  | i + 1 => nbB b i
theorem ahead_ok {b : Bk} {i : Nat} : (nbB b i && !aheadB b i) = false := by
  cases h : nbB b i with
  | false => rfl
  | true =>
    cases i with
    | zero => rfl
    | succ i => show (true && !nbB b i) = false; rw [nb_less h]; rfl
noncomputable def leastD (b : Bk) : Nat → D
  | 0 => .non
  | i + 1 => if (!nbB b i && Qz.isNon (leastD b i)) = true then .int (i : Nat) else leastD b i
theorem least_ok (b : Bk) : ∀ i, (leastD b i = .non ∧ ∀ t, t < i → nbB b t = true) ∨ ∃ k : Nat, k < i ∧ leastD b i = .int (k : Nat) ∧ nbB b k = false ∧ ∀ t, t < k → nbB b t = true
  | 0 => .inl ⟨rfl, fun t h => by omega⟩
  | i + 1 => by
    unfold leastD
    rcases least_ok b i with ⟨e, h⟩ | ⟨k, hk, e, h1, h2⟩
    · rw [e]
      cases q : nbB b i with
      | true =>
        refine .inl ⟨rfl, fun t ht => ?_⟩
        by_cases z : t = i
        · rw [z]; exact q
        · exact h t (by omega)
      | false => exact .inr ⟨i, Nat.lt_succ_self _, rfl, q, h⟩
    · rw [e]
      refine .inr ⟨k, by omega, ?_, h1, h2⟩
      rw [if_neg]
      rw [show Qz.isNon (.int (k : Nat)) = false from rfl, Bool.and_false]
      exact Bool.false_ne_true
def hol (xs : List Int) : Int := (xs.map fun c => ((bits c).length : Int)).sum
theorem lost_eq : ∀ (xs ys : List Int), xs.length = ys.length → xs.all cellB = true → ys.all cellB = true → hol (meet xs ys) - hol xs = (tornB xs ys).1 ∧ hol (meet xs ys) - hol ys = (tornB xs ys).2
  | [], [], _, _, _ => ⟨rfl, rfl⟩
  | [], _ :: _, h, _, _ => by cases h
  | _ :: _, [], h, _, _ => by cases h
  | x :: xs, y :: ys, h, h1, h2 => by
    rw [List.all_cons] at h1 h2
    obtain ⟨a1, b1⟩ := ba h1
    obtain ⟨a2, b2⟩ := ba h2
    obtain ⟨e1, e2⟩ := lost_eq xs ys (by simpa using h) b1 b2
    have m1 : meet (x :: xs) (y :: ys) = joined x y :: meet xs ys := rfl
    have t1 : (tornB (x :: xs) (y :: ys)).1 = (cost x y).1 + (tornB xs ys).1 := by
      unfold tornB costs
      dsimp only
      rw [List.zip_cons_cons, List.map_cons, List.map_cons, List.sum_cons]
    have t2 : (tornB (x :: xs) (y :: ys)).2 = (cost x y).2 + (tornB xs ys).2 := by
      unfold tornB costs
      dsimp only
      rw [List.zip_cons_cons, List.map_cons, List.map_cons, List.sum_cons]
    have c1 := cost_eq a1 a2
    unfold costL at c1
    rw [joined_eq a1 a2] at c1
    rw [m1, t1, t2, ← c1]
    unfold hol at e1 e2 ⊢
    rw [List.map_cons, List.sum_cons, List.map_cons, List.sum_cons, List.map_cons, List.sum_cons]
    constructor <;> (dsimp only; omega)
theorem meetL {xs ys : List Int} (hx : xs.all cellB = true) (hy : ys.all cellB = true) : (xs.zip ys).map (fun p => joinedL p.1 p.2) = meet xs ys := by
  refine List.map_congr_left fun p hp => ?_
  obtain ⟨a, c⟩ := p
  exact joined_eq (List.all_eq_true.mp hx a (List.of_mem_zip hp).1) (List.all_eq_true.mp hy c (List.of_mem_zip hp).2)
theorem cpB_parts {b : Bk} {t : Int} {xs ys : List Int} (h : cpB b t xs ys = true) : xs.all cellB = true ∧ ys.all cellB = true ∧ xs.length = ys.length := by
  unfold cpB at h
  obtain ⟨h, _⟩ := ba h
  obtain ⟨h, h3⟩ := ba h
  obtain ⟨h1, h2⟩ := ba h
  exact ⟨h1, h2, of_decide_eq_true h3⟩
section
variable {G : Gam} {ρ : Ev} {m : Mm} {Q C : Ev → Mm → Prop} {R : Rq}
theorem g_forR {wi : WI} {p : Pat} {bd : WS} {T : Wk → Mm → Prop} (I : Wk → Nat → Ev → Mm → Prop) (hi : ∀ Z P, (∀ wk m1, T wk m1 → P wk m1) → wi G ρ m Z P) (h0 : ∀ wk m1, T wk m1 → I wk 0 ρ m1) (hok : ∀ wk i ρ' m', I wk i ρ' m' → wk.ok m')
    (hs : ∀ wk i ρ' m' x, I wk i ρ' m' → wk.its[i]? = some x → ∃ ρ'', bindP p x ρ' = some ρ'' ∧ Go bd G ρ'' m' (I wk (i + 1)) (I wk (i + 1)) R) (hq : ∀ wk ρ' m', I wk wk.its.length ρ' m' → Q ρ' m') : Go (wFor wi (gPt p) bd) G ρ m Q C R := by
  intro N B Ct P Z a b' c
  refine hi _ _ fun wk m1 ht => ?_
  refine ⟨fun i ρ' m' => I wk i ρ' m' ∧ i ≤ wk.its.length, ⟨h0 wk m1 ht, Nat.zero_le _⟩, ?_⟩
  rintro i ρ' m' ⟨hI, hl⟩
  refine ⟨hok _ _ _ _ hI, ?_⟩
  by_cases h : wk.its.length ≤ i
  · have e : i = wk.its.length := Nat.le_antisymm hl h
    exact .inl ⟨h, a _ _ (hq _ _ _ (by rw [← e]; exact hI))⟩
  · have hlt : i < wk.its.length := Nat.lt_of_not_le h
    have hx : wk.its[i]? = some wk.its[i] := List.getElem?_eq_getElem hlt
    obtain ⟨ρ'', e, hb⟩ := hs wk i ρ' m' _ hI hx
    refine .inr ⟨wk.its[i], hx, ?_⟩
    unfold gPt
    rw [e]
    exact hb _ _ _ _ _ (fun ρ1 m1 q => ⟨q, hlt⟩) (fun ρ1 m1 q => ⟨q, hlt⟩) c
end
theorem iter_addR {G : Gam} {ρ : Ev} {m : Mm} {l c : WE} {w : Addr} {xs : List D} {T : D → Mm → Prop} {Z : PX} {P : Wk → Mm → Prop} (hl : Evd l G ρ m (.ref w)) (hc : Evr c G ρ m T) (h : ∀ d m', T d m' → ∃ p acc, d = .ref p ∧ m' w = some (.lst xs) ∧ m' p = some (.lst acc) ∧ xs.length + acc.length ≤ sizeLine ∧ ∀ r, Fr m' r → P ⟨xs ++ acc, okL r (xs ++ acc)⟩ (m'.set r (.lst (xs ++ acc)))) : wIter (wBin fAdd l c) G ρ m Z P := by
  refine hl _ _ (hc _ _ fun d m' t => ?_)
  obtain ⟨p, acc, rfl, e1, e2, hz, k⟩ := h d m' t
  exact fl_add e1 e2 hz _ fun r hr => ⟨_, .refl _, _, Mm.set_same, k r hr⟩
theorem ev_why {G : Gam} {ρ : Ev} {m : Mm} {n ar c : Nat} {f : Str} {a : WA} {ds : List D} {v : D} {fs : List (Str × D)} (ha : Eva a G ρ m ds) (hf : GFn G n ds m (Rx (fun _ _ => False) fun x m' => m' = m ∧ x = ⟨c, fs⟩)) (hl : fs.lookup f = some v) (hn : ds.length = ar) : Evd (wWhy c f (wCallN n ar a)) G ρ m v :=
  fun Z P h => ha _ _ ⟨hn, hf _ _ ⟨fun _ _ f => f.elim, fun x m' ⟨e1, e2⟩ => by subst e1 e2; exact ⟨rfl, v, hl, h⟩⟩⟩
section
variable {m : Mm} {L : Nat} {b : Bk}
/-- not alike(a, b), both told -/
theorem ev_alike {a c : WE} {ρ : Ev} {x y : D} {N : Nat} (ha : Evd a (Lv tb (L + 1)) ρ m x) (hc : Evd c (Lv tb (L + 1)) ρ m y) (h : Sa m N x y) (hN : N ≤ 1000000) : Evt (wNot (wTru (wCallN 45 2 (wCons a (wCons c wNil))))) (Lv tb (L + 1)) ρ m false :=
  Evt.to (et_not (et_tru (ev_call (ea_cons ha (ea_cons hc ea_nil)) (sp45 hN h)) tru_bl)) rfl
/-- what the loop over couples meets -/
def Thg (m : Mm) (x : D) : Prop := (∃ xs ys, x = cpD xs ys ∧ Sz xs.length ∧ Sz ys.length) ∨ x = .non ∨ (∃ y, x = .tup [y]) ∨ ∃ z l, x = .ref z ∧ m z = some (.lst l)
theorem thg_ok (O : b.Ok) {t : Int} (h0 : 0 ≤ t) (h9 : t ≤ 9) {x : D} (h : Thg m x) : ∃ r, Fn (Lv tb (L + 5)) 26 [b.d, .int t, x] m (.bl r) ∧ Fn (Lv tb (L + 5)) 52 [b.d, .int t, x] m (.bl r) := by
  rcases h with ⟨xs, ys, rfl, hx, hy⟩ | rfl | ⟨y, rfl⟩ | ⟨z, l, rfl, e⟩
  · exact ⟨_, sp26 (L := L) O h0 h9 xs ys hx hy, sp52 (L := L + 1) O xs ys hx hy⟩
  · exact ⟨false, sp26n (L := L) h0 h9 (sp2n (L := L + 3) 2 (T := .non) rfl (by decide)), sp52n (L := L + 4) (T := .non) rfl (by decide)⟩
  · exact ⟨false, sp26n (L := L) h0 h9 ((sp2 (L := L + 3) [y] 2).to (by rfl)), sp52l (L := L + 4) (by simp)⟩
  · exact ⟨false, sp26n (L := L) h0 h9 (sp2n (L := L + 3) 2 (T := .list) (.inl ⟨rfl, l, e⟩) (by decide)), sp52n (L := L + 4) (T := .list) (.inl ⟨rfl, l, e⟩) (by decide)⟩
theorem sp54 {x : D} {zs : List Int} (hl : zs.length ≤ 63) (hx : ∀ G, Evl (wSl (wVar 0) pNo (pAt (wC (.int 63)))) G (startD 2 [x]) m (zs.map .int)) : GFn (Lv tb (L + 12)) 54 [x] m (Rp fun d _ => d = .bl true) := by
  refine fn_gor rfl rfl ?_
  refine g_setR (er_call (ea_cons (ev_var rfl) ea_nil) (sp44 (L := L + 10) hl hx)) ?_
  rintro d m1 ⟨p, q, rfl, B, _, _, _⟩
  refine ⟨m1, .refl _, ?_⟩
  obtain ⟨l1, hb1, ep1⟩ := B.l
  refine g_seq (Q1 := fun _ _ => True) ?_ fun ρ' m' _ => ⟨m', .refl _, g_ret ev_c fun P Z h => ⟨m', .refl _, h _ _ rfl⟩⟩
  refine g_for (its := ((List.range (2 : Int).toNat).map fun i => D.int (0 + (i : Nat)))) (fun _ ρ' m' => (∃ (x2 x3 x4 x5 x6 x7 x8 x9 x10 x11 x12 x13 x14 x15 x16 x17 x18 x19 x20 : Option D), ρ' = [some x, some (.ref p), x2, x3, x4, x5, x6, x7, x8, x9, x10, x11, x12, x13, x14, x15, x16, x17, x18, x19, x20]) ∧ Chg (BagL q) m1 p m') (ei_r1 (j := 2) (by array_get_dec)) ⟨⟨_, _, _, _, _, _, _, _, _, _, _, _, _, _, _, _, _, _, _, rfl⟩, Chg.id ep1 hb1⟩ (fun _ _ _ _ => True.intro) ?_ fun _ _ _ => True.intro
  rintro turn ρ' m2 xt ⟨⟨x2, x3, x4, x5, x6, x7, x8, x9, x10, x11, x12, x13, x14, x15, x16, x17, x18, x19, x20, rfl⟩, c2⟩ hxt
  refine ⟨_, rfl, ?_⟩
  have B2 := B.chg c2
  refine g_tgR (T := fun d m3 => ∃ b : Bk, b.Ok ∧ d = .tup [b.d, .bl true, .non] ∧ Chg (BagL q) m2 p m3) (Evr.imp (er_tup (T := fun ds m3 => ∃ b : Bk, b.Ok ∧ ds = [b.d, .bl true, .non] ∧ Chg (BagL q) m2 p m3) (era_cons (er_call (ea_cons (ev_var rfl) ea_nil) (sp48 (L := L + 8) B2)) fun d m3 ⟨b, ob, e, c3⟩ => era_consD ev_c (era_consD ev_c (era_nil ⟨b, ob, by rw [e], c3⟩))) fun ds m3 ⟨b, _, e, _⟩ => by rw [e]; exact Nat.le_of_ble_eq_true rfl) fun d m3 ⟨ds, e, b, ob, e2, c3⟩ => ⟨b, ob, by rw [e, e2], c3⟩) ?_
  rintro d m3 ⟨b, O, rfl, c3⟩
  refine ⟨_, m3, m3, fun P h => ⟨rfl, h⟩, .refl _, ?_⟩
  have c23 := c2.trans c3
  refine g_seq (Q1 := fun ρ' m' => (∃ (x2 x4 x6 x7 x8 x9 x10 x11 x12 x13 x14 x15 x16 x17 x18 x19 x20 : Option D), ρ' = [some x, some (.ref p), x2, some b.d, x4, some (leastD b 3), x6, x7, x8, x9, x10, x11, x12, x13, x14, x15, x16, x17, x18, x19, x20]) ∧ Chg (BagL q) m1 p m') ?_ ?_
  · refine g_for (its := [.int 0, .int 1, .int 2]) (fun i ρ' m' => (∃ (x2 x6 x7 x8 x9 x10 x11 x12 x13 x14 x15 x16 x17 x18 x19 x20 : Option D), ρ' = [some x, some (.ref p), x2, some b.d, some (.bl (aheadB b i)), some (leastD b i), x6, x7, x8, x9, x10, x11, x12, x13, x14, x15, x16, x17, x18, x19, x20]) ∧ Chg (BagL q) m1 p m') (ei_r1 (j := 3) (by array_get_dec)) ⟨⟨_, _, _, _, _, _, _, _, _, _, _, _, _, _, _, _, rfl⟩, c23⟩ (fun _ _ _ _ => True.intro) ?_ ?_
    · rintro i ρ' m4 xi ⟨⟨x2, x6, x7, x8, x9, x10, x11, x12, x13, x14, x15, x16, x17, x18, x19, x20, rfl⟩, c4⟩ hxi
      have hi : i < 3 ∧ xi = .int (i : Nat) := by
        match i, hxi with
        | 0, h => cases h; exact ⟨by decide, rfl⟩
        | 1, h => cases h; exact ⟨by decide, rfl⟩
        | 2, h => cases h; exact ⟨by decide, rfl⟩
      obtain ⟨hi, rfl⟩ := hi
      refine ⟨_, rfl, ?_⟩
      have B4 := B.chg c4
      have t0 : (0 : Int) ≤ (i : Nat) := by omega
      have t9 : ((i : Nat) : Int) ≤ 9 := by omega
      obtain ⟨S, hS⟩ := exists_sp O t0 t9
      have hSl := hS.len O t0 t9
      have hSok := hS.ok O t0
      -- borne
      refine g_set (x := .bl (nbB b i)) ?_ ?_
      · intro Z P h
        refine (er_call (ea_cons (ev_var rfl) (ea_cons (ev_var rfl) ea_nil)) (sp51 (L := L + 6) O t0 t9) : Evr (wCallN 51 2 (wCons (wVar 3) (wCons (wVar 6) wNil))) (Lv tb (L + 11)) _ m4 _) _ _ ?_
        rintro d m5 ⟨w, xs, rfl, e5, s5, hxs⟩
        refine (el_lst ea_nil (Nat.le_of_ble_eq_true rfl) : Evl (wLst wNil) (Lv tb (L + 11)) _ m5 []) _ _ fun w2 m6 hw2 s6 => ?_
        refine fv_eqNil (s6.sets hw2 _ _ e5) s6.at (pairs_py xs) (pairs_shp xs) _ ⟨m4, s5.trans (s6.sets hw2), ?_⟩
        have e : (xs.map pD).isEmpty = nbB b i := by
          cases q : nbB b i with
          | true => rw [hxs.mpr (nb_iff.mp q)]; rfl
          | false =>
            cases xs with
            | nil => exact absurd (nb_false q) (hxs.mp rfl)
            | cons _ _ => rfl
        rw [e]
        exact h
      refine g_ifr (k := false) (Evt.to (et_or (k := false) (l := false) (Evt.to (et_and (et_tru (ev_var rfl) tru_bl) fun _ => et_not (et_tru (ev_var rfl) tru_bl)) ahead_ok) fun _ => ev_alike (L := L + 10) (ev_call (ea_cons (ev_var rfl) (ea_cons (ev_var rfl) ea_nil)) (sp22 (L := L + 1) O t0 t9 nb_iff)) (ev_var rfl) (.bl _) (by decide)) rfl) (fun z => by cases z) fun _ => ?_
      -- told_apart
      refine g_tgR (T := fun d m5 => m5 = m4 ∧ ((d = .tup [.bl (nbB b i), .tup [.str "paper", spsD S]] ∧ ¬ Bad b (i : Nat)) ∨ ∃ cp, d = .tup [.bl (nbB b i), .tup [.str "couple", cp]] ∧ CpOk b (i : Nat) cp)) (Evr.imp (er_tup (T := fun ds m5 => m5 = m4 ∧ ((ds = [.bl (nbB b i), .tup [.str "paper", spsD S]] ∧ ¬ Bad b (i : Nat)) ∨ ∃ cp, ds = [.bl (nbB b i), .tup [.str "couple", cp]] ∧ CpOk b (i : Nat) cp)) (era_consD (ev_var rfl) (era_cons (er_call (ea_cons (ev_var rfl) (ea_cons (ev_var rfl) ea_nil)) (sp32 (L := L + 1) O t0 t9 hS)) fun d m5 ⟨e, h⟩ => era_nil ⟨e, h.imp (fun ⟨e, h⟩ => ⟨by rw [e], h⟩) fun ⟨cp, e, h⟩ => ⟨cp, by rw [e], h⟩⟩)) fun ds m5 ⟨_, h⟩ => by rcases h with ⟨e, _⟩ | ⟨cp, e, _⟩ <;> (rw [e]; exact Nat.le_of_ble_eq_true rfl)) fun d m5 ⟨ds, e, e2, h⟩ => ⟨e2, h.imp (fun ⟨e3, h⟩ => ⟨by rw [e, e3], h⟩) fun ⟨cp, e3, h⟩ => ⟨cp, by rw [e, e3], h⟩⟩) ?_
      rintro d m5 ⟨rfl, h⟩
      have lst_ev : ∀ {ρ : Ev}, nth ρ 7 = some (.bl (nbB b i)) → nth ρ 5 = some (leastD b i) → nth ρ 6 = some (.int (i : Nat)) → Evd (wIf (wAnd (wNot (wTru (wVar 7))) (wTst (wBin fIs (wVar 5) (wC .non)))) (wVar 6) (wVar 5)) (Lv tb (L + 11)) ρ m5 (leastD b (i + 1)) := fun h7 h5 h6 => by
        refine Evd.to (ev_if (et_and (et_not (et_tru (ev_var h7) tru_bl)) fun _ => et_tst (ev_bin (ev_var h5) ev_c fv_is)) (fun _ => ev_var h6) fun _ => ev_var h5) ?_
        rfl
      rcases h with ⟨rfl, nb⟩ | ⟨cp, rfl, hcp⟩
      · -- a paper
        have hnb : nbB b i = true := nb_iff.mpr nb
        refine ⟨_, m5, m5, fun P h => ⟨rfl, ⟨rfl, h⟩⟩, .refl _, ?_⟩
        refine g_set (lst_ev rfl rfl rfl) ?_
        have hst : START ∈ S := (hS.m _).mpr .start
        have hpf : Fn (Lv tb (L + 11)) 30 [b.d, .int (i : Nat), spsD S] m5 .non := (sp30 (L := L + 5) O t0 t9 (S := S) (by unfold Sz; omega) hSok hS.o fun _ => hS.into nb).to (if_pos hst)
        have hpf2 : Fn (Lv tb (L + 9)) 30 [b.d, .int (i : Nat), spsD S] m5 .non := (sp30 (L := L + 3) O t0 t9 (S := S) (by unfold Sz; omega) hSok hS.o fun _ => hS.into nb).to (if_pos hst)
        have htp : Fn (Lv tb (L + 11)) 31 [b.d, .int (i : Nat), spsD S] m5 (.bl true) := sp31 (L := L + 4) ((sp30 (L := L + 4) O t0 t9 (S := S) (by unfold Sz; omega) hSok hS.o fun _ => hS.into nb).to (if_pos hst))
        have htp2 : Fn (Lv tb (L + 10)) 31 [b.d, .int (i : Nat), spsD S] m5 (.bl true) := sp31 (L := L + 3) hpf2
        refine g_ifr (k := false) (Evt.to (et_or (k := false) (l := false) (Evt.to (et_tst (ev_bin (ev_var rfl) (ev_ifd (x := .str "paper") (k := nbB b i) (et_tru (ev_var rfl) tru_bl) (fun _ => ev_c) fun z => by rw [hnb] at z; cases z) (fv_ne fv_eqS))) (by decide +kernel)) fun _ => Evt.to (et_tst (ev_bin (ev_call (ea_cons (ev_var rfl) (ea_cons (ev_var rfl) (ea_cons (ev_tup (ea_cons (ev_var rfl) (ea_cons (ev_var rfl) ea_nil)) (Nat.le_of_ble_eq_true rfl)) ea_nil))) (sp33 (L := L + 3) t0 t9 (r := true) (by decide +kernel) (fun z => absurd z (by decide +kernel)) fun _ => htp2)) ev_c fv_isnB)) rfl) rfl) (fun z => by cases z) fun _ => ?_
        refine g_ifr (k := true) (Evt.to (et_tru (ev_var rfl) tru_bl) hnb) (fun _ => ?_) fun z => by cases z
        refine g_set (ev_call (ea_cons (ev_var rfl) (ea_cons (ev_var rfl) ea_nil)) (sp53 (L := L + 6) O t0 t9 nb hS)) ?_
        have h21 : Fn (Lv tb (L + 11)) 21 [b.d, .int (i : Nat)] m5 .non := fun Z P h => sp21 (L := L + 2) O t0 t9 P Z fun x m' ⟨e, h'⟩ => by
          rcases h' with ⟨ex, _⟩ | h'
          · rw [e, ex]; exact h
          · exact absurd h'.1 nb
        refine g_setL (xs := [spsD S, .non, .bl true, .non]) (el_lst (ea_cons (ev_call (ea_cons (ev_var rfl) (ea_cons (ev_var rfl) ea_nil)) (sp27 (L := L + 2) O t0 t9 hS nb)) (ea_cons (ev_call (ea_cons (ev_var rfl) (ea_cons (ev_var rfl) (ea_cons (ev_var rfl) ea_nil))) hpf) (ea_cons (ev_call (ea_cons (ev_var rfl) (ea_cons (ev_var rfl) (ea_cons (ev_var rfl) ea_nil))) htp) (ea_cons (ev_call (ea_cons (ev_var rfl) (ea_cons (ev_var rfl) ea_nil)) h21) ea_nil)))) (Nat.le_of_ble_eq_true rfl)) fun w hw => ?_
        have c5 : Chg (BagL q) m1 p (m5.set w (.lst [spsD S, .non, .bl true, .non])) := c4.sub (Sub.fresh hw)
        have ew : (m5.set w (.lst [spsD S, .non, .bl true, .non])) w = some (.lst [spsD S, .non, .bl true, .non]) := Mm.set_same
        refine g_ifrW (k := false) (Etw.to (etw_not (etw_tru (x := .bl true) (ew_callL (ea_consL (ev_var rfl) (ea_one (el_lst (ds := [spsD S, .non, .bl true, .non]) (ea_cons (ev_var rfl) (ea_cons ev_c (ea_cons ev_c (ea_cons ev_c ea_nil)))) (Nat.le_of_ble_eq_true rfl)))) ?_) fun _ => tru_bl)) rfl) (fun z => by cases z) fun _ => ?_
        · rintro ds m6 s6 ⟨w2, rfl, e6⟩
          have hsz := sps_sz S
          exact ⟨rfl, sp45 (L := L + 10) (N := dszs [spsD S, .non, .bl true, .non] + 1) (by show dsz (spsD S) + (1 + (1 + (1 + 0))) + 1 ≤ _; omega) (.lst (s6 _ _ ew) e6 (sas_refl (by show (isPy (spsD S) && _) = true; rw [sps_py]; rfl)))⟩
        obtain ⟨r, rfl, hr⟩ := hS.first O t0
        have hpf3 : Fn (Lv tb (L + 11)) 30 [b.d, .int (i : Nat), spsD r] (m5.set w (.lst [spsD (START :: r), .non, .bl true, .non])) (.tup [.int (-1), .str "first"]) :=
          (sp30 (L := L + 5) O t0 t9 (S := r) (by rw [List.length_cons] at hSl; unfold Sz; omega) (fun s hs => hSok s (List.mem_cons_of_mem _ hs)) (List.pairwise_cons.mp hS.o).2 fun z => absurd z hr).to (if_neg hr)
        refine g_ifr (k := false) (Evt.to (et_and (k := decide ((1 : Int) < (((START :: r).map Spot.d).length : Nat))) (l := false) (et_tst (ev_bin (ev_cb (ea_cons (ev_var rfl) ea_nil) fa_lenT) ev_c fv_gt)) fun _ => Evt.to (et_tst (ev_bin (ev_call (ea_cons (ev_var rfl) (ea_cons (ev_var rfl) (ea_cons (d := spsD r) (Evd.to (ev_slT (ev_var rfl) (ep_at ev_c) ep_no) ?_) ea_nil))) hpf3) (by array_get_dec) (fv_ne (fv_eqPy rfl rfl (by decide +kernel) (by decide +kernel))))) (by decide +kernel)) (Bool.and_false _)) (fun z => by cases z) fun _ => ?_
        · rw [show (1 : Int) = ((1 : Nat) : Int) from rfl, cut_k_none]
          rfl
        · exact g_cont ⟨⟨_, _, _, _, _, _, _, _, _, _, _, _, _, _, _, _, rfl⟩, c5⟩
      · -- a couple
        obtain ⟨hbad, xs, ys, rfl, hcb, hxl0, hyl0⟩ := id hcp
        have hxl : Sz xs.length := by unfold Sz; omega
        have hyl : Sz ys.length := by unfold Sz; omega
        have hnb : nbB b i = false := by
          cases q : nbB b i with
          | true => exact absurd hbad (nb_iff.mp q)
          | false => rfl
        refine ⟨_, m5, m5, fun P h => ⟨rfl, ⟨rfl, h⟩⟩, .refl _, ?_⟩
        refine g_set (lst_ev rfl rfl rfl) ?_
        have h26 : ∀ {m : Mm}, Fn (Lv tb (L + 10)) 26 [b.d, .int (i : Nat), cpD xs ys] m (.bl true) := fun {m} => (sp26 (L := L + 5) O t0 t9 xs ys hxl hyl).to (by rw [hcb])
        refine g_ifr (k := false) (Evt.to (et_or (k := false) (l := false) (Evt.to (et_tst (ev_bin (ev_var rfl) (ev_ifd (x := .str "couple") (k := nbB b i) (et_tru (ev_var rfl) tru_bl) (fun z => by rw [hnb] at z; cases z) fun _ => ev_c) (fv_ne fv_eqS))) (by decide +kernel)) fun _ => Evt.to (et_tst (ev_bin (ev_call (ea_cons (ev_var rfl) (ea_cons (ev_var rfl) (ea_cons (ev_tup (ea_cons (ev_var rfl) (ea_cons (ev_var rfl) ea_nil)) (Nat.le_of_ble_eq_true rfl)) ea_nil))) (sp33 (L := L + 3) t0 t9 (r := true) (by decide +kernel) (fun _ => h26) fun z => absurd rfl z)) ev_c fv_isnB)) rfl) rfl) (fun z => by cases z) fun _ => ?_
        refine g_ifr (k := false) (Evt.to (et_tru (ev_var rfl) tru_bl) hnb) (fun z => by cases z) fun _ => ?_
        refine g_setR (er_call (ea_cons (ev_var rfl) (ea_cons (ev_var rfl) ea_nil)) (sp21 (L := L + 2) O t0 t9)) ?_
        rintro d m6 ⟨rfl, h⟩
        refine ⟨m6, .refl _, ?_⟩
        rcases h with ⟨_, h⟩ | h
        · exact absurd hbad h
        clear hcp hcb hxl hyl hxl0 hyl0 h26
        obtain ⟨_, xs, ys, rfl, hcb, hxl0, hyl0⟩ := h
        have hxl : Sz xs.length := by unfold Sz; omega
        have hyl : Sz ys.length := by unfold Sz; omega
        obtain ⟨pa, pb, pl⟩ := cpB_parts hcb
        have h52 : Fn (Lv tb (L + 11)) 52 [b.d, .int (i : Nat), cpD xs ys] m6 (.bl true) := (sp52 (L := L + 7) O xs ys hxl hyl).to (by rw [hcb])
        refine g_ifr (k := false) (Evt.to (et_or (k := false) (l := false) (Evt.to (et_not (et_tru (ev_call (ea_cons (ev_var rfl) (ea_cons (ev_var rfl) (ea_cons (ev_var rfl) ea_nil))) h52) tru_bl)) rfl) fun _ => Evt.to (et_tst (ev_bin (x := .str "couple") (ev_why (fs := [("why", .str "couple")]) (ea_cons (ev_var rfl) (ea_cons (ev_var rfl) ea_nil)) (sp27r (L := L + 2) O t0 t9 hbad) (by rfl) rfl) ev_c (fv_ne fv_eqS))) (by decide +kernel)) rfl) (fun z => by cases z) fun _ => ?_
        refine g_set (x := iD (meet xs ys)) ?_ ?_
        · rw [← meetL pa pb]
          exact ev_cbl (ea_one (el_mapA _ .int (fun p : Int × Int => joinedL p.1 p.2) (ei_zipI (ea_cons (ev_bin (ev_var rfl) ev_c (fv_ixT (v := iD xs) rfl)) (ea_cons (ev_bin (ev_var rfl) ev_c (fv_ixT (v := iD ys) rfl)) ea_nil))) True.intro (zip_le xs ys hxl).le fun x hx => ⟨_, rfl, ev_call (ea_cons (ev_var rfl) (ea_cons (ev_var rfl) ea_nil)) (sp41 (L := L + 9) _ _)⟩)) fun p m' e => fa_tupL e
        have hml : Sz (meet xs ys).length := by unfold meet; rw [List.length_map]; exact zip_le xs ys hxl
        refine g_setL (xs := [hol (meet xs ys), hol xs, hol ys].map .int) (el_mapA iD .int hol (xs := [meet xs ys, xs, ys]) (ei_tup (ev_tup (ea_cons (ev_var rfl) (ea_cons (ev_bin (ev_var rfl) ev_c (fv_ixT (v := iD xs) rfl)) (ea_cons (ev_bin (ev_var rfl) ev_c (fv_ixT (v := iD ys) rfl)) ea_nil))) (Nat.le_of_ble_eq_true rfl))) True.intro (Nat.le_of_ble_eq_true rfl) fun zs hz => ⟨_, rfl, ev_cbl (ea_one (el_mapA .int .int (fun c => ((bits c).length : Int)) (xs := zs) (ei_tup (ev_var rfl)) True.intro ?_ fun c hc => ⟨_, rfl, ev_bits rfl (sp40 (L := L + 10) c)⟩)) fun p m' e => fa_sumL e⟩) fun w hw => ?_
        · have : zs = meet xs ys ∨ zs = xs ∨ zs = ys := by simpa using hz
          rcases this with rfl | rfl | rfl
          · exact hml.le
          · exact hxl.le
          · exact hyl.le
        have ew : (m6.set w (.lst ([hol (meet xs ys), hol xs, hol ys].map .int))) w = some (.lst ([hol (meet xs ys), hol xs, hol ys].map .int)) := Mm.set_same
        obtain ⟨lo1, lo2⟩ := lost_eq xs ys pl pa pb
        refine g_set (x := pD (tornB xs ys)) (Evd.to (ev_tup (ea_cons (ev_bin (ev_bin (ev_var rfl) ev_c (fv_ixL (v := .int (hol (meet xs ys))) ew rfl)) (ev_bin (ev_var rfl) ev_c (fv_ixL (v := .int (hol xs)) ew rfl)) fv_sub) (ea_cons (ev_bin (ev_bin (ev_var rfl) ev_c (fv_ixL (v := .int (hol (meet xs ys))) ew rfl)) (ev_bin (ev_var rfl) ev_c (fv_ixL (v := .int (hol ys)) ew rfl)) fv_sub) ea_nil)) (Nat.le_of_ble_eq_true rfl)) (by rw [lo1, lo2])) ?_
        have c7 : Chg (BagL q) m1 p (m6.set w (.lst ([hol (meet xs ys), hol xs, hol ys].map .int))) := c4.sub (Sub.fresh hw)
        generalize m6.set w (.lst ([hol (meet xs ys), hol xs, hol ys].map .int)) = m7 at c7 ⊢
        refine g_ifrW (k := false) (Etw.to (etw_not (etw_tru (x := .bl true) (ew_callL (ea_LL (xs := [iD (meet xs ys), pD (tornB xs ys)]) (ys := [iD (meet xs ys), pD (tornB xs ys)]) (el_lst (ea_cons (ev_call (ea_cons (ev_bin (ev_var rfl) ev_c (fv_ixT (v := iD xs) rfl)) (ea_cons (ev_bin (ev_var rfl) ev_c (fv_ixT (v := iD ys) rfl)) ea_nil)) (sp24 (L := L + 9) xs ys hxl)) (ea_cons (ev_call (ea_cons (ev_bin (ev_var rfl) ev_c (fv_ixT (v := iD xs) rfl)) (ea_cons (ev_bin (ev_var rfl) ev_c (fv_ixT (v := iD ys) rfl)) ea_nil)) (sp25 (L := L + 8) xs ys hxl)) ea_nil)) (Nat.le_of_ble_eq_true rfl)) fun m' s => el_lst (ea_cons (ev_var rfl) (ea_cons (ev_var rfl) ea_nil)) (Nat.le_of_ble_eq_true rfl)) ?_) fun _ => tru_bl)) rfl) (fun z => by cases z) fun _ => ?_
        · rintro ds m8 s8 ⟨w1, w2, rfl, e1, e2⟩
          have hsz := iD_sz (meet xs ys)
          have hl500 : (meet xs ys).length ≤ 500 := by unfold meet; rw [List.length_map, List.length_zip]; omega
          exact ⟨rfl, sp45 (L := L + 10) (N := dszs [iD (meet xs ys), pD (tornB xs ys)] + 1) (by show dsz (iD (meet xs ys)) + (3 + 0) + 1 ≤ _; omega) (.lst e1 e2 (sas_refl (by show (isPy (iD (meet xs ys)) && _) = true; rw [iD_py]; rfl)))⟩
        have c7' := c7
        have B7 := B.chg c7
        obtain ⟨l7, hb7, ep7⟩ := B7.l
        refine g_setR (T := fun d m8 => ∃ w z, d = .ref w ∧ m8 w = some (.lst [cpD xs ys, cpD ys xs, .tup [iD xs], .ref z, .non, cpD xs xs]) ∧ m8 z = some (.lst [iD xs, iD ys]) ∧ w ≠ p ∧ z ≠ p ∧ Sub m7 m8) (Evr.imp (er_lst (T := fun ds m8 => ∃ z, ds = [cpD xs ys, cpD ys xs, .tup [iD xs], .ref z, .non, cpD xs xs] ∧ m8 z = some (.lst [iD xs, iD ys]) ∧ z ≠ p ∧ Sub m7 m8) (era_consD (ev_var rfl) (era_consD (ev_un (ev_var rfl) fv_revT) (era_consD (Evd.to (ev_slT (ev_var rfl) ep_no (ep_at ev_c)) rfl) (era_consL (el_cb (ea_cons (ev_var rfl) ea_nil) fal_listT) fun z m8 hz s8 => era_consD ev_c (era_consD (ev_tup (ea_cons (ev_bin (ev_var rfl) ev_c (fv_ixT (v := iD xs) rfl)) (ea_cons (ev_bin (ev_var rfl) ev_c (fv_ixT (v := iD xs) rfl)) ea_nil)) (Nat.le_of_ble_eq_true rfl)) (era_nil ⟨z, rfl, s8.at, (hz.ne ep7).symm, s8.sets hz⟩)))))) fun ds m8 ⟨z, e, _⟩ => by rw [e]; exact Nat.le_of_ble_eq_true rfl) fun d m8 ⟨ds, m9, w, ed, ⟨z, e, e2, hzp, s9⟩, hw, em⟩ => ⟨w, z, ed, by rw [em, e]; exact Mm.set_same, by rw [em, Mm.set_ne (hw.ne e2)]; exact e2, (hw.ne (s9 _ _ ep7)).symm, hzp, by rw [em]; exact s9.trans (Sub.fresh hw)⟩) ?_
        rintro d m8 ⟨w, z, rfl, ew8, ez8, hwp, hzp, s8⟩
        refine ⟨m8, .refl _, ?_⟩
        have c8 := c7.sub s8
        have B8 := B.chg c8
        -- the loop over couples
        have it4 : ∀ {ρ : Ev}, nth ρ 1 = some (.ref p) → nth ρ 3 = some b.d → ∀ Z P, (∀ its m9, (its = [.int 0, .int 1, .int 2, .int 3] ∧ m9 = m8) → P ⟨its, fun _ => True⟩ m9) → wRange1 (wCons (wC (.int 4)) wNil) (Lv tb (L + 11)) ρ m8 Z P := fun h1 h3 Z P k => (ei_r1 (j := 4) (ea_cons ev_c ea_nil) : Evi (wRange1 (wCons (wC (.int 4)) wNil)) (Lv tb (L + 11)) _ m8 _ (fun _ => True)) Z P (k _ _ ⟨rfl, rfl⟩)
        have hcomp : ∀ {ρ : Ev}, (∀ y, nth (sto (wip ρ [20]) 20 y) 1 = some (.ref p)) → (∀ y, nth (sto (wip ρ [20]) 20 y) 3 = some b.d) → nth ρ 1 = some (.ref p) → nth ρ 3 = some b.d → Evr (wComp (wRange1 (wCons (wC (.int 4)) wNil)) (.nm 20) wTrue (wTup (wCons (wCallN 47 3 (wCons (wVar 1) (wCons (wVar 3) (wCons (wC (.int 2)) wNil)))) (wCons (wCallN 47 3 (wCons (wVar 1) (wCons (wVar 3) (wCons (wC (.int 2)) wNil)))) wNil))) [20]) (Lv tb (L + 11)) ρ m8 fun x m9 => ∃ c acc, x = .ref c ∧ m9 c = some (.lst acc) ∧ acc.length = 4 ∧ Chg (BagL q) m8 p m9 ∧ ∀ y ∈ acc, ∃ xs ys, y = cpD xs ys ∧ Sz xs.length ∧ Sz ys.length := fun g1 g3 h1 h3 => by
          refine Evr.imp (er_compR (T := fun its m9 => its = [.int 0, .int 1, .int 2, .int 3] ∧ m9 = m8) (it4 h1 h3) (fun its m9 ⟨e, _⟩ => by rw [e]; exact Nat.le_of_ble_eq_true rfl) (fun its i acc m' => its.length = 4 ∧ Chg (BagL q) m8 p m' ∧ ∀ y ∈ acc, ∃ xs ys, y = cpD xs ys ∧ Sz xs.length ∧ Sz ys.length) (fun its m9 ⟨e1, e2⟩ => ⟨by rw [e1]; rfl, by rw [e2]; exact (Chg.id B8.l.choose_spec.2 B8.l.choose_spec.1), fun y hy => by cases hy⟩) ?_) ?_
          · rintro its m9 ⟨rfl, rfl⟩ j acc m' xj ⟨hl4, hch, hacc⟩ hxj
            refine ⟨_, rfl, ?_⟩
            have B9 := B8.chg hch
            refine Evr.imp (er_tup (T := fun ds m10 => ∃ xs ys, ds = [iD xs, iD ys] ∧ Sz xs.length ∧ Sz ys.length ∧ Chg (BagL q) m' p m10) (era_cons (er_call (ea_cons (ev_var (g1 _)) (ea_cons (ev_var (g3 _)) (ea_cons ev_c ea_nil))) (sp47 (L := L + 7) O B9 (most := 2) (by decide) (by decide))) fun d m10 ⟨xs, ed, hx2, c10⟩ => era_cons (er_call (ea_cons (ev_var (g1 _)) (ea_cons (ev_var (g3 _)) (ea_cons ev_c ea_nil))) (sp47 (L := L + 7) O (B9.chg c10) (most := 2) (by decide) (by decide))) fun d' m11 ⟨ys, ed', hy2, c11⟩ => era_nil ⟨xs, ys, by rw [ed, ed'], by unfold Sz; omega, by unfold Sz; omega, c10.trans c11⟩) fun ds m10 ⟨xs, ys, e, _⟩ => by rw [e]; exact Nat.le_of_ble_eq_true rfl) ?_
            rintro d m10 ⟨ds, rfl, xs, ys, rfl, hx2, hy2, c10⟩
            refine ⟨hl4, hch.trans c10, fun y hy => ?_⟩
            rcases List.mem_append.mp hy with hy | hy
            · exact hacc y hy
            · rw [List.mem_singleton] at hy
              exact ⟨xs, ys, hy, hx2, hy2⟩
          · rintro d m9 ⟨c, its, acc, m10, rfl, hc, rfl, hl, hl4, hch, hacc⟩
            obtain ⟨l9, _, ep9⟩ := hch.at
            exact ⟨c, acc, rfl, Mm.set_same, by rw [hl, hl4], hch.new (hch.fr hc) (hc.ne ep9).symm, hacc⟩
        refine g_forR (T := fun wk m9 => ∃ a its, wk = ⟨its, okL a its⟩ ∧ m9 a = some (.lst its) ∧ Chg (BagL q) m1 p m9 ∧ ∀ y ∈ its, Thg m9 y) (fun wk _ ρ' m9 => (∃ (x2 x7 x8 x9 x10 x11 x12 x13 x14 x15 x16 x17 x18 x19 x20 : Option D), ρ' = [some x, some (.ref p), x2, some b.d, some (.bl (nbB b i)), some (leastD b (i + 1)), some (.int (i : Nat)), x7, x8, x9, x10, x11, x12, x13, x14, x15, x16, x17, x18, x19, x20]) ∧ ∃ a its, wk = ⟨its, okL a its⟩ ∧ m9 a = some (.lst its) ∧ Chg (BagL q) m1 p m9 ∧ ∀ y ∈ its, Thg m9 y) ?_ (fun wk m9 h => ⟨⟨_, _, _, _, _, _, _, _, _, _, _, _, _, _, _, rfl⟩, h⟩) (fun wk i ρ' m9 ⟨_, a, its, e, ea, _⟩ => by rw [e]; exact ea) ?_ ?_
        · intro Z P k
          refine iter_addR (xs := [cpD xs ys, cpD ys xs, .tup [iD xs], .ref z, .non, cpD xs xs]) (ev_var rfl) (hcomp (fun _ => rfl) (fun _ => rfl) rfl rfl) ?_
          rintro d m9 ⟨c, acc, rfl, ec, hl4, c9, hacc⟩
          have ew9 := c9.keep ew8 hwp
          have ez9 := c9.keep ez8 hzp
          refine ⟨c, acc, rfl, ew9, ec, by rw [hl4]; exact Nat.le_of_ble_eq_true rfl, fun r hr => k _ _ ⟨r, _, rfl, Mm.set_same, (c8.trans c9).sub (Sub.fresh hr), fun y hy => ?_⟩⟩
          rcases List.mem_append.mp hy with hy | hy
          · simp only [List.mem_cons, List.not_mem_nil, or_false] at hy
            rcases hy with rfl | rfl | rfl | rfl | rfl | rfl
            · exact .inl ⟨_, _, rfl, hxl, hyl⟩
            · exact .inl ⟨_, _, rfl, hyl, hxl⟩
            · exact .inr (.inr (.inl ⟨_, rfl⟩))
            · exact .inr (.inr (.inr ⟨z, _, rfl, Sub.fresh hr _ _ ez9⟩))
            · exact .inr (.inl rfl)
            · exact .inl ⟨_, _, rfl, hxl, hxl⟩
          · obtain ⟨xs, ys, e, h1, h2⟩ := hacc y hy
            exact .inl ⟨xs, ys, e, h1, h2⟩
        · rintro wk j ρ' m9 y ⟨⟨x2, x7, x8, x9, x10, x11, x12, x13, x14, x15, x16, x17, x18, x19, x20, rfl⟩, a, its, rfl, ea, c9, ht⟩ hy
          refine ⟨_, rfl, ?_⟩
          obtain ⟨r, h26, h52⟩ := thg_ok (L := L + 6) O t0 t9 (ht y (List.mem_of_getElem? hy))
          exact g_ifr1 (k := false) (ev_alike (L := L + 10) (ev_call (ea_cons (ev_var rfl) (ea_cons (ev_var rfl) (ea_cons (ev_var rfl) ea_nil))) h26) (ev_call (ea_cons (ev_var rfl) (ea_cons (ev_var rfl) (ea_cons (ev_var rfl) ea_nil))) h52) (.bl r) (by decide)) (fun z => by cases z) fun _ => ⟨⟨_, _, _, _, _, _, _, _, _, _, _, _, _, _, _, rfl⟩, a, its, rfl, ea, c9, ht⟩
        · rintro wk ρ' m9 ⟨⟨x2, x7, x8, x9, x10, x11, x12, x13, x14, x15, x16, x17, x18, x19, x20, rfl⟩, a, its, rfl, ea, c9, ht⟩
          exact ⟨⟨_, _, _, _, _, _, _, _, _, _, _, _, _, _, _, _, rfl⟩, c9⟩
    · rintro ρ' m4 ⟨⟨x2, x6, x7, x8, x9, x10, x11, x12, x13, x14, x15, x16, x17, x18, x19, x20, rfl⟩, c4⟩
      exact ⟨⟨_, _, _, _, _, _, _, _, _, _, _, _, _, _, _, _, _, rfl⟩, c4⟩
  · rintro ρ' m4 ⟨⟨x2, x4, x6, x7, x8, x9, x10, x11, x12, x13, x14, x15, x16, x17, x18, x19, x20, rfl⟩, c4⟩
    refine ⟨m4, .refl _, ?_⟩
    have st := least_ok b 3
    refine g_if (k := false) ?_ (fun z => by cases z) fun _ => g_next ⟨⟨_, _, _, _, _, _, _, _, _, _, _, _, _, _, _, _, _, _, _, rfl⟩, c4⟩
    rcases st with ⟨e, _⟩ | ⟨k, hk, e, h1, h2⟩
    · exact Evt.to (et_and (k := false) (l := false) (Evt.to (et_tst (ev_bin (ev_var rfl) ev_c fv_isn)) (by rw [e]; rfl)) fun z => by cases z) rfl
    · have h23 : Fn (Lv tb (L + 11)) 23 [b.d] m4 (.int ((k : Int) - 1)) := sp23 (L := L) O (by omega) fun t ht => ⟨fun hnb => by
        by_cases z : t < k
        · exact z
        · exact absurd ((nb_false h1).more (by omega)) hnb, fun z => nb_iff.mp (h2 t z)⟩
      refine Evt.to (et_and (k := true) (l := false) (Evt.to (et_tst (ev_bin (ev_var rfl) ev_c fv_isn)) (by rw [e]; rfl)) fun _ => ev_alike (L := L + 10) (ev_call (ea_cons (ev_var rfl) ea_nil) h23) (ev_bin (x := .int (k : Nat)) (ev_var (by rw [← e]; rfl)) ev_c fv_sub) (.int _) (by decide)) rfl
end
end Tb
set_option Elab.async false
set_option linter.all false
set_option maxRecDepth 100000
set_option maxHeartbeats 0
namespace Hd
open PySem PySem.Spec PyProof.Rows L2 Qz
theorem lawS (m : Mm) (x : D) (ns : List Int) (h : Scr m ns x) : GFn (Lv tb (11 + 1)) 54 [x] m (Rp fun d _ => d = .bl true) :=
  Tb.sp54 (L := 0) (zs := ns.take 63) (by rw [List.length_take]; omega) fun G => h.cut rfl
theorem lawAt {w : World} {mg : PySem.Str → Option Value} {fa : Addr} {h : Heap} {K : PySem.W.Frag} (KX : K.In h) (G : h.Ns mainGlobals mg) (c : LW.SaysH w h K) (hmg : mg ("law" : PySem.Str) = some (.ref fa)) : LamX.LawAtS PySem.Challenge.rw_casetape_k93_tables_that_bear_torn_holes w K (CX PR w) (4 * (11 + 1)) 63 "script" mg fa h :=
  law_at (Lw := LW) (d := d54) (n := 54) (j := 57) rfl bodies rfl rfl rfl ⟨rfl, rfl⟩ rfl (fun K f fd F => fun s v => (FunD.bindsA (ps := ["script"]) F fun _ _ _ _ _ _ us hl => match us, hl with | [_], _ => rfl) s [v] rfl) lawS KX G c hmg
end Hd
open PySem PySem.W PySem.Calls PyProof.Rows
theorem PySem.Challenge.cw_casetape_k93_tables_that_bear_torn_holes_holds : PySem.Challenge.rw_casetape_k93_tables_that_bear_torn_holes.Holds := by
  w_on; o_law
  refine HandSHeadRun.head_any (r := OpenLaw.row PySem.Challenge.rw_casetape_k93_tables_that_bear_torn_holes) (q := view (OpenLaw.row PySem.Challenge.rw_casetape_k93_tables_that_bear_torn_holes).prog [71]) (H := Hd.hk) (ob := Hd.ob) (M := 30000) (loose := Hd.loose) (d := HandSHeadRun.topDef (OpenLaw.row PySem.Challenge.rw_casetape_k93_tables_that_bear_torn_holes).prog 71) (kwd := []) Hd.ob_eq
    (by kernel_rfl) (fun s => by kernel_rfl) Hd.run (by kernel_rfl) (by kernel_rfl) (by kernel_rfl) (by rfl) (by first | assumption | decide +kernel) (by decide +kernel) ⟨rfl, rfl, rfl, rfl, rfl, by decide +kernel⟩ ?hw ?hc
  case hw => w_witness2
  case hc =>
    refine LamX.walk_ofTsE (l := PySem.Challenge.rw_casetape_k93_tables_that_bear_torn_holes) (n := 63) (k := 48) (x := "script") (CX := fun w => L2.CX Hd.PR w) rfl (by decide) (by kernel_rfl) ⟨rfl, by decide, by decide⟩ ?F ?X
    case F =>
      intro w mg fa h Y G hmg0
      obtain ⟨K, KX, c⟩ := Y
      have hmg : mg ("law" : PySem.Str) = some (.ref fa) := by
        have e : (HandSHeadRun.topDef (OpenLaw.row PySem.Challenge.rw_casetape_k93_tables_that_bear_torn_holes).prog 71).name = ("law" : PySem.Str) := by kernel_rfl
        rw [← e]
        exact hmg0
      exact ⟨K, KX, Hd.lawAt KX G c hmg⟩
    case X => exact fun _ _ _ _ _ ⟨_, _, _, _, _, _, _, _, _, _, _, _, z⟩ => z
