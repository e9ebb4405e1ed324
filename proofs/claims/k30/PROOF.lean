import PyProof.Rows.All
import Wide.All
import OpenK.AllK
import Wide.FinOn
import HandS.ForMost
import HandS.Lambda
import HandS.IsInst
import HandS.TupAny
import HandS.SortInts
import HandS.TupMul
import KE.KTupSum
import HandS.Ends
import HandS.Iter
import HandS.Conv
import HandS.Text
import HandS.SetFor
import HandS.Replace
import HandS.Strs
import HandS.TupLe
import PyProof.TupleOfSeq
import HandS.Sort
import HandS.SortOrd
import HandS.SortRule
import HandS.Star
import PyProof.ListStr
import KE.GoesEnum
import KE.SortKeyHeap
import KE.KNestM
import HandS.EndTab
import KE.DatumOrd
import KE.SortData
import PyProof.Claim2Refuses
import HandS.Deep
import HandS.Defaults
import HandS.MakeKwOnly
import PySem.Challenge.RW_overturn_k30_whole_recorded_precedents
set_option Elab.async false
set_option maxRecDepth 100000
set_option maxHeartbeats 4000000
set_option linter.all false
/-! Dl: data, how it is represented, the state of a def's names at the level of data. -/
namespace Dl
open PySem L2
/-- data: what a value is worth -/
inductive D where
  | non | bl (b : Bool) | int (i : Int) | str (x : Str) | tup (xs : List D) | lst (xs : List D) | rol (xs : List D) | ptr (a : Addr)
  /-- a tuple whose object is known to have no dict of its own -/
  | ftp (xs : List D)
mutual
def Rep (K : PySem.W.Frag) (F : Hp) : D → V → Prop
  | .non, v => v = .non
  | .bl b, v => v = .bl b
  | .int i, v => v = .int i
  | .str x, v => v = .str x
  | .tup ds, v => ∃ a vs, v = .ref a ∧ SqT K F a vs ∧ Reps K F ds vs
  | .lst ds, v => ∃ a vs, v = .ref a ∧ F a = some (.lst vs) ∧ Reps K F ds vs
  | .rol ds, v => ∃ a vs, v = .ref a ∧ SqL K F a vs ∧ Reps K F ds vs
  | .ptr a, v => v = .ref a
  | .ftp ds, v => ∃ a vs ob, v = .ref a ∧ F a = some (.frz ob (.tup vs)) ∧ ob.dict = none ∧ Reps K F ds vs
def Reps (K : PySem.W.Frag) (F : Hp) : List D → List V → Prop
  | [], vs => vs = []
  | d :: ds, vs => ∃ v ws, vs = v :: ws ∧ Rep K F d v ∧ Reps K F ds ws
end
theorem same_rd {F F' : Hp} {a : Addr} {u : HO} (e : Same F F') (h : Rd F a u) : Rd F' a u := by
  rcases h with h | ⟨o, h⟩
  · exact Or.inl (e a _ h)
  · exact Or.inr ⟨o, e a _ h⟩
theorem same_l {K : PySem.W.Frag} {F F' : Hp} {a : Addr} {xs : List V} (e : Same F F') (h : SqL K F a xs) : SqL K F' a xs := by
  rcases h with h | h
  · exact Or.inl (same_rd e h)
  · exact Or.inr h
theorem same_t {K : PySem.W.Frag} {F F' : Hp} {a : Addr} {xs : List V} (e : Same F F') (h : SqT K F a xs) : SqT K F' a xs := by
  rcases h with h | h
  · exact Or.inl (same_rd e h)
  · exact Or.inr h
mutual
theorem Rep.mono {K : PySem.W.Frag} {F F' : Hp} (e : Same F F') : ∀ (d : D) (v : V), Rep K F d v → Rep K F' d v
  | .non, v, h => by simpa only [Rep] using h
  | .bl b, v, h => by simpa only [Rep] using h
  | .int i, v, h => by simpa only [Rep] using h
  | .str x, v, h => by simpa only [Rep] using h
  | .tup ds, v, h => by
    simp only [Rep] at h ⊢
    obtain ⟨a, vs, h1, h2, h3⟩ := h
    exact ⟨a, vs, h1, same_t e h2, Reps.mono e ds vs h3⟩
  | .lst ds, v, h => by
    simp only [Rep] at h ⊢
    obtain ⟨a, vs, h1, h2, h3⟩ := h
    exact ⟨a, vs, h1, e _ _ h2, Reps.mono e ds vs h3⟩
  | .rol ds, v, h => by
    simp only [Rep] at h ⊢
    obtain ⟨a, vs, h1, h2, h3⟩ := h
    exact ⟨a, vs, h1, same_l e h2, Reps.mono e ds vs h3⟩
  | .ptr a, v, h => by simpa only [Rep] using h
  | .ftp ds, v, h => by
    simp only [Rep] at h ⊢
    obtain ⟨a, vs, ob, h1, h2, h4, h3⟩ := h
    exact ⟨a, vs, ob, h1, e _ _ h2, h4, Reps.mono e ds vs h3⟩
theorem Reps.mono {K : PySem.W.Frag} {F F' : Hp} (e : Same F F') : ∀ (ds : List D) (vs : List V), Reps K F ds vs → Reps K F' ds vs
  | [], vs, h => by simpa only [Reps] using h
  | d :: ds, vs, h => by
    simp only [Reps] at h ⊢
    obtain ⟨v, ws, h1, h2, h3⟩ := h
    exact ⟨v, ws, h1, Rep.mono e d v h2, Reps.mono e ds ws h3⟩
end
section
variable {K : PySem.W.Frag} {F : Hp}
theorem Reps.nil : Reps K F [] [] := by simp only [Reps]
theorem Reps.cons {d : D} {ds : List D} {v : V} {vs : List V} (h : Rep K F d v) (t : Reps K F ds vs) : Reps K F (d :: ds) (v :: vs) := by
  simp only [Reps]
  exact ⟨v, vs, rfl, h, t⟩
theorem Reps.uncons {d : D} {ds : List D} {vs : List V} (h : Reps K F (d :: ds) vs) : ∃ v ws, vs = v :: ws ∧ Rep K F d v ∧ Reps K F ds ws := by
  simpa only [Reps] using h
theorem Reps.unnil {vs : List V} (h : Reps K F [] vs) : vs = [] := by simpa only [Reps] using h
theorem Reps.len : ∀ {ds : List D} {vs : List V}, Reps K F ds vs → vs.length = ds.length
  | [], vs, h => by rw [h.unnil]; rfl
  | d :: ds, vs, h => by
    obtain ⟨v, ws, rfl, _, h3⟩ := h.uncons
    simp only [List.length_cons, Reps.len h3]
theorem Reps.get : ∀ {ds : List D} {vs : List V} {i : Nat} {d : D}, Reps K F ds vs → ds[i]? = some d → ∃ v, vs[i]? = some v ∧ Rep K F d v
  | [], vs, i, d, h, e => by simp at e
  | d' :: ds, vs, 0, d, h, e => by
    obtain ⟨v, ws, rfl, h2, h3⟩ := h.uncons
    simp at e
    subst e
    exact ⟨v, rfl, h2⟩
  | d' :: ds, vs, i + 1, d, h, e => by
    obtain ⟨v, ws, rfl, h2, h3⟩ := h.uncons
    simp only [List.getElem?_cons_succ] at e ⊢
    exact Reps.get h3 e
theorem Reps.append : ∀ {ds es : List D} {vs ws : List V}, Reps K F ds vs → Reps K F es ws → Reps K F (ds ++ es) (vs ++ ws)
  | [], es, vs, ws, h, g => by rw [h.unnil]; exact g
  | d :: ds, es, vs, ws, h, g => by
    obtain ⟨v, us, rfl, h2, h3⟩ := h.uncons
    exact Reps.cons h2 (Reps.append h3 g)
theorem Reps.take : ∀ {ds : List D} {vs : List V} (n : Nat), Reps K F ds vs → Reps K F (ds.take n) (vs.take n)
  | ds, vs, 0, _ => by simp only [List.take_zero]; exact Reps.nil
  | [], vs, n + 1, h => by rw [h.unnil]; exact Reps.nil
  | d :: ds, vs, n + 1, h => by
    obtain ⟨v, us, rfl, h2, h3⟩ := h.uncons
    simp only [List.take_succ_cons]
    exact Reps.cons h2 (Reps.take n h3)
theorem Reps.drop : ∀ {ds : List D} {vs : List V} (n : Nat), Reps K F ds vs → Reps K F (ds.drop n) (vs.drop n)
  | ds, vs, 0, h => by simpa only [List.drop_zero] using h
  | [], vs, n + 1, h => by rw [h.unnil]; exact Reps.nil
  | d :: ds, vs, n + 1, h => by
    obtain ⟨v, us, rfl, h2, h3⟩ := h.uncons
    simp only [List.drop_succ_cons]
    exact Reps.drop n h3
theorem Reps.set : ∀ {ds : List D} {vs : List V} {d : D} {v : V} (n : Nat), Reps K F ds vs → Rep K F d v → Reps K F (ds.set n d) (vs.set n v)
  | [], vs, d, v, n, h, g => by rw [h.unnil]; exact Reps.nil
  | d' :: ds, vs, d, v, 0, h, g => by
    obtain ⟨v', us, rfl, h2, h3⟩ := h.uncons
    exact Reps.cons g h3
  | d' :: ds, vs, d, v, n + 1, h, g => by
    obtain ⟨v', us, rfl, h2, h3⟩ := h.uncons
    simp only [List.set_cons_succ]
    exact Reps.cons h2 (Reps.set n h3 g)
theorem Reps.erase : ∀ {ds : List D} {vs : List V} (n : Nat), Reps K F ds vs → Reps K F (ds.eraseIdx n) (vs.eraseIdx n)
  | [], vs, n, h => by rw [h.unnil]; exact Reps.nil
  | d' :: ds, vs, 0, h => by
    obtain ⟨v', us, rfl, h2, h3⟩ := h.uncons
    exact h3
  | d' :: ds, vs, n + 1, h => by
    obtain ⟨v', us, rfl, h2, h3⟩ := h.uncons
    simp only [List.eraseIdx_cons_succ]
    exact Reps.cons h2 (Reps.erase n h3)
theorem Reps.ints : ∀ {ns : List Int} {vs : List V}, Reps K F (ns.map D.int) vs → vs = ns.map V.int
  | [], vs, h => h.unnil
  | n :: ns, vs, h => by
    obtain ⟨v, ws, rfl, h2, h3⟩ := Reps.uncons h
    simp only [Rep] at h2
    rw [h2, Reps.ints h3]
    rfl
theorem Reps.of_ints : ∀ (ns : List Int), Reps K F (ns.map D.int) (ns.map V.int)
  | [] => Reps.nil
  | n :: ns => Reps.cons (by simp only [Rep]) (Reps.of_ints ns)
end
/-! ### what an owned object holds -/
inductive Cn where
  | lst (ds : List D) | dic (kvs : List (Key × D)) | dicT (kvs : List (List Key × D))
def CRep (K : PySem.W.Frag) (F : Hp) : Cn → HO → Prop
  | .lst ds, o => ∃ vs, o = .lst vs ∧ Reps K F ds vs
  | .dic kvs, o => ∃ ws, o = .dK ws ∧ Paired (fun (p : Key × D) (q : Key × V) => p.1 = q.1 ∧ Rep K F p.2 q.2) kvs ws
  | .dicT kvs, o => ∃ ws, o = .dT ws ∧ Paired (fun (p : List Key × D) (q : List Key × V) => p.1 = q.1 ∧ Rep K F p.2 q.2) kvs ws
theorem CRep.mono {K : PySem.W.Frag} {F F' : Hp} (e : Same F F') {x : Cn} {o : HO} (h : CRep K F x o) : CRep K F' x o := by
  cases x with
  | lst ds =>
    obtain ⟨vs, h1, h2⟩ := h
    exact ⟨vs, h1, Reps.mono e _ _ h2⟩
  | dic kvs =>
    obtain ⟨ws, h1, h2⟩ := h
    exact ⟨ws, h1, Paired.mapP h2 fun a b z => ⟨z.1, Rep.mono e _ _ z.2⟩⟩
  | dicT kvs =>
    obtain ⟨ws, h1, h2⟩ := h
    exact ⟨ws, h1, Paired.mapP h2 fun a b z => ⟨z.1, Rep.mono e _ _ z.2⟩⟩
/-! ### a store: changing objects by their addresses -/
inductive Nd where
  | lst (ds : List D) | dic (kvs : List (Key × D))
abbrev Sto := Addr → Option Nd
def NRep (K : PySem.W.Frag) (F : Hp) : Nd → HO → Prop
  | .lst ds, o => ∃ vs, o = .lst vs ∧ Reps K F ds vs
  | .dic kvs, o => ∃ ws, o = .dK ws ∧ Paired (fun (p : Key × D) (q : Key × V) => p.1 = q.1 ∧ Rep K F p.2 q.2) kvs ws
theorem NRep.mono {K : PySem.W.Frag} {F F' : Hp} (e : Same F F') {x : Nd} {o : HO} (h : NRep K F x o) : NRep K F' x o := by
  cases x with
  | lst ds =>
    obtain ⟨vs, h1, h2⟩ := h
    exact ⟨vs, h1, Reps.mono e _ _ h2⟩
  | dic kvs =>
    obtain ⟨ws, h1, h2⟩ := h
    exact ⟨ws, h1, Paired.mapP h2 fun a b z => ⟨z.1, Rep.mono e _ _ z.2⟩⟩
/-! ### the tables of the defs that make a lambda -/
/-- the defs that make one -/
def lamDefs : List Str := ["apportion"]
def LTabs (K : PySem.W.Frag) : List (Addr × Str) := lamDefs.filterMap fun x => (PySem.W.tabIn K x).map fun p => (p.2, x ++ ".<locals>.<lambda>")
/-- neither a table nor a code object -/
def NT : HO → Prop
  | .tbl _ => False
  | .ext _ => False
  | _ => True
structure TOk (K : PySem.W.Frag) (F H : Hp) : Prop where
  tb : LamX.Tabs (LTabs K) H
  tf : ∀ p ∈ LTabs K, F p.1 = none
theorem CRep.nt {K : PySem.W.Frag} {F : Hp} {x : Cn} {o : HO} (h : CRep K F x o) : NT o := by
  cases x with
  | lst ds => obtain ⟨vs, rfl, _⟩ := h; trivial
  | dic kvs => obtain ⟨vs, rfl, _⟩ := h; trivial
  | dicT kvs => obtain ⟨vs, rfl, _⟩ := h; trivial
theorem NRep.nt {K : PySem.W.Frag} {F : Hp} {x : Nd} {o : HO} (h : NRep K F x o) : NT o := by
  cases x with
  | lst ds => obtain ⟨vs, rfl, _⟩ := h; trivial
  | dic kvs => obtain ⟨vs, rfl, _⟩ := h; trivial
section
variable {K : PySem.W.Frag} {F H : Hp} {p : Addr} {o u : HO}
theorem TOk.nt (T : TOk K F H) {q : Addr × Str} (hq : q ∈ LTabs K) (h : H q.1 = some o) (n : NT o) : False := by
  obtain ⟨ps, h1, _⟩ := T.tb q hq
  rw [h1] at h
  cases h
  exact n
theorem TOk.fresh (T : TOk K F H) (h : H p = none) : TOk K F (upd H p o) := ⟨T.tb.ext fun b u e => by rw [upd_ne (ne_of_none e h)]; exact e, T.tf⟩
theorem TOk.alloc (T : TOk K F H) (h : H p = none) : TOk K (upd F p o) (upd H p o) := ⟨(T.fresh h).tb, fun q hq => by
  obtain ⟨ps, h1, _⟩ := T.tb q hq
  rw [upd_ne (ne_of_none h1 h)]
  exact T.tf q hq⟩
theorem TOk.frz (T : TOk K F H) (h : H p = some o) (n : NT o) : TOk K (upd F p u) H := ⟨T.tb, fun q hq => by
  by_cases e : q.1 = p
  · exact (T.nt hq (by rw [e]; exact h) n).elim
  · rw [upd_ne e]
    exact T.tf q hq⟩
theorem TOk.put (T : TOk K F H) (h : H p = some o) (n : NT o) : TOk K F (upd H p u) := ⟨fun q hq => by
  obtain ⟨ps, h1, h2, h3⟩ := T.tb q hq
  refine ⟨ps, ?_, h2, fun pos cv hc => ?_⟩
  · rw [upd_ne fun e => T.nt hq (by rw [e]; exact h) n]
    exact h1
  · obtain ⟨c, e1, e2⟩ := h3 pos cv hc
    refine ⟨c, e1, ?_⟩
    rw [upd_ne fun e => ?_]
    · exact e2
    · rw [e, h] at e2
      cases e2
      exact n, T.tf⟩
end
/-- a name's place: nothing known, frozen data, an object of its own (io: a parameter that the caller gets back) -/
inductive Sl where
  | no | frz (d : D) | own (io : Bool) (x : Cn) | sto (T : Sto)
abbrev DS := List Sl
structure Ct where
  F0 : Hp
  Z : Hp
  ios : List (Nat × Addr)
def SlOk (K : PySem.W.Frag) (c : Ct) (F H : Hp) (s : Sl) (o : Option V) : Prop :=
  match s with
  | .no => True
  | .frz d => ∃ v, o = some v ∧ Rep K F d v
  | .own _ x => ∃ l ho, o = some (.ref l) ∧ F l = none ∧ c.Z l = none ∧ H l = some ho ∧ CRep K F x ho
  | .sto _ => False
/-- an object of the store -/
structure NdOk (K : PySem.W.Frag) (c : Ct) (F H : Hp) (σ : L2.St) (δ : DS) (a : Addr) (nd : Nd) : Prop where
  f : F a = none
  z : c.Z a = none
  h : ∃ ho, H a = some ho ∧ NRep K F nd ho
  o : ∀ (j : Nat) (io : Bool) (x : Cn), δ[j]? = some (.own io x) → σ[j]? ≠ some (some (.ref a))
/-- the names' places, behind them the store, if there is one -/
structure LenOk (σ : L2.St) (δ : DS) : Prop where
  le : σ.length ≤ δ.length
  hid : ∀ (i : Nat) (s : Sl), σ.length ≤ i → δ[i]? = some s → ∃ T, s = .sto T
structure StOk (K : PySem.W.Frag) (c : Ct) (F : Hp) (σ : L2.St) (H : Hp) (δ : DS) : Prop where
  sub0 : Same c.F0 F
  sub : Same F H
  fz : ∀ a o, c.Z a = some o → H a = some o ∧ F a = none
  len : LenOk σ δ
  sl : ∀ (i : Nat) (s : Sl) (o : Option V), δ[i]? = some s → σ[i]? = some o → SlOk K c F H s o
  dis : ∀ (i j : Nat) (l : Addr) (io : Bool) (x : Cn) (io' : Bool) (x' : Cn), δ[i]? = some (.own io x) → δ[j]? = some (.own io' x') → σ[i]? = some (some (.ref l)) → σ[j]? = some (some (.ref l)) → i = j
  io : ∀ p ∈ c.ios, (∃ x, δ[p.1]? = some (.own true x)) ∧ σ[p.1]? = some (some (.ref p.2))
  tt : TOk K F H
  tz : ∀ p ∈ LTabs K, c.Z p.1 = none
  st : ∀ (i : Nat) (T : Sto), δ[i]? = some (.sto T) → ∀ a nd, T a = some nd → NdOk K c F H σ δ a nd
theorem same_upd {F : Hp} {p : Addr} {o : HO} (h : F p = none) : Same F (upd F p o) := fun a u e => by
  rw [upd_ne (ne_of_none e h)]
  exact e
section
variable {K : PySem.W.Frag} {c : Ct} {F H : Hp} {σ : L2.St} {δ : DS}
theorem SlOk.mono {F' H' : Hp} {s : Sl} {o : Option V} (e : Same F F') (hk : ∀ l, o = some (.ref l) → F l = none → c.Z l = none → F' l = none ∧ ∀ ho, H l = some ho → H' l = some ho) (h : SlOk K c F H s o) : SlOk K c F' H' s o := by
  cases s with
  | no => trivial
  | frz d =>
    obtain ⟨v, h1, h2⟩ := h
    exact ⟨v, h1, Rep.mono e _ _ h2⟩
  | own io x =>
    obtain ⟨l, ho, h1, h2, h3, h4, h5⟩ := h
    obtain ⟨k1, k2⟩ := hk l h1 h2 h3
    exact ⟨l, ho, h1, k1, h3, k2 ho h4, h5.mono e⟩
  | sto T => exact h
theorem getset {α : Type} {xs : List α} {i j : Nat} {x y : α} (h : (xs.set i x)[j]? = some y) : (j = i ∧ y = x) ∨ (j ≠ i ∧ xs[j]? = some y) := by
  by_cases e : i = j
  · subst e
    rw [List.getElem?_set] at h
    simp only [if_true] at h
    split at h
    · exact Or.inl ⟨rfl, (Option.some.inj h).symm⟩
    · cases h
  · rw [List.getElem?_set_ne e] at h
    exact Or.inr ⟨Ne.symm e, h⟩
theorem LenOk.lt (L : LenOk σ δ) {i : Nat} {s : Sl} (h : δ[i]? = some s) (n : ∀ T, s ≠ .sto T) : i < σ.length := by
  rcases Nat.lt_or_ge i σ.length with g | g
  · exact g
  · obtain ⟨T, e⟩ := L.hid i s g h
    exact absurd e (n T)
theorem LenOk.set (L : LenOk σ δ) {σ' : L2.St} {i : Nat} {s : Sl} (e : σ'.length = σ.length) (n : ∀ T, δ[i]? ≠ some (.sto T)) : LenOk σ' (δ.set i s) := by
  refine ⟨by rw [e, List.length_set]; exact L.le, fun j t hj h => ?_⟩
  rw [e] at hj
  rcases getset h with ⟨rfl, _⟩ | ⟨_, h⟩
  · have hl : j < δ.length := by
      have := (List.getElem?_eq_some_iff.mp h).1
      rwa [List.length_set] at this
    obtain ⟨T, q⟩ := L.hid j δ[j] hj (List.getElem?_eq_getElem hl)
    exact absurd (by rw [List.getElem?_eq_getElem hl, q]) (n T)
  · exact L.hid j t hj h
theorem NdOk.mono {F' H' : Hp} {a : Addr} {nd : Nd} (h : NdOk K c F H σ δ a nd) (e : Same F F') (hf : F' a = none) (hh : ∀ o, H a = some o → H' a = some o) : NdOk K c F' H' σ δ a nd := by
  obtain ⟨ho, h1, h2⟩ := h.h
  exact ⟨hf, h.z, ⟨ho, hh _ h1, h2.mono e⟩, h.o⟩
theorem StOk.at (S : StOk K c F σ H δ) {i : Nat} {s : Sl} (h : δ[i]? = some s) (n : ∀ T, s ≠ .sto T := by nofun) : ∃ o, σ[i]? = some o ∧ SlOk K c F H s o := by
  have hl' : i < σ.length := S.len.lt h n
  exact ⟨σ[i], List.getElem?_eq_getElem hl', S.sl i s _ h (List.getElem?_eq_getElem hl')⟩
/-- a new object that is never changed -/
theorem StOk.alloc (S : StOk K c F σ H δ) {p : Addr} {o : HO} (h : H p = none) : Same F (upd F p o) ∧ StOk K c (upd F p o) σ (upd H p o) δ := by
  have hF : F p = none := S.sub.free h
  have hs := same_upd (o := o) hF
  refine ⟨hs, S.sub0.trans hs, fun a u e => ?_, fun a u e => ?_, S.len, fun i s q h1 h2 => ?_, S.dis, S.io, S.tt.alloc h, S.tz, fun i T hi a nd ha => ?_⟩
  · by_cases ha : a = p
    · subst ha
      rw [upd_same] at e ⊢
      exact e
    · rw [upd_ne ha] at e ⊢
      exact S.sub a u e
  · obtain ⟨h1, h2⟩ := S.fz a u e
    have ha : a ≠ p := ne_of_none h1 h
    rw [upd_ne ha, upd_ne ha]
    exact ⟨h1, h2⟩
  · have q0 := S.sl i s q h1 h2
    cases s with
    | no => trivial
    | frz d =>
      obtain ⟨v, k1, k2⟩ := q0
      exact ⟨v, k1, Rep.mono hs _ _ k2⟩
    | own io x =>
      obtain ⟨l, ho, k1, k2, k3, k4, k5⟩ := q0
      have hl : l ≠ p := ne_of_none k4 h
      exact ⟨l, ho, k1, by rw [upd_ne hl]; exact k2, k3, by rw [upd_ne hl]; exact k4, k5.mono hs⟩
    | sto T => exact q0
  · have N := S.st i T hi a nd ha
    obtain ⟨ho, k1, _⟩ := N.h
    have hl : a ≠ p := ne_of_none k1 h
    exact N.mono hs (by rw [upd_ne hl]; exact N.f) fun o e => by rw [upd_ne hl]; exact e
/-- nobody's -/
structure Free (c : Ct) (F : Hp) (σ : L2.St) (δ : DS) (p : Addr) : Prop where
  f : F p = none
  z : c.Z p = none
  o : ∀ (i : Nat) (io : Bool) (x : Cn), δ[i]? = some (.own io x) → σ[i]? ≠ some (some (.ref p))
  s : ∀ (i : Nat) (T : Sto), δ[i]? = some (.sto T) → T p = none
/-- a new object that is nobody's -/
theorem StOk.fresh (S : StOk K c F σ H δ) {p : Addr} {o : HO} (h : H p = none) : StOk K c F σ (upd H p o) δ ∧ Free c F σ δ p := by
  have hF : F p = none := S.sub.free h
  have hZ : c.Z p = none := by
    cases q : c.Z p with
    | none => rfl
    | some u =>
      rw [(S.fz p u q).1] at h
      cases h
  refine ⟨⟨S.sub0, fun a u e => ?_, fun a u e => ?_, S.len, fun i s q h1 h2 => ?_, S.dis, S.io, S.tt.fresh h, S.tz, fun i T hi a nd ha => ?_⟩, hF, hZ, fun i io x h1 h2 => ?_, fun i T hi => ?_⟩
  · rw [upd_ne (ne_of_none e hF)]
    exact S.sub a u e
  · obtain ⟨h1, h2⟩ := S.fz a u e
    rw [upd_ne (ne_of_none h1 h)]
    exact ⟨h1, h2⟩
  · have q0 := S.sl i s q h1 h2
    cases s with
    | no => trivial
    | frz d => exact q0
    | own io x =>
      obtain ⟨l, ho, k1, k2, k3, k4, k5⟩ := q0
      exact ⟨l, ho, k1, k2, k3, by rw [upd_ne (ne_of_none k4 h)]; exact k4, k5⟩
    | sto T => exact q0
  · have N := S.st i T hi a nd ha
    obtain ⟨ho, k1, _⟩ := N.h
    exact N.mono (Same.refl _) N.f fun o e => by rw [upd_ne (ne_of_none e h)]; exact e
  · obtain ⟨l, ho, k1, k2, k3, k4, k5⟩ := S.sl i _ _ h1 h2
    cases k1
    rw [k4] at h
    cases h
  · cases q : T p with
    | none => rfl
    | some nd =>
      obtain ⟨ho, k1, _⟩ := (S.st i T hi p nd q).h
      rw [k1] at h
      cases h
/-- an object that is nobody's is frozen as it stands -/
theorem StOk.freeze (S : StOk K c F σ H δ) {p : Addr} {o : HO} (h : H p = some o) (fr : Free c F σ δ p) (n : NT o := by trivial) : Same F (upd F p o) ∧ StOk K c (upd F p o) σ H δ := by
  have hs := same_upd (o := o) fr.f
  refine ⟨hs, S.sub0.trans hs, fun a u e => ?_, fun a u e => ?_, S.len, fun i s q h1 h2 => ?_, S.dis, S.io, S.tt.frz h n, S.tz, fun i T hi a nd ha => ?_⟩
  · by_cases ha : a = p
    · subst ha
      rw [upd_same] at e
      rw [← e]
      exact h
    · rw [upd_ne ha] at e
      exact S.sub a u e
  · have ha : a ≠ p := fun z => by
      subst z
      rw [fr.z] at e
      cases e
    rw [upd_ne ha]
    exact S.fz a u e
  · have q0 := S.sl i s q h1 h2
    cases s with
    | no => trivial
    | frz d =>
      obtain ⟨v, k1, k2⟩ := q0
      exact ⟨v, k1, Rep.mono hs _ _ k2⟩
    | own io x =>
      obtain ⟨l, ho, k1, k2, k3, k4, k5⟩ := q0
      have hl : l ≠ p := fun z => by
        subst z
        rw [k1] at h2
        exact fr.o i io x h1 h2
      exact ⟨l, ho, k1, by rw [upd_ne hl]; exact k2, k3, k4, k5.mono hs⟩
    | sto T => exact q0
  · have N := S.st i T hi a nd ha
    have hl : a ≠ p := fun z => by
      subst z
      rw [fr.s i T hi] at ha
      cases ha
    exact N.mono hs (by rw [upd_ne hl]; exact N.f) fun o e => e
/-- is no parameter that the caller gets back, nor the store -/
def notIo (δ : DS) (i : Nat) : Prop := (∀ x, δ[i]? ≠ some (.own true x)) ∧ ∀ T, δ[i]? ≠ some (.sto T)
/-- a place is forgotten -/
theorem StOk.forget (S : StOk K c F σ H δ) {i : Nat} (n : notIo δ i) : StOk K c F σ H (δ.set i .no) := by
  refine ⟨S.sub0, S.sub, S.fz, S.len.set rfl n.2, fun j s o h1 h2 => ?_, fun j k l io x io' x' h1 h2 h3 h4 => ?_, fun p hp => ?_, S.tt, S.tz, fun j T hj a nd ha => ?_⟩
  · rcases getset h1 with ⟨_, rfl⟩ | ⟨_, h1⟩
    · trivial
    · exact S.sl j s o h1 h2
  · rcases getset h1 with ⟨_, e⟩ | ⟨_, h1⟩
    · cases e
    · rcases getset h2 with ⟨_, e⟩ | ⟨_, h2⟩
      · cases e
      · exact S.dis j k l io x io' x' h1 h2 h3 h4
  · obtain ⟨⟨x, h1⟩, h2⟩ := S.io p hp
    have e : i ≠ p.1 := fun z => by
      subst z
      exact n.1 x h1
    exact ⟨⟨x, by rw [List.getElem?_set_ne e]; exact h1⟩, h2⟩
  · rcases getset hj with ⟨_, e⟩ | ⟨_, hj⟩
    · cases e
    · have N := S.st j T hj a nd ha
      refine ⟨N.f, N.z, N.h, fun k io x hk => ?_⟩
      rcases getset hk with ⟨_, e⟩ | ⟨_, hk⟩
      · cases e
      · exact N.o k io x hk
/-- name = frozen data -/
theorem StOk.asg (S : StOk K c F σ H δ) {i : Nat} (n : notIo δ i) {d : D} {v : V} (r : Rep K F d v) : StOk K c F (σ.set i (some v)) H (δ.set i (.frz d)) := by
  refine ⟨S.sub0, S.sub, S.fz, S.len.set (List.length_set ..) n.2, fun j s o h1 h2 => ?_, fun j k l io x io' x' h1 h2 h3 h4 => ?_, fun p hp => ?_, S.tt, S.tz, fun j T hj a nd ha => ?_⟩
  · rcases getset h1 with ⟨e, rfl⟩ | ⟨e, h1⟩
    · subst e
      rcases getset h2 with ⟨_, rfl⟩ | ⟨e, _⟩
      · exact ⟨v, rfl, r⟩
      · exact absurd rfl e
    · rcases getset h2 with ⟨e', _⟩ | ⟨_, h2⟩
      · exact absurd e' e
      · exact S.sl j s o h1 h2
  · rcases getset h1 with ⟨_, e⟩ | ⟨e1, h1⟩
    · cases e
    · rcases getset h2 with ⟨_, e⟩ | ⟨e2, h2⟩
      · cases e
      · rw [List.getElem?_set_ne (Ne.symm e1)] at h3
        rw [List.getElem?_set_ne (Ne.symm e2)] at h4
        exact S.dis j k l io x io' x' h1 h2 h3 h4
  · obtain ⟨⟨x, h1⟩, h2⟩ := S.io p hp
    have e : i ≠ p.1 := fun z => by
      subst z
      exact n.1 x h1
    exact ⟨⟨x, by rw [List.getElem?_set_ne e]; exact h1⟩, by rw [List.getElem?_set_ne e]; exact h2⟩
  · rcases getset hj with ⟨_, e⟩ | ⟨_, hj⟩
    · cases e
    · have N := S.st j T hj a nd ha
      refine ⟨N.f, N.z, N.h, fun k io x hk => ?_⟩
      rcases getset hk with ⟨_, e⟩ | ⟨e, hk⟩
      · cases e
      · rw [List.getElem?_set_ne (Ne.symm e)]
        exact N.o k io x hk
/-- name = an object that was nobody's -/
theorem StOk.asgO (S : StOk K c F σ H δ) {i : Nat} (n : notIo δ i) {x : Cn} {p : Addr} {o : HO} (fr : Free c F σ δ p) (h : H p = some o) (r : CRep K F x o) : StOk K c F (σ.set i (some (.ref p))) H (δ.set i (.own false x)) := by
  refine ⟨S.sub0, S.sub, S.fz, S.len.set (List.length_set ..) n.2, fun j s q h1 h2 => ?_, fun j k l io x1 io' x1' h1 h2 h3 h4 => ?_, fun q hp => ?_, S.tt, S.tz, fun j T hj a nd ha => ?_⟩
  · rcases getset h1 with ⟨e, rfl⟩ | ⟨e, h1⟩
    · subst e
      rcases getset h2 with ⟨_, rfl⟩ | ⟨e, _⟩
      · exact ⟨p, o, rfl, fr.f, fr.z, h, r⟩
      · exact absurd rfl e
    · rcases getset h2 with ⟨e', _⟩ | ⟨_, h2⟩
      · exact absurd e' e
      · exact S.sl j s q h1 h2
  · rcases getset h1 with ⟨e1, e⟩ | ⟨e1, h1⟩
    · rcases getset h2 with ⟨e2, _⟩ | ⟨e2, g2⟩
      · rw [e1, e2]
      · rw [List.getElem?_set_ne (Ne.symm e2)] at h4
        rcases getset h3 with ⟨_, e3⟩ | ⟨e3, _⟩
        · cases e3
          exact absurd h4 (fr.o k io' x1' g2)
        · exact absurd e1 e3
    · rw [List.getElem?_set_ne (Ne.symm e1)] at h3
      rcases getset h2 with ⟨e2, e⟩ | ⟨e2, g2⟩
      · rcases getset h4 with ⟨_, e3⟩ | ⟨e3, _⟩
        · cases e3
          exact absurd h3 (fr.o j io x1 h1)
        · exact absurd e2 e3
      · rw [List.getElem?_set_ne (Ne.symm e2)] at h4
        exact S.dis j k l io x1 io' x1' h1 g2 h3 h4
  · obtain ⟨⟨x1, h1⟩, h2⟩ := S.io q hp
    have e : i ≠ q.1 := fun z => by
      subst z
      exact n.1 x1 h1
    exact ⟨⟨x1, by rw [List.getElem?_set_ne e]; exact h1⟩, by rw [List.getElem?_set_ne e]; exact h2⟩
  · rcases getset hj with ⟨_, e⟩ | ⟨_, hj⟩
    · cases e
    · have N := S.st j T hj a nd ha
      have hap : a ≠ p := fun z => by
        subst z
        rw [fr.s j T hj] at ha
        cases ha
      refine ⟨N.f, N.z, N.h, fun k io x hk => ?_⟩
      rcases getset hk with ⟨e0, e⟩ | ⟨e, hk⟩
      · intro z
        rcases getset z with ⟨_, e1⟩ | ⟨e1, _⟩
        · cases e1
          exact hap rfl
        · exact e1 e0
      · rw [List.getElem?_set_ne (Ne.symm e)]
        exact N.o k io x hk
/-- an owned object at a place -/
theorem StOk.own (S : StOk K c F σ H δ) {i : Nat} {io : Bool} {x : Cn} (h : δ[i]? = some (.own io x)) : ∃ l ho, σ[i]? = some (some (.ref l)) ∧ F l = none ∧ c.Z l = none ∧ H l = some ho ∧ CRep K F x ho := by
  obtain ⟨o, h1, l, ho, rfl, h2, h3, h4, h5⟩ := S.at h
  exact ⟨l, ho, h1, h2, h3, h4, h5⟩
/-- it is changed -/
theorem StOk.put (S : StOk K c F σ H δ) {i : Nat} {io : Bool} {x y : Cn} {l : Addr} {o : HO} (h : δ[i]? = some (.own io x)) (hl : σ[i]? = some (some (.ref l))) (r : CRep K F y o) : StOk K c F σ (upd H l o) (δ.set i (.own io y)) := by
  obtain ⟨l', ho, h1, h2, h3, h4, h5⟩ := S.own h
  have e : l' = l := by
    rw [h1] at hl
    cases hl
    rfl
  subst e
  have hi : i < δ.length := (List.getElem?_eq_some_iff.mp h).1
  refine ⟨S.sub0, fun a u e => ?_, fun a u e => ?_, S.len.set rfl (fun T e => by rw [h] at e; cases e), fun j s q k1 k2 => ?_, fun j k l io x1 io' x1' k1 k2 k3 k4 => ?_, fun p hp => ?_, S.tt.put h4 h5.nt, S.tz, fun j T hj a nd ha => ?_⟩
  · rw [upd_ne (ne_of_none e h2)]
    exact S.sub a u e
  · have ha : a ≠ l' := ne_of_none e h3
    rw [upd_ne ha]
    exact S.fz a u e
  · rcases getset k1 with ⟨e, rfl⟩ | ⟨e, k1⟩
    · subst e
      rw [hl] at k2
      cases k2
      exact ⟨l', o, rfl, h2, h3, upd_same, r⟩
    · have q0 := S.sl j s q k1 k2
      cases s with
      | no => trivial
      | frz d => exact q0
      | own io x =>
        obtain ⟨m, ho, m1, m2, m3, m4, m5⟩ := q0
        have hm : m ≠ l' := fun z => by
          subst z
          rw [m1] at k2
          exact e (S.dis j i m _ _ _ _ k1 h k2 hl)
        exact ⟨m, ho, m1, m2, m3, by rw [upd_ne hm]; exact m4, m5⟩
      | sto T => exact q0
  · have f : ∀ {j : Nat} {io1 io2 : Bool} {x1 : Cn}, (δ.set i (.own io1 y))[j]? = some (.own io2 x1) → ∃ io x1, δ[j]? = some (.own io x1) := fun {j _ io x1} g => by
      rcases getset g with ⟨e, _⟩ | ⟨_, g⟩
      · exact ⟨_, _, by rw [e]; exact h⟩
      · exact ⟨_, _, g⟩
    obtain ⟨_, _, g1⟩ := f k1
    obtain ⟨_, _, g2⟩ := f k2
    exact S.dis j k l _ _ _ _ g1 g2 k3 k4
  · obtain ⟨⟨x1, k1⟩, k2⟩ := S.io p hp
    refine ⟨?_, k2⟩
    by_cases e : i = p.1
    · rw [← e] at k1
      rw [h] at k1
      cases k1
      exact ⟨y, by rw [← e, List.getElem?_set_self hi]⟩
    · exact ⟨x1, by rw [List.getElem?_set_ne e]; exact k1⟩
  · rcases getset hj with ⟨_, e⟩ | ⟨_, hj⟩
    · cases e
    · have N := S.st j T hj a nd ha
      have hal : a ≠ l' := fun z => by
        subst z
        exact N.o i io x h hl
      refine ⟨N.f, N.z, ?_, fun k io1 x1 hk => ?_⟩
      · obtain ⟨ho1, q1, q2⟩ := N.h
        exact ⟨ho1, by rw [upd_ne hal]; exact q1, q2⟩
      · rcases getset hk with ⟨e0, e⟩ | ⟨e, hk⟩
        · rw [e0]
          exact N.o i io x h
        · exact N.o k io1 x1 hk
/-- it is frozen -/
theorem StOk.fix (S : StOk K c F σ H δ) {i : Nat} {ds : List D} (h : δ[i]? = some (.own false (.lst ds))) : ∃ l F', σ[i]? = some (some (.ref l)) ∧ Same F F' ∧ StOk K c F' σ H (δ.set i (.frz (.lst ds))) ∧ Rep K F' (.lst ds) (.ref l) := by
  obtain ⟨l, ho, h1, h2, h3, h4, vs, rfl, h5⟩ := S.own h
  have hi : i < δ.length := (List.getElem?_eq_some_iff.mp h).1
  have n : notIo δ i := by
    refine ⟨fun x e => ?_, fun T e => ?_⟩
    · rw [h] at e
      cases e
    · rw [h] at e
      cases e
  have S1 := S.forget n
  have fr : Free c F σ (δ.set i .no) l := ⟨h2, h3, fun j io x k1 k2 => by
    rcases getset k1 with ⟨_, e⟩ | ⟨e, k1⟩
    · cases e
    · exact e (S.dis j i l _ _ _ _ k1 h k2 h1), fun j T hj => by
    rcases getset hj with ⟨_, e⟩ | ⟨_, hj⟩
    · cases e
    · cases q : T l with
      | none => rfl
      | some nd => exact absurd h1 ((S.st j T hj l nd q).o i _ _ h)⟩
  obtain ⟨s2, S2⟩ := S1.freeze h4 fr
  have r : Rep K (upd F l (.lst vs)) (.lst ds) (.ref l) := by
    simp only [Rep]
    exact ⟨l, vs, rfl, upd_same, Reps.mono s2 _ _ h5⟩
  refine ⟨l, _, h1, s2, ?_, r⟩
  have n2 : notIo (δ.set i .no) i := ⟨fun x e => by
    rcases getset e with ⟨_, e⟩ | ⟨e, _⟩
    · cases e
    · exact e rfl, fun T e => by
    rcases getset e with ⟨_, e⟩ | ⟨e, _⟩
    · cases e
    · exact e rfl⟩
  have S3 := S2.asg n2 r
  rw [List.set_set] at S3
  have e1 : σ.set i (some (V.ref l)) = σ := by
    refine List.ext_getElem? fun j => ?_
    by_cases e : i = j
    · subst e
      rw [List.getElem?_set_self (List.getElem?_eq_some_iff.mp h1).1, h1]
    · rw [List.getElem?_set_ne e]
  rw [e1] at S3
  exact S3
end
end Dl
/-! Dl: readings at the level of data; expressions, tests, arguments. -/
namespace Dl
open PySem L2
theorem pe_wk {X : Cx} {e : Expr} {t t' : TE} (h : PE X e t) (w : ∀ σ H Q, t' σ H Q → t σ H Q) : PE X e t' := ⟨fun pins s σ H Q I q => h.run pins s σ H Q I (w σ H Q q)⟩
theorem pt_wk {X : Cx} {e : Expr} {t t' : TT} (h : PT X e t) (w : ∀ σ H Q, t' σ H Q → t σ H Q) : PT X e t' := ⟨fun pins s σ H Q I q => h.run pins s σ H Q I (w σ H Q q)⟩
theorem pw_wk {X : Cx} {e : Expr} {t t' : TT} (h : PW X e t) (w : ∀ σ H Q, t' σ H Q → t σ H Q) : PW X e t' := ⟨fun wh pins s σ H Q I q => h.run wh pins s σ H Q I (w σ H Q q)⟩
theorem pa_wk {X : Cx} {e : List Expr} {t t' : TA} (h : PA X e t) (w : ∀ σ H Q, t' σ H Q → t σ H Q) : PA X e t' := ⟨fun po pins s σ H Q I q => h.run po pins s σ H Q I (w σ H Q q)⟩
theorem ps_wk {X : Cx} {e : Stmt} {t t' : TS} (h : PS X e t) (w : ∀ D σ H, t' D σ H → t D σ H) : PS X e t' := ⟨fun pins s σ H D I q => h.run pins s σ H D I (w D σ H q)⟩
theorem pss_wk {X : Cx} {e : List Stmt} {t t' : TS} (h : PSs X e t) (w : ∀ D σ H, t' D σ H → t D σ H) : PSs X e t' := ⟨fun pins s σ H D I q => h.run pins s σ H D I (w D σ H q)⟩
/-! ### values: data, or a name's own object -/
inductive Vw where
  | val (d : D) | slot (i : Nat) | obj (a : Addr)
def VwRel (K : PySem.W.Frag) (F : Hp) (σ : L2.St) (w : Vw) (v : V) : Prop :=
  match w with
  | .val d => Rep K F d v
  | .slot i => σ[i]? = some (some v)
  | .obj a => v = .ref a
theorem VwRel.mono {K : PySem.W.Frag} {F F' : Hp} {σ : L2.St} {w : Vw} {v : V} (e : Same F F') (h : VwRel K F σ w v) : VwRel K F' σ w v := by
  cases w with
  | val d => exact Rep.mono e _ _ h
  | slot i => exact h
  | obj a => exact h
def VwsRel (K : PySem.W.Frag) (F : Hp) (σ : L2.St) : List Vw → List V → Prop
  | [], vs => vs = []
  | w :: ws, vs => ∃ v us, vs = v :: us ∧ VwRel K F σ w v ∧ VwsRel K F σ ws us
theorem VwsRel.mono {K : PySem.W.Frag} {F F' : Hp} {σ : L2.St} (e : Same F F') : ∀ {ws : List Vw} {vs : List V}, VwsRel K F σ ws vs → VwsRel K F' σ ws vs
  | [], _, h => h
  | w :: ws, vs, h => by
    obtain ⟨v, us, e1, h1, h2⟩ := h
    exact ⟨v, us, e1, h1.mono e, VwsRel.mono e h2⟩
def sg : DS → Nat → Sl
  | [], _ => .no
  | s :: _, 0 => s
  | _ :: r, n + 1 => sg r n
def ss : DS → Nat → Sl → DS
  | [], _, _ => []
  | _ :: r, 0, t => t :: r
  | s :: r, n + 1, t => s :: ss r n t
theorem ss_eq : ∀ (δ : DS) (i : Nat) (t : Sl), ss δ i t = δ.set i t
  | [], _, _ => rfl
  | _ :: _, 0, _ => rfl
  | s :: r, n + 1, t => by rw [ss, List.set_cons_succ, ss_eq r n t]
theorem sg_at : ∀ {δ : DS} {i : Nat} {s : Sl}, sg δ i = s → s ≠ .no → δ[i]? = some s
  | [], i, s, h, n => absurd h.symm n
  | s' :: r, 0, s, h, _ => by
    rw [← h]
    rfl
  | s' :: r, i + 1, s, h, n => by
    rw [List.getElem?_cons_succ]
    exact sg_at (δ := r) h n
theorem at_sg : ∀ {δ : DS} {i : Nat} {s : Sl}, δ[i]? = some s → sg δ i = s
  | [], i, s, h => by simp at h
  | s' :: r, 0, s, h => by
    simp at h
    exact h
  | s' :: r, i + 1, s, h => by
    rw [List.getElem?_cons_succ] at h
    exact at_sg (δ := r) h
def okS : Sl → Bool
  | .own true _ => false
  | .sto _ => false
  | _ => true
theorem okS_no : okS .no = true := rfl
theorem okS_frz {d : D} : okS (.frz d) = true := rfl
theorem okS_own {x : Cn} : okS (.own false x) = true := rfl
theorem okS_io {x : Cn} : okS (.own true x) = false := rfl
def okSet (δ : DS) (i : Nat) : Bool := okS (sg δ i)
theorem okSet_io {δ : DS} {i : Nat} (h : okSet δ i = true) : notIo δ i := by
  refine ⟨fun x e => ?_, fun T e => ?_⟩
  · unfold okSet okS at h
    rw [at_sg e] at h
    cases h
  · unfold okSet okS at h
    rw [at_sg e] at h
    cases h
/-- the store is the last place -/
def stoOf : DS → Option Sto
  | [] => none
  | [.sto T] => some T
  | .sto _ :: _ :: _ => none
  | .no :: r => stoOf r
  | .frz _ :: r => stoOf r
  | .own _ _ :: r => stoOf r
def stSet : DS → Sto → DS
  | [], _ => []
  | .sto _ :: r, T => .sto T :: r
  | .no :: r, T => .no :: stSet r T
  | .frz d :: r, T => .frz d :: stSet r T
  | .own io x :: r, T => .own io x :: stSet r T
theorem stoOf_is : ∀ {δ : DS} {T : Sto}, stoOf δ = some T → ∃ i : Nat, δ[i]? = some (Sl.sto T) ∧ (∀ (j : Nat) (T' : Sto), δ[j]? = some (.sto T') → j = i) ∧ ∀ T', stSet δ T' = δ.set i (.sto T')
  | [], T, h => by cases h
  | [.sto T'], T, h => by
    have e : some T' = some T := h
    cases e
    refine ⟨0, rfl, fun j T2 hj => ?_, fun _ => rfl⟩
    cases j with
    | zero => rfl
    | succ j => simp at hj
  | .sto _ :: _ :: _, T, h => by cases h
  | .no :: r, T, h => by
    obtain ⟨i, h1, h2, h3⟩ := stoOf_is (δ := r) (show stoOf r = some T from h)
    refine ⟨i + 1, h1, fun j T2 hj => ?_, fun T2 => ?_⟩
    · cases j with
      | zero => simp at hj
      | succ j => rw [h2 j T2 hj]
    · rw [stSet, h3, List.set_cons_succ]
  | .frz d :: r, T, h => by
    obtain ⟨i, h1, h2, h3⟩ := stoOf_is (δ := r) (show stoOf r = some T from h)
    refine ⟨i + 1, h1, fun j T2 hj => ?_, fun T2 => ?_⟩
    · cases j with
      | zero => simp at hj
      | succ j => rw [h2 j T2 hj]
    · rw [stSet, h3, List.set_cons_succ]
  | .own io x :: r, T, h => by
    obtain ⟨i, h1, h2, h3⟩ := stoOf_is (δ := r) (show stoOf r = some T from h)
    refine ⟨i + 1, h1, fun j T2 hj => ?_, fun T2 => ?_⟩
    · cases j with
      | zero => simp at hj
      | succ j => rw [h2 j T2 hj]
    · rw [stSet, h3, List.set_cons_succ]
theorem stoOf_at {δ : DS} {T : Sto} (h : stoOf δ = some T) : ∃ i : Nat, δ[i]? = some (Sl.sto T) := by
  obtain ⟨i, h1, _⟩ := stoOf_is h
  exact ⟨i, h1⟩
def ndD : Option Nd → Option D
  | some (.lst ds) => some (.lst ds)
  | _ => none
def vget (δ : DS) : Vw → Option D
  | .val d => some d
  | .slot i => match sg δ i with
    | .own _ (.lst ds) => some (.lst ds)
    | _ => none
  | .obj a => (stoOf δ).bind fun T => ndD (T a)
def vgets (δ : DS) : List Vw → Option (List D)
  | [] => some []
  | w :: ws => match vget δ w, vgets δ ws with
    | some d, some ds => some (d :: ds)
    | _, _ => none
/-- what is read now -/
def RepV (K : PySem.W.Frag) (F H : Hp) (d : D) (v : V) : Prop :=
  match d with
  | .lst ds => ∃ a vs, v = .ref a ∧ H a = some (.lst vs) ∧ Reps K F ds vs
  | d => Rep K F d v
def RepVs (K : PySem.W.Frag) (F H : Hp) : List D → List V → Prop
  | [], vs => vs = []
  | d :: ds, vs => ∃ v us, vs = v :: us ∧ RepV K F H d v ∧ RepVs K F H ds us
section
variable {K : PySem.W.Frag} {c : Ct} {F H : Hp} {σ : L2.St} {δ : DS}
theorem Rep.view {d : D} {v : V} (e : Same F H) (h : Rep K F d v) : RepV K F H d v := by
  cases d with
  | lst ds =>
    simp only [Rep] at h
    obtain ⟨a, vs, h1, h2, h3⟩ := h
    exact ⟨a, vs, h1, e _ _ h2, h3⟩
  | _ => exact h
theorem StOk.view (S : StOk K c F σ H δ) {w : Vw} {v : V} {d : D} (h : VwRel K F σ w v) (e : vget δ w = some d) : RepV K F H d v := by
  cases w with
  | val d' =>
    cases e
    exact Rep.view S.sub h
  | slot i =>
    unfold vget at e
    cases q : sg δ i with
    | no => simp only [q] at e; cases e
    | frz d => simp only [q] at e; cases e
    | own io x =>
      cases x with
      | lst ds =>
        simp only [q] at e
        cases e
        obtain ⟨l, ho, h1, h2, h3, h4, vs, rfl, h5⟩ := S.own (sg_at q (by intro z; cases z))
        have hv : v = .ref l := by
          have h' : σ[i]? = some (some v) := h
          rw [h1] at h'
          cases h'
          rfl
        exact ⟨l, vs, hv, h4, h5⟩
      | dic _ => simp only [q] at e; cases e
      | dicT _ => simp only [q] at e; cases e
    | sto T => simp only [q] at e; cases e
  | obj a =>
    have hv : v = .ref a := h
    subst hv
    obtain ⟨T, q, e⟩ := Option.bind_eq_some_iff.mp (show (stoOf δ).bind (fun T => ndD (T a)) = some d from e)
    cases q2 : T a with
    | none => rw [q2] at e; cases e
    | some nd =>
      rw [q2] at e
      cases nd with
      | dic _ => cases e
      | lst ds =>
        cases e
        obtain ⟨i, hi⟩ := stoOf_at q
        obtain ⟨ho, h1, vs, rfl, h2⟩ := (S.st i T hi a _ q2).h
        exact ⟨a, vs, rfl, h1, h2⟩
theorem StOk.views (S : StOk K c F σ H δ) : ∀ {ws : List Vw} {vs : List V} {ds : List D}, VwsRel K F σ ws vs → vgets δ ws = some ds → RepVs K F H ds vs
  | [], vs, ds, h, e => by
    cases e
    exact h
  | w :: ws, vs, ds, h, e => by
    obtain ⟨v, us, e1, h1, h2⟩ := h
    unfold vgets at e
    cases q1 : vget δ w with
    | none => simp only [q1] at e; cases e
    | some d =>
      cases q2 : vgets δ ws with
      | none => simp only [q1, q2] at e; cases e
      | some es =>
        simp only [q1, q2] at e
        cases e
        exact ⟨v, us, e1, S.view h1 q1, StOk.views S h2 q2⟩
end
/-! ### boxes: what stands within isn't looked into by simp -/
inductive Box2 (A B : Prop) : Type where
  | mk
/-- a branch -/
def brD (c : Prop) {A B : Prop} (_ : Box2 A B) : Prop := (c → A) ∧ (¬c → B)
theorem brD_true {A B : Prop} {x : Box2 A B} : brD True x = A := propext ⟨fun h => h.1 trivial, fun h => ⟨fun _ => h, fun q => absurd trivial q⟩⟩
theorem brD_false {A B : Prop} {x : Box2 A B} : brD False x = B := propext ⟨fun h => h.2 id, fun h => ⟨fun q => q.elim, fun _ => h⟩⟩
theorem brD_pos {c A B : Prop} {x : Box2 A B} (h : c) : brD c x = A := by rw [eq_true h, brD_true]
theorem brD_neg {c A B : Prop} {x : Box2 A B} (h : ¬c) : brD c x = B := by rw [eq_false h, brD_false]
theorem br_i {c A B : Prop} {x : Box2 A B} (h1 : c → A) (h2 : ¬c → B) : brD c x := ⟨h1, h2⟩
abbrev bx {A B : Prop} : Box2 A B := Box2.mk
/-! ### readings -/
abbrev DV := DS → (Vw → DS → Prop) → Prop
abbrev DT := DS → (Bool → DS → Prop) → Prop
abbrev DA := DS → (List Vw → DS → Prop) → Prop
abbrev DF := DS → (List D → DS → Prop) → Prop
def liftV (K : PySem.W.Frag) (r : DV) : TE := fun σ H Q => ∃ c F δ P, StOk K c F σ H δ ∧ r δ P ∧ ∀ w δ', P w δ' → ∀ v F' H', Same F F' → StOk K c F' σ H' δ' → VwRel K F' σ w v → Q v H'
def liftT (K : PySem.W.Frag) (r : DT) : TT := fun σ H Q => ∃ c F δ P, StOk K c F σ H δ ∧ r δ P ∧ ∀ b δ', P b δ' → ∀ F' H', Same F F' → StOk K c F' σ H' δ' → Q b H'
def liftA (K : PySem.W.Frag) (r : DA) : TA := fun σ H Q => ∃ c F δ P, StOk K c F σ H δ ∧ r δ P ∧ ∀ ws δ', P ws δ' → ∀ vs F' H', Same F F' → StOk K c F' σ H' δ' → VwsRel K F' σ ws vs → Q vs H'
def liftF (K : PySem.W.Frag) (r : DF) : TE := fun σ H Q => ∃ c F δ P, StOk K c F σ H δ ∧ r δ P ∧ ∀ ds δ', P ds δ' → ∀ p vs F' H', Same F F' → StOk K c F' σ H' δ' → Free c F' σ δ' p → H' p = some (.lst vs) → Reps K F' ds vs → Q (.ref p) H'
def rName (i : Nat) : DV := fun δ Q => match sg δ i with
  | .frz d => Q (.val d) δ
  | .own _ _ => Q (.slot i) δ
  | _ => False
def rC (d : D) : DV := fun δ Q => Q (.val d) δ
/-- as data: an own list is frozen -/
def rVal (r : DV) : DV := fun δ Q => r δ fun w δ1 => match w with
  | .val d => Q (.val d) δ1
  | .slot i => match sg δ1 i with
    | .own false (.lst ds) => Q (.val (.lst ds)) (ss δ1 i (.frz (.lst ds)))
    | _ => False
  | .obj _ => False
/-- a new list as data -/
def rFz (r : DF) : DV := fun δ Q => r δ fun ds δ1 => Q (.val (.lst ds)) δ1
/-- two operands -/
abbrev R2D := D → D → (D → Prop) → Prop
def rOp (R : R2D) (ra rb : DV) : DV := fun δ Q => ra δ fun w1 δ1 => rb δ1 fun w2 δ2 => match vget δ2 w1, vget δ2 w2 with
  | some a, some b => R a b fun d => Q (.val d) δ2
  | _, _ => False
def rUn (R : D → (D → Prop) → Prop) (ra : DV) : DV := fun δ Q => ra δ fun w δ1 => match vget δ1 w with
  | some a => R a fun d => Q (.val d) δ1
  | none => False
def rNilA : DA := fun δ Q => Q [] δ
def rConsA (r : DV) (rs : DA) : DA := fun δ Q => r δ fun w δ1 => rs δ1 fun ws δ2 => Q (w :: ws) δ2
abbrev RND := List D → (D → Prop) → Prop
def rCB (R : RND) (rs : DA) : DV := fun δ Q => rs δ fun ws δ1 => match vgets δ1 ws with
  | some ds => R ds fun d => Q (.val d) δ1
  | none => False
def rCBF (R : List D → (List D → Prop) → Prop) (rs : DA) : DF := fun δ Q => rs δ fun ws δ1 => match vgets δ1 ws with
  | some ds => R ds fun es => Q es δ1
  | none => False
def rOpF (R : D → D → (List D → Prop) → Prop) (ra rb : DV) : DF := fun δ Q => ra δ fun w1 δ1 => rb δ1 fun w2 δ2 => match vget δ2 w1, vget δ2 w2 with
  | some a, some b => R a b fun ds => Q ds δ2
  | _, _ => False
def valsOf : List Vw → Option (List D)
  | [] => some []
  | .val d :: ws => match valsOf ws with
    | some ds => some (d :: ds)
    | none => none
  | .slot _ :: _ => none
  | .obj _ :: _ => none
def rTup (rs : DA) : DV := fun δ Q => rs δ fun ws δ1 => match valsOf ws with
  | some ds => ds.length ≤ 16777216 ∧ Q (.val (.tup ds)) δ1
  | none => False
def rLst (rs : DA) : DF := fun δ Q => rs δ fun ws δ1 => match valsOf ws with
  | some ds => ds.length ≤ 16777216 ∧ Q ds δ1
  | none => False
def rTest (r : DV) : DT := fun δ Q => r δ fun w δ1 => match w with
  | .val (.bl b) => Q b δ1
  | _ => False
def truD : D → (Bool → Prop) → Prop
  | .non, P => P false
  | .bl b, P => P b
  | .int i, P => P (i != 0)
  | .str x, P => x.length ≤ 16777216 ∧ P ((x.length : Int) != 0)
  | .tup ds, P => P (!ds.isEmpty)
  | .lst ds, P => P (!ds.isEmpty)
  | .rol ds, P => P (!ds.isEmpty)
  | .ptr _, _ => False
  | .ftp _, _ => False
def rTru (r : DV) : DT := fun δ Q => r δ fun w δ1 => match vget δ1 w with
  | some d => truD d fun b => Q b δ1
  | none => False
def rAnd (t u : DT) : DT := fun δ Q => t δ fun b δ1 => brD (b = true) (bx (A := u δ1 Q) (B := Q false δ1))
def rOr (t u : DT) : DT := fun δ Q => t δ fun b δ1 => brD (b = true) (bx (A := Q true δ1) (B := u δ1 Q))
def rNot (t : DT) : DT := fun δ Q => t δ fun b δ1 => Q (!b) δ1
def rAndV (t u : DV) : DV := fun δ Q => t δ fun w δ1 => match w with
  | .val (.bl b) => brD (b = true) (bx (A := u δ1 Q) (B := Q (.val (.bl false)) δ1))
  | _ => False
def rOrV (t u : DV) : DV := fun δ Q => t δ fun w δ1 => match w with
  | .val (.bl b) => brD (b = true) (bx (A := Q (.val (.bl true)) δ1) (B := u δ1 Q))
  | _ => False
def rNotV (t : DV) : DV := fun δ Q => t δ fun w δ1 => match w with
  | .val (.bl b) => Q (.val (.bl (!b))) δ1
  | _ => False
def rIfE (t : DT) (a b : DV) : DV := fun δ Q => t δ fun k δ1 => brD (k = true) (bx (A := a δ1 Q) (B := b δ1 Q))
/-- a < b < c -/
def rChain (R R' : R2D) (ra rb rc : DV) : DV := fun δ Q => ra δ fun w1 δ1 => rb δ1 fun w2 δ2 => match vget δ2 w1, vget δ2 w2 with
  | some a, some b => R a b fun d => match d with
    | .bl k => brD (k = true) (bx (A := rc δ2 fun w3 δ3 => match vget δ3 w2, vget δ3 w3 with
        | some b', some c => R' b' c fun d => Q (.val d) δ3
        | _, _ => False) (B := Q (.val (.bl false)) δ2))
    | _ => False
  | _, _ => False
/-- the state grows by one object at most -/
def Grow (F H F' H' : Hp) : Prop := (F' = F ∧ H' = H) ∨ ∃ p o, H p = none ∧ F' = upd F p o ∧ H' = upd H p o
def OpS (K : PySem.W.Frag) (r : R2) (R : R2D) : Prop := ∀ (F H : Hp) (a b : D) (x y : V) (P : D → Prop) (Q : VK), Same F H → RepV K F H a x → RepV K F H b y → R a b P →
  (∀ d v F' H', P d → Grow F H F' H' → Rep K F' d v → Q v H') → r x y H Q
def CallS (K : PySem.W.Frag) (r : List V → Hp → VK → Prop) (R : RND) : Prop := ∀ (F H : Hp) (ds : List D) (xs : List V) (P : D → Prop) (Q : VK), Same F H → RepVs K F H ds xs → R ds P →
  (∀ d v F' H', P d → Grow F H F' H' → Rep K F' d v → Q v H') → r xs H Q
def CallF (K : PySem.W.Frag) (r : List V → Hp → VK → Prop) (R : List D → (List D → Prop) → Prop) : Prop := ∀ (F H : Hp) (ds : List D) (xs : List V) (P : List D → Prop) (Q : VK), Same F H → RepVs K F H ds xs → R ds P →
  (∀ es p vs, P es → H p = none → Reps K F es vs → Q (.ref p) (upd H p (.lst vs))) → r xs H Q
def OpF (K : PySem.W.Frag) (r : R2) (R : D → D → (List D → Prop) → Prop) : Prop := ∀ (F H : Hp) (a b : D) (x y : V) (P : List D → Prop) (Q : VK), Same F H → RepV K F H a x → RepV K F H b y → R a b P →
  (∀ es p vs, P es → H p = none → Reps K F es vs → Q (.ref p) (upd H p (.lst vs))) → r x y H Q
section
variable {K : PySem.W.Frag} {c : Ct} {F H F' H' : Hp} {σ : L2.St} {δ : DS}
theorem StOk.grow (S : StOk K c F σ H δ) (g : Grow F H F' H') : Same F F' ∧ StOk K c F' σ H' δ := by
  rcases g with ⟨rfl, rfl⟩ | ⟨p, o, h, rfl, rfl⟩
  · exact ⟨Same.refl _, S⟩
  · exact S.alloc h
end
section
variable {X : Cx} {a b e : Expr} {es : List Expr} {ra rb rc : DV} {rs : DA} {pos : Pos}
theorem e_name (i : Nat) {x : Str} {pos : Pos} (h : PE X (.Name x pos) (tVar i)) : PE X (.Name x pos) (liftV X.K (rName i)) := pe_wk h fun σ H Q ⟨c, F, δ, P, S, r, k⟩ => by
  unfold rName at r
  cases q : sg δ i with
  | no => simp only [q] at r
  | frz d =>
    simp only [q] at r
    obtain ⟨o, h1, v, rfl, h2⟩ := S.at (sg_at q (by intro z; cases z))
    exact ⟨v, h1, k _ _ r v F H (Same.refl _) S h2⟩
  | own io x =>
    simp only [q] at r
    obtain ⟨l, ho, h1, _⟩ := S.own (sg_at q (by intro z; cases z))
    exact ⟨_, h1, k _ _ r _ F H (Same.refl _) S h1⟩
  | sto T => simp only [q] at r
theorem e_c {d : D} {v : V} (h : PE X e (tC v)) (r : ∀ F, Rep X.K F d v) : PE X e (liftV X.K (rC d)) := pe_wk h fun σ H Q ⟨c, F, δ, P, S, q, k⟩ => k _ _ q _ F H (Same.refl _) S (r F)
theorem e_int {i j pos} : PE X (.Constant (.int i) j pos) (liftV X.K (rC (.int i))) := e_c pe_int fun _ => by simp only [Rep]
theorem e_bl {i j pos} : PE X (.Constant (.bool i) j pos) (liftV X.K (rC (.bl i))) := e_c pe_bl fun _ => by simp only [Rep]
theorem e_non {j pos} : PE X (.Constant .none j pos) (liftV X.K (rC .non)) := e_c pe_non fun _ => by simp only [Rep]
theorem e_val (h : PE X e (liftV X.K ra)) : PE X e (liftV X.K (rVal ra)) := pe_wk h fun σ H Q ⟨c, F, δ, P, S, r, k⟩ => ⟨c, F, δ, _, S, r, fun w δ1 hp v F1 H1 e1 S1 hv => by
  cases w with
  | val d => exact k _ _ hp v F1 H1 e1 S1 hv
  | slot i =>
    cases q : sg δ1 i with
    | no => simp only [q] at hp
    | frz d => simp only [q] at hp
    | own io x =>
      cases io with
      | true => simp only [q] at hp
      | false =>
        cases x with
        | lst ds =>
          simp only [q] at hp
          obtain ⟨l, F2, g1, g2, g3, g4⟩ := S1.fix (sg_at q (by intro z; cases z))
          have hv' : v = .ref l := by
            have z : σ[i]? = some (some v) := hv
            rw [g1] at z
            cases z
            rfl
          subst hv'
          rw [ss_eq] at hp
          exact k _ _ hp _ F2 H1 (e1.trans g2) g3 g4
        | dic _ => simp only [q] at hp
        | dicT _ => simp only [q] at hp
    | sto T => simp only [q] at hp
  | obj a => exact hp.elim⟩
theorem e_fz {r : DF} (h : PE X e (liftF X.K r)) : PE X e (liftV X.K (rFz r)) := pe_wk h fun σ H Q ⟨c, F, δ, P, S, r, k⟩ => ⟨c, F, δ, _, S, r, fun ds δ1 hp p vs F1 H1 e1 S1 fr h1 h2 => by
  obtain ⟨s2, S2⟩ := S1.freeze h1 fr
  refine k _ _ hp _ _ H1 (e1.trans s2) S2 ?_
  show Rep X.K _ (.lst ds) (.ref p)
  simp only [Rep]
  exact ⟨p, vs, rfl, upd_same, Reps.mono s2 _ _ h2⟩⟩
theorem op_sound {r : R2} {R : R2D} (hs : OpS X.K r R) : ∀ σ H Q, liftV X.K (rOp R ra rb) σ H Q → tOp r (liftV X.K ra) (liftV X.K rb) σ H Q := fun σ H Q ⟨c, F, δ, P, S, h, k⟩ =>
  ⟨c, F, δ, _, S, h, fun w1 δ1 h1 x F1 H1 e1 S1 r1 => ⟨c, F1, δ1, _, S1, h1, fun w2 δ2 h2 y F2 H2 e2 S2 r2 => by
    cases q1 : vget δ2 w1 with
    | none => simp only [q1] at h2
    | some d1 =>
      cases q2 : vget δ2 w2 with
      | none => simp only [q1, q2] at h2
      | some d2 =>
        simp only [q1, q2] at h2
        refine hs F2 H2 d1 d2 x y _ _ S2.sub (S2.view (r1.mono e2) q1) (S2.view r2 q2) h2 fun d v F3 H3 hd g rv => ?_
        obtain ⟨e3, S3⟩ := S2.grow g
        exact k _ _ hd v F3 H3 ((e1.trans e2).trans e3) S3 rv⟩⟩
theorem opF_sound {r : R2} {R : D → D → (List D → Prop) → Prop} (hs : OpF X.K r R) : ∀ σ H Q, liftF X.K (rOpF R ra rb) σ H Q → tOp r (liftV X.K ra) (liftV X.K rb) σ H Q := fun σ H Q ⟨c, F, δ, P, S, h, k⟩ =>
  ⟨c, F, δ, _, S, h, fun w1 δ1 h1 x F1 H1 e1 S1 r1 => ⟨c, F1, δ1, _, S1, h1, fun w2 δ2 h2 y F2 H2 e2 S2 r2 => by
    cases q1 : vget δ2 w1 with
    | none => simp only [q1] at h2
    | some d1 =>
      cases q2 : vget δ2 w2 with
      | none => simp only [q1, q2] at h2
      | some d2 =>
        simp only [q1, q2] at h2
        refine hs F2 H2 d1 d2 x y _ _ S2.sub (S2.view (r1.mono e2) q1) (S2.view r2 q2) h2 fun es p vs hd hp rv => ?_
        obtain ⟨S3, fr⟩ := S2.fresh (o := .lst vs) hp
        exact k _ _ hd p vs F2 _ (e1.trans e2) S3 fr upd_same rv⟩⟩
theorem e_op {op : Operator} {r : R2} {R : R2D} (ho : OpR X (binaryOp op) r) (hs : OpS X.K r R) (ha : PE X a (liftV X.K ra)) (hb : PE X b (liftV X.K rb)) : PE X (.BinOp a op b pos) (liftV X.K (rOp R ra rb)) := pe_wk (pe_op ho ha hb) (op_sound hs)
theorem e_cmp {op : CmpOp} {r : R2} {R : R2D} (ho : OpR X (compareOp op) r) (hs : OpS X.K r R) (ha : PE X a (liftV X.K ra)) (hb : PE X b (liftV X.K rb)) (hm : behindInMarks op b = false) : PE X (.Compare a [op] [b] pos) (liftV X.K (rOp R ra rb)) := pe_wk (pe_cmpR ho ha hb hm) (op_sound hs)
theorem e_ix {r : R2} {R : R2D} (ho : IxR X r) (hs : OpS X.K r R) (ha : PE X a (liftV X.K ra)) (hb : PE X b (liftV X.K rb)) (hp : PlainIx b) : PE X (.Subscript a b pos) (liftV X.K (rOp R ra rb)) := pe_wk (pe_ix ho ha hb hp) (op_sound hs)
theorem test_sound {t : TE} {r : DV} (h : ∀ σ H Q, liftV X.K r σ H Q → t σ H Q) : ∀ σ H Q, liftT X.K (rTest r) σ H Q → tTest t σ H Q := fun σ H Q ⟨c, F, δ, P, S, q, k⟩ => h σ H _ ⟨c, F, δ, _, S, q, fun w δ1 hp v F1 H1 e1 S1 hv => by
  cases w with
  | slot i => exact hp.elim
  | obj _ => exact hp.elim
  | val d =>
    cases d with
    | bl b0 =>
      have e : v = .bl b0 := by simpa only [VwRel, Rep] using hv
      exact ⟨b0, e, k _ _ hp F1 H1 e1 S1⟩
    | _ => exact hp.elim⟩
theorem t_cmp {op : CmpOp} {r : R2} {R : R2D} (ho : OpR X (compareOp op) r) (hs : OpS X.K r R) (ha : PE X a (liftV X.K ra)) (hb : PE X b (liftV X.K rb)) (hm : behindInMarks op b = false) : PT X (.Compare a [op] [b] pos) (liftT X.K (rTest (rOp R ra rb))) :=
  pt_wk (pt_cmpR ho ha hb hm) (test_sound (op_sound hs))
/-! arguments -/
theorem a_nil : PA X [] (liftA X.K rNilA) := pa_wk pa_nil fun σ H Q ⟨c, F, δ, P, S, h, k⟩ => k _ _ h [] F H (Same.refl _) S rfl
theorem a_cons (he : PE X e (liftV X.K ra)) (hr : PA X es (liftA X.K rs)) (hs : starEach (e :: es) X.env = (false, eval e X.env) :: starEach es X.env := by rfl) : PA X (e :: es) (liftA X.K (rConsA ra rs)) :=
  pa_wk (pa_cons he hr hs) fun σ H Q ⟨c, F, δ, P, S, h, k⟩ => ⟨c, F, δ, _, S, h, fun w δ1 h1 v F1 H1 e1 S1 r1 => ⟨c, F1, δ1, _, S1, h1, fun ws δ2 h2 vs F2 H2 e2 S2 r2 =>
    k _ _ h2 (v :: vs) F2 H2 (e1.trans e2) S2 ⟨v, vs, rfl, r1.mono e2, r2⟩⟩⟩
theorem vals_rel {F : Hp} {σ : L2.St} : ∀ {ws : List Vw} {vs : List V} {ds : List D}, VwsRel X.K F σ ws vs → valsOf ws = some ds → Reps X.K F ds vs
  | [], vs, ds, h, e => by
    cases e
    rw [show vs = [] from h]
    exact Reps.nil
  | .slot _ :: ws, vs, ds, h, e => by cases e
  | .val d :: ws, vs, ds, h, e => by
    obtain ⟨v, us, e1, h1, h2⟩ := h
    unfold valsOf at e
    cases q : valsOf ws with
    | none => simp only [q] at e; cases e
    | some es =>
      simp only [q] at e
      cases e
      subst e1
      exact Reps.cons h1 (vals_rel h2 q)
theorem line_le {n : Nat} (h : n ≤ 16777216) : n ≤ sizeLine := by rw [sizeLine_eq]; exact h
theorem e_tup {k : Nat} (h : PA X es (liftA X.K rs)) : PE X (.Tuple es k pos) (liftV X.K (rTup rs)) := pe_wk (pe_tup h) fun σ H Q ⟨c, F, δ, P, S, h, k⟩ => ⟨c, F, δ, _, S, h, fun ws δ1 h1 vs F1 H1 e1 S1 r1 => by
  cases q : valsOf ws with
  | none => simp only [q] at h1
  | some ds =>
    simp only [q] at h1
    have r := vals_rel r1 q
    refine ⟨by rw [r.len]; exact line_le h1.1, fun p hp => ?_⟩
    obtain ⟨e2, S2⟩ := S1.alloc (o := .tup vs) hp
    refine k _ _ h1.2 _ _ _ (e1.trans e2) S2 ?_
    show Rep X.K _ (.tup ds) (.ref p)
    simp only [Rep]
    exact ⟨p, vs, rfl, SqT.of upd_same, Reps.mono e2 _ _ r⟩⟩
theorem e_lst (h : PA X es (liftA X.K rs)) : PE X (.List es pos) (liftF X.K (rLst rs)) := pe_wk (pe_lst h) fun σ H Q ⟨c, F, δ, P, S, h, k⟩ => ⟨c, F, δ, _, S, h, fun ws δ1 h1 vs F1 H1 e1 S1 r1 => by
  cases q : valsOf ws with
  | none => simp only [q] at h1
  | some ds =>
    simp only [q] at h1
    have r := vals_rel r1 q
    refine ⟨by rw [r.len]; exact line_le h1.1, fun p hp => ?_⟩
    obtain ⟨S2, fr⟩ := S1.fresh (o := .lst vs) hp
    exact k _ _ h1.2 p vs F1 _ e1 S2 fr upd_same r⟩
theorem cb_sound {r : List V → Hp → VK → Prop} {R : RND} (hs : CallS X.K r R) : ∀ σ H Q, liftV X.K (rCB R rs) σ H Q → tCB r (liftA X.K rs) σ H Q := fun σ H Q ⟨c, F, δ, P, S, h, k⟩ => ⟨c, F, δ, _, S, h, fun ws δ1 h1 vs F1 H1 e1 S1 r1 => by
  cases q : vgets δ1 ws with
  | none => simp only [q] at h1
  | some ds =>
    simp only [q] at h1
    refine hs F1 H1 ds vs _ _ S1.sub (S1.views r1 q) h1 fun d v F3 H3 hd g rv => ?_
    obtain ⟨e3, S3⟩ := S1.grow g
    exact k _ _ hd v F3 H3 (e1.trans e3) S3 rv⟩
theorem cbF_sound {r : List V → Hp → VK → Prop} {R : List D → (List D → Prop) → Prop} (hs : CallF X.K r R) : ∀ σ H Q, liftF X.K (rCBF R rs) σ H Q → tCB r (liftA X.K rs) σ H Q := fun σ H Q ⟨c, F, δ, P, S, h, k⟩ => ⟨c, F, δ, _, S, h, fun ws δ1 h1 vs F1 H1 e1 S1 r1 => by
  cases q : vgets δ1 ws with
  | none => simp only [q] at h1
  | some ds =>
    simp only [q] at h1
    refine hs F1 H1 ds vs _ _ S1.sub (S1.views r1 q) h1 fun es p us hd hp rv => ?_
    obtain ⟨S3, fr⟩ := S1.fresh (o := .lst us) hp
    exact k _ _ hd p us F1 _ e1 S3 fr upd_same rv⟩
/-! tests -/
theorem t_tru {e : Expr} (h : PE X e (liftV X.K ra)) (he : ∀ whole, isTrue e X.env whole = (do let v ← whole; standAt e.pos; holding [v] (truthy v)) := by intro _; rfl) : PT X e (liftT X.K (rTru ra)) :=
  pt_wk (pt_truth h he) fun σ H Q ⟨c, F, δ, P, S, h, k⟩ => ⟨c, F, δ, _, S, h, fun w δ1 h1 v F1 H1 e1 S1 r1 => by
    cases q : vget δ1 w with
    | none => simp only [q] at h1
    | some d =>
      simp only [q] at h1
      have rv := S1.view r1 q
      cases d with
      | ptr _ => exact h1.elim
      | ftp _ => exact h1.elim
      | non =>
        have e : v = .non := by simpa only [RepV, Rep] using rv
        subst e
        exact ⟨false, rfl, k _ _ h1 F1 H1 e1 S1⟩
      | bl b =>
        have e : v = .bl b := by simpa only [RepV, Rep] using rv
        subst e
        exact ⟨b, rfl, k _ _ h1 F1 H1 e1 S1⟩
      | int i =>
        have e : v = .int i := by simpa only [RepV, Rep] using rv
        subst e
        exact ⟨_, rfl, k _ _ h1 F1 H1 e1 S1⟩
      | str x =>
        have e : v = .str x := by simpa only [RepV, Rep] using rv
        subst e
        exact ⟨_, ⟨line_le h1.1, rfl⟩, k _ _ h1.2 F1 H1 e1 S1⟩
      | tup ds =>
        simp only [RepV, Rep] at rv
        obtain ⟨a, vs, rfl, g1, g2⟩ := rv
        refine ⟨!ds.isEmpty, Or.inr (Or.inl ⟨vs, same_t S1.sub g1, ?_⟩), k _ _ h1 F1 H1 e1 S1⟩
        cases ds with
        | nil => rw [g2.unnil]; rfl
        | cons d ds =>
          obtain ⟨v, us, rfl, _⟩ := g2.uncons
          rfl
      | lst ds =>
        obtain ⟨a, vs, rfl, g1, g2⟩ := rv
        refine ⟨!ds.isEmpty, Or.inl ⟨vs, SqL.of g1, ?_⟩, k _ _ h1 F1 H1 e1 S1⟩
        cases ds with
        | nil => rw [g2.unnil]; rfl
        | cons d ds =>
          obtain ⟨v, us, rfl, _⟩ := g2.uncons
          rfl
      | rol ds =>
        simp only [RepV, Rep] at rv
        obtain ⟨a, vs, rfl, g1, g2⟩ := rv
        refine ⟨!ds.isEmpty, Or.inl ⟨vs, same_l S1.sub g1, ?_⟩, k _ _ h1 F1 H1 e1 S1⟩
        cases ds with
        | nil => rw [g2.unnil]; rfl
        | cons d ds =>
          obtain ⟨v, us, rfl, _⟩ := g2.uncons
          rfl⟩
variable {t u : DT} {rest : List Expr}
theorem t_pw (h : PW X e (liftT X.K t)) : PT X e (liftT X.K t) := h.pt
theorem w_and1 (h : PT X a (liftT X.K t)) : PW X (.BoolOp .And [a] pos) (liftT X.K t) := pw_and1 h
theorem w_or1 (h : PT X a (liftT X.K t)) : PW X (.BoolOp .Or [a] pos) (liftT X.K t) := pw_or1 h
theorem w_and (h : PT X a (liftT X.K t)) (hb : PW X (.BoolOp .And (b :: rest) pos) (liftT X.K u)) : PW X (.BoolOp .And (a :: b :: rest) pos) (liftT X.K (rAnd t u)) :=
  pw_wk (pw_and h hb) fun σ H Q ⟨c, F, δ, P, S, h, k⟩ => ⟨c, F, δ, _, S, h, fun b0 δ1 h1 F1 H1 e1 S1 => by
    cases b0 with
    | true =>
      replace h1 := h1.1 rfl
      simp only [if_true]
      exact ⟨c, F1, δ1, _, S1, h1, fun b1 δ2 h2 F2 H2 e2 S2 => k _ _ h2 F2 H2 (e1.trans e2) S2⟩
    | false =>
      replace h1 := h1.2 (by decide)
      rw [if_neg Bool.false_ne_true]
      exact k _ _ h1 F1 H1 e1 S1⟩
theorem w_or (h : PT X a (liftT X.K t)) (hb : PW X (.BoolOp .Or (b :: rest) pos) (liftT X.K u)) : PW X (.BoolOp .Or (a :: b :: rest) pos) (liftT X.K (rOr t u)) :=
  pw_wk (pw_or h hb) fun σ H Q ⟨c, F, δ, P, S, h, k⟩ => ⟨c, F, δ, _, S, h, fun b0 δ1 h1 F1 H1 e1 S1 => by
    cases b0 with
    | true =>
      replace h1 := h1.1 rfl
      simp only [if_true]
      exact k _ _ h1 F1 H1 e1 S1
    | false =>
      replace h1 := h1.2 (by decide)
      rw [if_neg Bool.false_ne_true]
      exact ⟨c, F1, δ1, _, S1, h1, fun b1 δ2 h2 F2 H2 e2 S2 => k _ _ h2 F2 H2 (e1.trans e2) S2⟩⟩
theorem t_not (h : PT X a (liftT X.K t)) : PT X (.UnaryOp .Not a pos) (liftT X.K (rNot t)) :=
  pt_wk (pt_not h) fun σ H Q ⟨c, F, δ, P, S, h, k⟩ => ⟨c, F, δ, _, S, h, fun b0 δ1 h1 F1 H1 e1 S1 => k _ _ h1 F1 H1 e1 S1⟩
theorem e_one {op} (h : PE X a (liftV X.K ra)) : PE X (.BoolOp op [a] pos) (liftV X.K ra) := pe_one h
theorem bl_of {F : Hp} {σ : L2.St} {v : V} {b0 : Bool} (hv : VwRel X.K F σ (.val (.bl b0)) v) : v = .bl b0 := by simpa only [VwRel, Rep] using hv
theorem bl_rel {F : Hp} {σ : L2.St} {b0 : Bool} : VwRel X.K F σ (.val (.bl b0)) (.bl b0) := by
  show Rep _ _ _ _
  simp only [Rep]
theorem e_and (h : PE X a (liftV X.K ra)) (hb : PE X (.BoolOp .And (b :: rest) pos) (liftV X.K rb)) : PE X (.BoolOp .And (a :: b :: rest) pos) (liftV X.K (rAndV ra rb)) :=
  pe_wk (pe_and h hb) fun σ H Q ⟨c, F, δ, P, S, h, k⟩ => ⟨c, F, δ, _, S, h, fun w δ1 h1 v F1 H1 e1 S1 r1 => by
    cases w with
    | slot i => exact h1.elim
    | obj _ => exact h1.elim
    | val d =>
      cases d with
      | bl b0 =>
        refine ⟨b0, bl_of r1, ?_⟩
        cases b0 with
        | true =>
          replace h1 := h1.1 rfl
          simp only [if_true]
          exact ⟨c, F1, δ1, _, S1, h1, fun b1 δ2 h2 v F2 H2 e2 S2 => k _ _ h2 v F2 H2 (e1.trans e2) S2⟩
        | false =>
          replace h1 := h1.2 (by decide)
          simp only [if_false, Bool.false_eq_true]
          exact k _ _ h1 _ F1 H1 e1 S1 bl_rel
      | _ => exact h1.elim⟩
end
end Dl
/-! Dl: statements, loops, comprehensions, calls, defs. -/
namespace Dl
open PySem L2
inductive Ret where
  | v (d : D) | f (ds : List D)
structure DE where
  nx : DS → Prop
  rt : Ret → DS → Prop
  bk : DS → Prop := fun _ => False
  ct : DS → Prop := fun _ => False
abbrev DSt := DE → DS → Prop
def RetRel (K : PySem.W.Frag) (c : Ct) (F : Hp) (σ : L2.St) (H : Hp) (δ : DS) (r : Ret) (v : V) : Prop :=
  match r with
  | .v d => Rep K F d v
  | .f ds => ∃ p vs, v = .ref p ∧ Free c F σ δ p ∧ H p = some (.lst vs) ∧ Reps K F ds vs
/-- what is wanted at the level of data leads to what is wanted -/
structure Leads (K : PySem.W.Frag) (c : Ct) (F : Hp) (E : DE) (D : Ends) : Prop where
  nx : ∀ δ', E.nx δ' → ∀ σ' F' H', Same F F' → StOk K c F' σ' H' δ' → D.nx σ' H'
  rt : ∀ r δ', E.rt r δ' → ∀ v σ' F' H', Same F F' → StOk K c F' σ' H' δ' → RetRel K c F' σ' H' δ' r v → D.rt v H'
  bk : ∀ δ', E.bk δ' → ∀ σ' F' H', Same F F' → StOk K c F' σ' H' δ' → D.bk σ' H'
  ct : ∀ δ', E.ct δ' → ∀ σ' F' H', Same F F' → StOk K c F' σ' H' δ' → D.ct σ' H'
theorem Leads.mono {K : PySem.W.Frag} {c : Ct} {F F1 : Hp} {E : DE} {D : Ends} (L : Leads K c F E D) (e : Same F F1) : Leads K c F1 E D :=
  ⟨fun δ' h σ' F' H' e1 S => L.nx δ' h σ' F' H' (e.trans e1) S, fun r δ' h v σ' F' H' e1 S => L.rt r δ' h v σ' F' H' (e.trans e1) S,
    fun δ' h σ' F' H' e1 S => L.bk δ' h σ' F' H' (e.trans e1) S, fun δ' h σ' F' H' e1 S => L.ct δ' h σ' F' H' (e.trans e1) S⟩
def liftS (K : PySem.W.Frag) (r : DSt) : TS := fun D σ H => ∃ c F δ E, StOk K c F σ H δ ∧ r E δ ∧ Leads K c F E D
def sNext : DSt := fun E δ => E.nx δ
def sSeq (a b : DSt) : DSt := fun E δ => a { E with nx := fun δ1 => b E δ1 } δ
def sBreak : DSt := fun E δ => E.bk δ
def sCont : DSt := fun E δ => E.ct δ
def sDrop (r : DV) : DSt := fun E δ => r δ fun _ δ1 => E.nx δ1
def sRet (r : DV) : DSt := fun E δ => r δ fun w δ1 => match w with
  | .val d => E.rt (.v d) δ1
  | _ => False
def sRetF (r : DF) : DSt := fun E δ => r δ fun ds δ1 => E.rt (.f ds) δ1
/-- an own list is handed out -/
def sRetM (i : Nat) : DSt := fun E δ => match sg δ i with
  | .own false (.lst ds) => E.rt (.f ds) (ss δ i .no)
  | _ => False
def sRetN : DSt := fun E δ => E.rt (.v .non) δ
def sIf (t : DT) (a b : DSt) : DSt := fun E δ => t δ fun k δ1 => brD (k = true) (bx (A := a E δ1) (B := b E δ1))
def sNever : DSt := fun _ _ => False
/-- name = data; name = a new list of its own -/
def sAsg (i : Nat) (r : DV) : DSt := fun E δ => r δ fun w δ1 => match w with
  | .val d => okSet δ1 i = true ∧ E.nx (ss δ1 i (.frz d))
  | _ => False
def sAsgF (i : Nat) (r : DF) : DSt := fun E δ => r δ fun ds δ1 => okSet δ1 i = true ∧ E.nx (ss δ1 i (.own false (.lst ds)))
section
variable {X : Cx} {st : Stmt} {rest : List Stmt} {a b e : Expr} {es : List Expr} {ra rb rc : DV} {rs : DA} {pos : Pos} {s1 s2 : DSt} {t : DT} {K : PySem.W.Frag} {c : Ct} {F H F' H' : Hp} {σ : L2.St} {δ : DS}
theorem b_nil : PSs X [] (liftS X.K sNext) := pss_wk pss_nil fun D σ H ⟨c, F, δ, E, S, h, L⟩ => L.nx δ h σ F H (Same.refl _) S
theorem b_cons (h1 : PS X st (liftS X.K s1)) (h2 : PSs X rest (liftS X.K s2)) : PSs X (st :: rest) (liftS X.K (sSeq s1 s2)) := pss_wk (pss_cons h1 h2) fun D σ H ⟨c, F, δ, E, S, h, L⟩ =>
  ⟨c, F, δ, _, S, h, ⟨fun δ' h' σ' F' H' e1 S1 => ⟨c, F', δ', E, S1, h', L.mono e1⟩, L.rt, L.bk, L.ct⟩⟩
theorem b_one (h1 : PS X st (liftS X.K s1)) : PSs X [st] (liftS X.K s1) := pss_one h1
theorem s_ret (he : PE X e (liftV X.K ra)) : PS X (.Return (some e) pos) (liftS X.K (sRet ra)) := ps_wk (ps_ret he) fun D σ H ⟨c, F, δ, E, S, h, L⟩ =>
  ⟨c, F, δ, _, S, h, fun w δ1 h1 v F1 H1 e1 S1 r1 => by
    cases w with
    | val d => exact L.rt _ _ h1 v σ F1 H1 e1 S1 r1
    | slot i => exact h1.elim
    | obj _ => exact h1.elim⟩
theorem s_retF {r : DF} (he : PE X e (liftF X.K r)) : PS X (.Return (some e) pos) (liftS X.K (sRetF r)) := ps_wk (ps_ret he) fun D σ H ⟨c, F, δ, E, S, h, L⟩ =>
  ⟨c, F, δ, _, S, h, fun ds δ1 h1 p vs F1 H1 e1 S1 fr hp r1 => L.rt _ _ h1 _ σ F1 H1 e1 S1 ⟨p, vs, rfl, fr, hp, r1⟩⟩
theorem s_if {q : Expr} {x y : List Stmt} (hc : PT X q (liftT X.K t)) (ha : PSs X x (liftS X.K s1)) (hb : PSs X y (liftS X.K s2)) : PS X (.If q x y pos) (liftS X.K (sIf t s1 s2)) :=
  ps_wk (ps_if hc ha hb) fun D σ H ⟨c, F, δ, E, S, h, L⟩ => ⟨c, F, δ, _, S, h, fun b0 δ1 h1 F1 H1 e1 S1 => by
    cases b0 with
    | true =>
      replace h1 := h1.1 rfl
      simp only [if_true]
      exact ⟨c, F1, δ1, E, S1, h1, L.mono e1⟩
    | false =>
      replace h1 := h1.2 (by decide)
      simp only [if_false, Bool.false_eq_true]
      exact ⟨c, F1, δ1, E, S1, h1, L.mono e1⟩⟩
theorem asg_sound {i : Nat} : ∀ D σ H, liftS X.K (sAsg i ra) D σ H → tAsg (liftV X.K ra) (gName i) D σ H := fun D σ H ⟨c, F, δ, E, S, h, L⟩ => ⟨c, F, δ, _, S, h, fun w δ1 h1 v F1 H1 e1 S1 r1 => by
  cases w with
  | slot j => exact h1.elim
  | obj _ => exact h1.elim
  | val d =>
    obtain ⟨h2, h3⟩ := h1
    rw [ss_eq] at h3
    exact L.nx _ h3 _ F1 H1 e1 (S1.asg (okSet_io h2) r1)⟩
/-! ### targets -/
abbrev DG := D → DS → (DS → Prop) → Prop
abbrev DGs := List D → DS → (DS → Prop) → Prop
/-- vs: the slots that may be written -/
def Apart (σ σ' : L2.St) (vs : List Nat) : Prop := σ'.length = σ.length ∧ ∀ j, j ∉ vs → σ'[j]? = σ[j]?
def liftG (K : PySem.W.Frag) (vs : List Nat) (g : DG) : TG := fun v σ H Q => ∃ c F δ d P, StOk K c F σ H δ ∧ Rep K F d v ∧ g d δ P ∧ ∀ δ', P δ' → ∀ σ' F' H', Same F F' → StOk K c F' σ' H' δ' → Apart σ σ' vs → Q σ' H'
def liftGs (K : PySem.W.Frag) (vs : List Nat) (g : DGs) : TGs := fun us σ H Q => ∃ c F δ ds P, StOk K c F σ H δ ∧ Reps K F ds us ∧ g ds δ P ∧ ∀ δ', P δ' → ∀ σ' F' H', Same F F' → StOk K c F' σ' H' δ' → Apart σ σ' vs → Q σ' H'
def dName (i : Nat) : DG := fun d δ Q => okSet δ i = true ∧ Q (ss δ i (.frz d))
def dNil : DGs := fun ds δ Q => match ds with
  | [] => Q δ
  | _ => False
def dCons (g : DG) (gs : DGs) : DGs := fun ds δ Q => match ds with
  | d :: ds => g d δ fun δ1 => gs ds δ1 Q
  | [] => False
def dTup (n : Nat) (gs : DGs) : DG := fun d δ Q => match d with
  | .tup ds => ds.length = n ∧ gs ds δ Q
  | _ => False
theorem Apart.trans {σ σ1 σ2 : L2.St} {vs ws : List Nat} (h1 : Apart σ σ1 vs) (h2 : Apart σ1 σ2 ws) : Apart σ σ2 (vs ++ ws) :=
  ⟨h2.1.trans h1.1, fun j hj => (h2.2 j fun z => hj (List.mem_append_right _ z)).trans (h1.2 j fun z => hj (List.mem_append_left _ z))⟩
theorem Apart.rfl {σ : L2.St} {vs : List Nat} : Apart σ σ vs := ⟨Eq.refl _, fun _ _ => Eq.refl _⟩
theorem pg_wk {tg : Expr} {g g' : TG} (h : PG X tg g) (w : ∀ v σ H Q, g' v σ H Q → g v σ H Q) : PG X tg g' := ⟨fun pins s σ H v u Q I r q => h.run pins s σ H v u Q I r (w v σ H Q q)⟩
theorem pgs_wk {tg : List Expr} {g g' : TGs} (h : PGs X tg g) (w : ∀ v σ H Q, g' v σ H Q → g v σ H Q) : PGs X tg g' := ⟨fun pins s σ H v u Q I r q => h.run pins s σ H v u Q I r (w v σ H Q q)⟩
theorem g_name {i : Nat} {tg : Expr} (h : PG X tg (gName i)) : PG X tg (liftG X.K [i] (dName i)) := pg_wk h fun v σ H Q ⟨c, F, δ, d, P, S, r, h, k⟩ => by
  obtain ⟨h1, h2⟩ := h
  rw [ss_eq] at h2
  refine k _ h2 _ F H (Same.refl _) (S.asg (okSet_io h1) r) ⟨by rw [List.length_set], fun j hj => ?_⟩
  rw [List.getElem?_set_ne]
  intro z
  exact hj (by rw [z]; exact List.mem_singleton_self _)
theorem g_nil : PGs X [] (liftGs X.K [] dNil) := pgs_wk pgs_nil fun us σ H Q ⟨c, F, δ, ds, P, S, r, h, k⟩ => by
  cases ds with
  | nil => exact ⟨r.unnil, k _ h σ F H (Same.refl _) S .rfl⟩
  | cons _ _ => exact h.elim
theorem g_cons {vs ws : List Nat} {g : DG} {gs : DGs} (h1 : PG X e (liftG X.K vs g)) (h2 : PGs X es (liftGs X.K ws gs)) (hs : (assignEach (e :: es) X.env).map (·.2) = assign e X.env :: (assignEach es X.env).map (·.2) := by rfl) :
    PGs X (e :: es) (liftGs X.K (vs ++ ws) (dCons g gs)) := pgs_wk (pgs_cons h1 h2 hs) fun us σ H Q ⟨c, F, δ, ds, P, S, r, h, k⟩ => by
  cases ds with
  | nil => exact h.elim
  | cons d ds =>
    obtain ⟨v, ws, rfl, r1, r2⟩ := r.uncons
    exact ⟨v, ws, rfl, c, F, δ, d, _, S, r1, h, fun δ1 h1 σ1 F1 H1 e1 S1 a1 => ⟨c, F1, δ1, ds, P, S1, Reps.mono e1 _ _ r2, h1, fun δ2 h2 σ2 F2 H2 e2 S2 a2 => k _ h2 σ2 F2 H2 (e1.trans e2) S2 (a1.trans a2)⟩⟩
theorem g_tup {vs : List Nat} {gs : DGs} {k : Nat} {n : Nat} (hc : X.calm = true) (h : PGs X es (liftGs X.K vs gs)) (hn : (assignEach es X.env).length = n := by rfl) (hst : (assignEach es X.env).findIdx? (·.1) = none := by rfl) :
    PG X (.Tuple es k pos) (liftG X.K vs (dTup n gs)) := pg_wk (pg_tup hc h hn hst) fun v σ H Q ⟨c, F, δ, d, P, S, r, h, k⟩ => by
  cases d with
  | tup ds =>
    simp only [Rep] at r
    obtain ⟨a, us, rfl, r1, r2⟩ := r
    exact ⟨a, us, rfl, same_t S.sub r1, by rw [r2.len]; exact h.1, c, F, δ, ds, P, S, r2, h.2, k⟩
  | _ => exact h.elim
/-- target = data -/
def sTgt (r : DV) (g : DG) : DSt := fun E δ => r δ fun w δ1 => match w with
  | .val d => g d δ1 E.nx
  | _ => False
/-! ### what is walked -/
abbrev DI := DS → (List D → DS → Prop) → Prop
structure SrcOk (K : PySem.W.Frag) (c : Ct) (J : It) (F0 : Hp) (items : List D) : Prop where
  stop : ∀ F σ H δ, Same F0 F → StOk K c F σ H δ → J.stop items.length H
  go : ∀ i F σ H δ, i < items.length → Same F0 F → StOk K c F σ H δ → J.go i H
  yld : ∀ i d F σ H δ x H', items[i]? = some d → Same F0 F → StOk K c F σ H δ → J.yld i H x H' → ∃ F', Same F F' ∧ StOk K c F' σ H' δ ∧ Rep K F' d x ∧ ∀ p o, Free c F σ δ p → H p = some o → Free c F' σ δ p ∧ H' p = some o
def liftI (K : PySem.W.Frag) (r : DI) : TI := fun σ H R => ∃ c F δ P, StOk K c F σ H δ ∧ r δ P ∧ ∀ items δ', P items δ' → ∀ J F' H', Same F F' → StOk K c F' σ H' δ' → (∀ c, SrcOk K c J F' items) → R J H'
theorem pi_wk {tg iter : Expr} {w w' : TI} (h : PI X tg iter w) (k : ∀ σ H R, w' σ H R → w σ H R) : PI X tg iter w' := ⟨fun pins s σ H R I q => h.run pins s σ H R I (k σ H R q)⟩
theorem src_list {a : Addr} {F0 : Hp} {ds : List D} {vs : List V} (h : F0 a = some (.lst vs)) (r : Reps K F0 ds vs) : SrcOk K c (Itl K a) F0 ds := by
  have at' : ∀ {F σ H δ}, Same F0 F → StOk K c F σ H δ → H a = some (.lst vs) := fun e S => S.sub _ _ (e _ _ h)
  refine ⟨fun F σ H δ e S => ⟨vs, SqL.of (at' e S), by rw [r.len]; exact Nat.le_refl _⟩, fun i F σ H δ hi e S => ?_, fun i d F σ H δ x H' hi e S y => ?_⟩
  · have hi' : i < vs.length := by rw [r.len]; exact hi
    exact ⟨vs, vs[i], SqL.of (at' e S), List.getElem?_eq_getElem hi'⟩
  · obtain ⟨e1, y⟩ := y
    subst e1
    obtain ⟨v, h1, h2⟩ := r.get hi
    have h3 := y vs (SqL.of (at' e S))
    rw [h1] at h3
    cases h3
    exact ⟨F, Same.refl _, S, Rep.mono e _ _ h2, fun p o f hp => ⟨f, hp⟩⟩
theorem src_rol {a : Addr} {F0 : Hp} {ds : List D} {vs : List V} (h : SqL K F0 a vs) (r : Reps K F0 ds vs) : SrcOk K c (Itl K a) F0 ds := by
  have at' : ∀ {F σ H δ}, Same F0 F → StOk K c F σ H δ → SqL K H a vs := fun e S => same_l S.sub (same_l e h)
  refine ⟨fun F σ H δ e S => ⟨vs, (at' e S), by rw [r.len]; exact Nat.le_refl _⟩, fun i F σ H δ hi e S => ?_, fun i d F σ H δ x H' hi e S y => ?_⟩
  · have hi' : i < vs.length := by rw [r.len]; exact hi
    exact ⟨vs, vs[i], (at' e S), List.getElem?_eq_getElem hi'⟩
  · obtain ⟨e1, y⟩ := y
    subst e1
    obtain ⟨v, h1, h2⟩ := r.get hi
    have h3 := y vs (at' e S)
    rw [h1] at h3
    cases h3
    exact ⟨F, Same.refl _, S, Rep.mono e _ _ h2, fun p o f hp => ⟨f, hp⟩⟩
theorem src_tup {a : Addr} {F0 : Hp} {ds : List D} {vs : List V} (h : SqT K F0 a vs) (r : Reps K F0 ds vs) : SrcOk K c (Itt K a) F0 ds := by
  have at' : ∀ {F σ H δ}, Same F0 F → StOk K c F σ H δ → SqT K H a vs := fun e S => same_t S.sub (same_t e h)
  refine ⟨fun F σ H δ e S => ⟨vs, (at' e S), by rw [r.len]; exact Nat.le_refl _⟩, fun i F σ H δ hi e S => ?_, fun i d F σ H δ x H' hi e S y => ?_⟩
  · have hi' : i < vs.length := by rw [r.len]; exact hi
    exact ⟨vs, vs[i], (at' e S), List.getElem?_eq_getElem hi'⟩
  · obtain ⟨e1, y⟩ := y
    subst e1
    obtain ⟨v, h1, h2⟩ := r.get hi
    have h3 := y vs (at' e S)
    rw [h1] at h3
    cases h3
    exact ⟨F, Same.refl _, S, Rep.mono e _ _ h2, fun p o f hp => ⟨f, hp⟩⟩
def rngD (lo hi : Int) : List D := (List.range (hi - lo).toNat).map fun (k : Nat) => .int (lo + (k : Int))
theorem rngD_len (lo hi : Int) : (rngD lo hi).length = (hi - lo).toNat := by unfold rngD; rw [List.length_map, List.length_range]
theorem src_rng {lo up : Int} {F0 : Hp} : SrcOk K c (Itr lo (up - lo).toNat) F0 (rngD lo up) := by
  refine ⟨fun F σ H δ e S => by rw [rngD_len]; exact Nat.le_refl _, fun i F σ H δ hi e S => by rw [rngD_len] at hi; exact hi, fun i d F σ H δ x H' hi e S y => ?_⟩
  obtain ⟨e1, y⟩ := y
  subst e1 y
  refine ⟨F, Same.refl _, S, ?_, fun p o f hp => ⟨f, hp⟩⟩
  have hl : i < (rngD lo up).length := (List.getElem?_eq_some_iff.mp hi).1
  have e2 : (rngD lo up)[i]? = some (.int (lo + (i : Int))) := by
    unfold rngD at hl ⊢
    rw [List.length_map, List.length_range] at hl
    rw [List.getElem?_map, List.getElem?_range hl]
    rfl
  rw [e2] at hi
  cases hi
  simp only [Rep]
def iRng1D (r : DA) : DI := fun δ Q => r δ fun ws δ1 => match ws with
  | [.val (.int n)] => (-(2 ^ 62) ≤ n ∧ n < 2 ^ 62) ∧ Q (rngD 0 n) δ1
  | _ => False
def iRng2D (r : DA) : DI := fun δ Q => r δ fun ws δ1 => match ws with
  | [.val (.int m), .val (.int n)] => (-(2 ^ 62) ≤ m ∧ m < 2 ^ 62 ∧ -(2 ^ 62) ≤ n ∧ n < 2 ^ 62) ∧ Q (rngD m n) δ1
  | _ => False
theorem int_of {F : Hp} {σ : L2.St} {v : V} {i : Int} (hv : VwRel X.K F σ (.val (.int i)) v) : v = .int i := by simpa only [VwRel, Rep] using hv
theorem i_rng1 {a : Expr} {rs : DA} {tg : Expr} {p pos : Pos} (hg : Gl X "range") (hm : X.mg "range" = none) (ha : PA X [a] (liftA X.K rs)) (hs : starEach [a] X.env = [(false, eval a X.env)] := by rfl) :
    PI X tg (.Call (.Name "range" p) [a] [] pos) (liftI X.K (iRng1D rs)) := pi_wk (pi_range1 hg hm ha hs) fun σ H R ⟨c, F, δ, P, S, h, k⟩ => ⟨c, F, δ, _, S, h, fun ws δ1 h1 vs F1 H1 e1 S1 r1 => by
  match ws, h1, r1 with
  | [.val (.int n)], h1, r1 =>
    obtain ⟨v, us, rfl, g1, g2⟩ := r1
    have e2 : us = [] := g2
    subst e2
    rw [int_of g1]
    refine ⟨n, rfl, h1.1.1, h1.1.2, ?_⟩
    have z := k _ _ h1.2 (Itr 0 (n - 0).toNat) F1 H1 e1 S1 (fun _ => src_rng)
    rw [Int.sub_zero] at z
    exact z⟩
/-! ### for -/
def rLoop (g : DG) (body : DSt) (E : DE) : List D → DS → Prop
  | [], δ => E.nx δ
  | d :: ds, δ => g d δ fun δ1 => body { nx := rLoop g body E ds, rt := E.rt, bk := E.nx, ct := rLoop g body E ds } δ1
inductive BoxL (f : List D → DS → Prop) : Type where
  | mk
/-- a loop over these items -/
def loopD (items : List D) (δ : DS) {f : List D → DS → Prop} (_ : BoxL f) : Prop := f items δ
def sFor (rs : DI) (g : DG) (body : DSt) : DSt := fun E δ => rs δ fun items δ1 => loopD items δ1 (BoxL.mk : BoxL (rLoop g body E))
theorem s_for {tg iter : Expr} {body : List Stmt} {rs : DI} {vs : List Nat} {g : DG} {rb : DSt} (hp : PassesOwn (model X.prog X.w) X.A X.env X.xe) (hc : X.calm = true) (hi : PI X tg iter (liftI X.K rs)) (hg : PG X tg (liftG X.K vs g)) (hb : PSs X body (liftS X.K rb))
    (hs : ∀ x, foldedSetIterable iter X.env x = pure x := by intro _; rfl) : PS X (.For tg iter body [] pos) (liftS X.K (sFor rs g rb)) := ps_wk (ps_for hp hc hi hg hb hs) fun D σ H ⟨c, F, δ, E, S, h, L⟩ => by
  refine ⟨c, F, δ, _, S, h, fun items δ' hP J F' H' e' S' so => ?_⟩
  replace so := so c
  refine ⟨fun i m σ H => m = items.length - i ∧ i ≤ items.length ∧ ∃ F2 δ2, Same F' F2 ∧ StOk X.K c F2 σ H δ2 ∧ rLoop g rb E (items.drop i) δ2, ⟨_, rfl, Nat.zero_le _, F', δ', Same.refl _, S', hP⟩, ?_⟩
  rintro i m σ2 H2 ⟨rfl, hi, F2, δ2, e2, S2, q⟩
  by_cases hlt : i < items.length
  · have hd : items.drop i = items[i] :: items.drop (i + 1) := List.drop_eq_getElem_cons hlt
    rw [hd] at q
    refine Or.inr ⟨so.go i F2 σ2 H2 δ2 hlt e2 S2, fun σ' H' => ∃ F3 δ3, Same F' F3 ∧ StOk X.K c F3 σ' H' δ3 ∧ rLoop g rb E (items.drop (i + 1)) δ3, fun σ' H' ⟨F3, δ3, e3, S3, q3⟩ => ⟨items.length - (i + 1), by omega, rfl, hlt, F3, δ3, e3, S3, q3⟩, fun x H3 y => ?_⟩
    obtain ⟨F3, e3, S3, r3, _⟩ := so.yld i items[i] F2 σ2 H2 δ2 x H3 (List.getElem?_eq_getElem hlt) e2 S2 y
    refine ⟨c, F3, δ2, items[i], _, S3, r3, q, fun δ4 h4 σ4 F4 H4 e4 S4 _ => ⟨c, F4, δ4, _, S4, h4, ?_⟩⟩
    have base : Same F' F4 := (e2.trans e3).trans e4
    exact ⟨fun δ5 h5 σ5 F5 H5 e5 S5 => ⟨F5, δ5, base.trans e5, S5, h5⟩, fun r δ5 h5 v σ5 F5 H5 e5 S5 r5 => L.rt r δ5 h5 v σ5 F5 H5 ((e'.trans base).trans e5) S5 r5,
      fun δ5 h5 σ5 F5 H5 e5 S5 => L.nx δ5 h5 σ5 F5 H5 ((e'.trans base).trans e5) S5, fun δ5 h5 σ5 F5 H5 e5 S5 => ⟨F5, δ5, base.trans e5, S5, h5⟩⟩
  · have hi' : i = items.length := by omega
    subst hi'
    rw [List.drop_length] at q
    exact Or.inl ⟨so.stop F2 σ2 H2 δ2 e2 S2, L.nx _ q σ2 F2 H2 (e'.trans e2) S2⟩
/-! ### while -/
def rWhile (t : DT) (body : DSt) (E : DE) : Nat → DS → Prop
  | 0, _ => False
  | n + 1, δ => t δ fun k δ1 => brD (k = true) (bx (A := body { nx := rWhile t body E n, rt := E.rt, bk := E.nx, ct := rWhile t body E n } δ1) (B := E.nx δ1))
def whileD (δ : DS) {f : List D → DS → Prop} (_ : BoxL f) : Prop := f [] δ
def sWhile (t : DT) (body : DSt) : DSt := fun E δ => whileD δ (BoxL.mk : BoxL (fun _ δ => ∃ n, rWhile t body E n δ))
end
end Dl
/-! Dl: comprehensions, calls of the text's own defs, a def's promise at the level of data. -/
namespace Dl
open PySem L2
/-! ### comprehensions -/
theorem wipe_out' {σ : L2.St} {i : Nat} : ∀ {vs : List Nat}, i ∉ vs → (wipe σ vs)[i]? = σ[i]?
  | [], _ => rfl
  | v :: vs, h => by
    simp only [List.mem_cons, not_or] at h
    unfold wipe
    rw [List.getElem?_set_ne (fun z => h.1 z.symm)]
    exact wipe_out' h.2
theorem wipe_in {σ : L2.St} {i : Nat} : ∀ {vs : List Nat}, i ∈ vs → ∀ o, (wipe σ vs)[i]? = some o → o = none
  | [], h, _, _ => by cases h
  | v :: vs, h, o, e => by
    unfold wipe at e
    rcases getset e with ⟨_, e1⟩ | ⟨e1, e2⟩
    · exact e1
    · rcases List.mem_cons.mp h with z | z
      · exact absurd z e1
      · exact wipe_in z o e2
theorem wipe_eq {σ σ' : L2.St} {vs : List Nat} (a : Apart (wipe σ vs) σ' vs) : wipe σ' vs = wipe σ vs := by
  have hl : σ'.length = σ.length := by rw [a.1, wipe_length]
  refine List.ext_getElem? fun j => ?_
  by_cases hj : j ∈ vs
  · by_cases hlt : j < σ.length
    · have h1 : j < (wipe σ' vs).length := by rw [wipe_length, hl]; exact hlt
      have h2 : j < (wipe σ vs).length := by rw [wipe_length]; exact hlt
      rw [List.getElem?_eq_getElem h1, List.getElem?_eq_getElem h2, wipe_in hj _ (List.getElem?_eq_getElem h1), wipe_in hj _ (List.getElem?_eq_getElem h2)]
    · rw [List.getElem?_eq_none (by rw [wipe_length, hl]; omega), List.getElem?_eq_none (by rw [wipe_length]; omega)]
  · rw [wipe_out' hj, a.2 j hj]
/-- the block's own names are forgotten -/
def dWipe (δ : DS) : List Nat → DS
  | [] => δ
  | v :: vs => ss (dWipe δ vs) v .no
def okWipe (δ : DS) : List Nat → Bool
  | [] => true
  | v :: vs => okSet (dWipe δ vs) v && okWipe δ vs
section
variable {K : PySem.W.Frag} {c : Ct} {F H F' H' : Hp} {σ σ' : L2.St} {δ : DS}
theorem StOk.wipe : ∀ {vs : List Nat}, StOk K c F σ H δ → okWipe δ vs = true → StOk K c F σ H (dWipe δ vs)
  | [], S, _ => S
  | v :: vs, S, h => by
    unfold okWipe at h
    rw [Bool.and_eq_true] at h
    unfold dWipe
    rw [ss_eq]
    exact (StOk.wipe S h.2).forget (okSet_io h.1)
theorem dWipe_in : ∀ {vs : List Nat} {j : Nat} {s : Sl}, j ∈ vs → (dWipe δ vs)[j]? = some s → s = .no
  | [], _, _, h, _ => by cases h
  | v :: vs, j, s, h, e => by
    unfold dWipe at e
    rw [ss_eq] at e
    rcases getset e with ⟨_, e1⟩ | ⟨e1, e2⟩
    · exact e1
    · rcases List.mem_cons.mp h with z | z
      · exact absurd z e1
      · exact dWipe_in z e2
/-- the names outside are the same ones -/
theorem StOk.move {vs : List Nat} (S : StOk K c F σ H (dWipe δ vs)) (a : Apart σ σ' vs) : StOk K c F σ' H (dWipe δ vs) := by
  refine ⟨S.sub0, S.sub, S.fz, ⟨by rw [a.1]; exact S.len.le, fun i s hi h => S.len.hid i s (by rw [← a.1]; exact hi) h⟩, fun i s o h1 h2 => ?_, fun i j l io x io' x' h1 h2 h3 h4 => ?_, fun p hp => ?_, S.tt, S.tz, fun i T hi b nd hb => ?_⟩
  · by_cases hi : i ∈ vs
    · rw [dWipe_in hi h1]
      trivial
    · rw [a.2 i hi] at h2
      exact S.sl i s o h1 h2
  · have hi : i ∉ vs := fun z => by cases dWipe_in z h1
    have hj : j ∉ vs := fun z => by cases dWipe_in z h2
    rw [a.2 i hi] at h3
    rw [a.2 j hj] at h4
    exact S.dis i j l io x io' x' h1 h2 h3 h4
  · obtain ⟨⟨x, h1⟩, h2⟩ := S.io p hp
    have hi : p.1 ∉ vs := fun z => by cases dWipe_in z h1
    exact ⟨⟨x, h1⟩, by rw [a.2 _ hi]; exact h2⟩
  · have N := S.st i T hi b nd hb
    refine ⟨N.f, N.z, N.h, fun j io x hj => ?_⟩
    have hjv : j ∉ vs := fun z => by cases dWipe_in z hj
    rw [a.2 j hjv]
    exact N.o j io x hj
theorem Free.move {vs : List Nat} {p : Addr} (f : Free c F σ (dWipe δ vs) p) (a : Apart σ σ' vs) : Free c F σ' (dWipe δ vs) p := ⟨f.f, f.z, fun i io x h1 h2 => by
  have hi : i ∉ vs := fun z => by cases dWipe_in z h1
  rw [a.2 i hi] at h2
  exact f.o i io x h1 h2, f.s⟩
theorem Free.wipe {vs : List Nat} {p : Addr} (f : Free c F σ δ p) : Free c F σ (dWipe δ vs) p := ⟨f.f, f.z, fun i io x h1 h2 => by
  have : ∀ {vs : List Nat}, (dWipe δ vs)[i]? = some (.own io x) → δ[i]? = some (.own io x) := fun {vs} => by
    induction vs with
    | nil => exact id
    | cons v vs ih =>
      intro e
      unfold dWipe at e
      rw [ss_eq] at e
      rcases getset e with ⟨_, e1⟩ | ⟨_, e2⟩
      · cases e1
      · exact ih e2
  exact f.o i io x (this h1) h2, fun i T hi => by
  have : ∀ {vs : List Nat}, (dWipe δ vs)[i]? = some (.sto T) → δ[i]? = some (.sto T) := fun {vs} => by
    induction vs with
    | nil => exact id
    | cons v vs ih =>
      intro e
      unfold dWipe at e
      rw [ss_eq] at e
      rcases getset e with ⟨_, e1⟩ | ⟨_, e2⟩
      · cases e1
      · exact ih e2
  exact f.s i T (this hi)⟩
/-- one more foreign object -/
def Ct.with (c : Ct) (p : Addr) (o : HO) : Ct := { c with Z := upd c.Z p o }
theorem StOk.guard (S : StOk K c F σ H δ) {p : Addr} {o : HO} (f : Free c F σ δ p) (h : H p = some o) (n : NT o := by trivial) : StOk K (c.with p o) F σ H δ := by
  refine ⟨S.sub0, S.sub, fun a u e => ?_, S.len, fun i s q h1 h2 => ?_, S.dis, S.io, S.tt, fun q hq => ?_, fun i T hi b nd hb => ?_⟩
  · by_cases ha : a = p
    · subst ha
      have e' : upd c.Z a o a = some u := e
      rw [upd_same] at e'
      cases e'
      exact ⟨h, f.f⟩
    · have e' : upd c.Z p o a = some u := e
      rw [upd_ne ha] at e'
      exact S.fz a u e'
  · have q0 := S.sl i s q h1 h2
    cases s with
    | no => trivial
    | frz d => exact q0
    | own io x =>
      obtain ⟨l, ho, k1, k2, k3, k4, k5⟩ := q0
      refine ⟨l, ho, k1, k2, ?_, k4, k5⟩
      show upd c.Z p o l = none
      rw [upd_ne fun z => f.o i io x h1 (by rw [h2, k1, z])]
      exact k3
    | sto T => exact q0
  · show upd c.Z p o q.1 = none
    rw [upd_ne fun e => S.tt.nt hq (by rw [e]; exact h) n]
    exact S.tz q hq
  · have N := S.st i T hi b nd hb
    refine ⟨N.f, ?_, N.h, N.o⟩
    show upd c.Z p o b = none
    rw [upd_ne fun e => by rw [e, f.s i T hi] at hb; cases hb]
    exact N.z
theorem StOk.unguard {p : Addr} {o : HO} (hz : c.Z p = none) (S : StOk K (c.with p o) F σ H δ) : StOk K c F σ H δ ∧ Free c F σ δ p ∧ H p = some o := by
  obtain ⟨h1, h2⟩ := S.fz p o upd_same
  have hne : ∀ a u, c.Z a = some u → a ≠ p := fun a u e z => by
    subst z
    rw [hz] at e
    cases e
  refine ⟨⟨S.sub0, S.sub, fun a u e => S.fz a u (by show upd c.Z p o a = some u; rw [upd_ne (hne a u e)]; exact e), S.len, fun i s q k1 k2 => ?_, S.dis, S.io, S.tt, fun q hq => ?_, fun i T hi b nd hb => ?_⟩, ⟨h2, hz, fun i io x k1 k2 => ?_, fun i T hi => ?_⟩, h1⟩
  · have q0 := S.sl i s q k1 k2
    cases s with
    | no => trivial
    | frz d => exact q0
    | own io x =>
      obtain ⟨l, ho, m1, m2, m3, m4, m5⟩ := q0
      refine ⟨l, ho, m1, m2, ?_, m4, m5⟩
      have m3' : upd c.Z p o l = none := m3
      by_cases hl : l = p
      · rw [hl]
        exact hz
      · rw [upd_ne hl] at m3'
        exact m3'
    | sto T => exact q0
  · have z : upd c.Z p o q.1 = none := S.tz q hq
    by_cases e : q.1 = p
    · rw [e]
      exact hz
    · rw [upd_ne e] at z
      exact z
  · have N := S.st i T hi b nd hb
    refine ⟨N.f, ?_, N.h, N.o⟩
    have z : upd c.Z p o b = none := N.z
    by_cases e : b = p
    · rw [e]
      exact hz
    · rw [upd_ne e] at z
      exact z
  · obtain ⟨l, ho, m1, m2, m3, m4, m5⟩ := S.sl i _ _ k1 k2
    cases m1
    have m3' : upd c.Z p o p = none := m3
    rw [upd_same] at m3'
    cases m3'
  · cases q : T p with
    | none => rfl
    | some nd =>
      have z : upd c.Z p o p = none := (S.st i T hi p nd q).z
      rw [upd_same] at z
      cases z
theorem StOk.updFree (S : StOk K c F σ H δ) {p : Addr} {o ho : HO} (f : Free c F σ δ p) (h : H p = some ho) (n : NT ho := by trivial) : StOk K c F σ (upd H p o) δ := by
  have hn : ∀ {a u}, F a = some u → a ≠ p := fun e => ne_of_none e f.f
  have hz : ∀ {a u}, c.Z a = some u → a ≠ p := fun e => ne_of_none e f.z
  refine ⟨S.sub0, fun a u e => by rw [upd_ne (hn e)]; exact S.sub a u e, fun a u e => by rw [upd_ne (hz e)]; exact S.fz a u e, S.len, fun i s q h1 h2 => ?_, S.dis, S.io, S.tt.put h n, S.tz, fun i T hi b nd hb => by
    have N := S.st i T hi b nd hb
    have hb2 : b ≠ p := fun e => by rw [e, f.s i T hi] at hb; cases hb
    refine ⟨N.f, N.z, ?_, N.o⟩
    obtain ⟨ho, q1, q2⟩ := N.h
    exact ⟨ho, by rw [upd_ne hb2]; exact q1, q2⟩⟩
  have q0 := S.sl i s q h1 h2
  cases s with
  | no => trivial
  | sto T => exact q0
  | frz d => exact q0
  | own io x =>
    obtain ⟨l, ho, k1, k2, k3, k4, k5⟩ := q0
    refine ⟨l, ho, k1, k2, k3, ?_, k5⟩
    rw [upd_ne fun z => f.o i io x h1 (by rw [h2, k1, z])]
    exact k4
theorem Free.grow {F1 : Hp} {p : Addr} (f : Free c F σ δ p) (h : F1 p = none) : Free c F1 σ δ p := ⟨h, f.z, f.o, f.s⟩
end
def compGo (g : DG) (t : DT) (e : DV) (vs : List Nat) (Q : List D → DS → Prop) : List D → List D → DS → Prop
  | [], acc, δ => Q acc δ
  | d :: ds, acc, δ => g d δ fun δ1 => t δ1 fun b δ2 => brD (b = true) (bx (A := e δ2 fun w δ3 => match w with
      | .val y => acc.length < 16777216 ∧ okWipe δ3 vs = true ∧ compGo g t e vs Q ds (acc ++ [y]) (dWipe δ3 vs)
      | _ => False) (B := okWipe δ2 vs = true ∧ compGo g t e vs Q ds acc (dWipe δ2 vs)))
def rComp (vs : List Nat) (rs : DI) (g : DG) (t : DT) (e : DV) : DF := fun δ Q => rs δ fun items δ1 => okWipe δ1 vs = true ∧ loopD items (dWipe δ1 vs) (BoxL.mk : BoxL fun items δ => compGo g t e vs (fun acc δ2 => okWipe δ2 vs = true ∧ Q acc (dWipe δ2 vs)) items [] δ)
def rYes : DT := fun δ Q => Q true δ
theorem apart_wipe {σ : L2.St} {vs : List Nat} : Apart σ (wipe σ vs) vs := ⟨wipe_length _ _, fun _ hj => wipe_out' hj⟩
theorem Apart.sym {σ σ' : L2.St} {vs : List Nat} (a : Apart σ σ' vs) : Apart σ' σ vs := ⟨a.1.symm, fun j hj => (a.2 j hj).symm⟩
theorem comp_sound {K : PySem.W.Frag} {rs : DI} {vs gv : List Nat} {g : DG} {t : DT} {e : DV} (hgv : ∀ j ∈ gv, j ∈ vs) : ∀ σ H Q, liftF K (rComp vs rs g t e) σ H Q → tLc (liftI K rs) (liftG K gv g) (liftT K t) (liftV K e) vs σ H Q := fun σ H Q ⟨c, F, δ, P, S, h, k⟩ => by
  refine ⟨c, F, δ, _, S, h, fun items δ' hP J F' H' e' S' so Dl hD => ?_⟩
  replace so := so c
  obtain ⟨ok0, hP⟩ := hP
  have S0 := (S'.wipe ok0).move (σ' := wipe σ vs) apart_wipe
  obtain ⟨S1, f1⟩ := S0.fresh (o := .lst []) hD
  refine ⟨fun i m H => m = items.length - i ∧ i ≤ items.length ∧ ∃ F2 δ2 acc us, Same F' F2 ∧ StOk K c F2 (wipe σ vs) H δ2 ∧ Free c F2 (wipe σ vs) δ2 Dl ∧ H Dl = some (.lst us) ∧ Reps K F2 acc us ∧
      compGo g t e vs (fun acc δ2 => okWipe δ2 vs = true ∧ P acc (dWipe δ2 vs)) (items.drop i) acc δ2, ⟨_, rfl, Nat.zero_le _, F', _, [], [], Same.refl _, S1, f1, upd_same, Reps.nil, hP⟩, ?_⟩
  rintro i m H2 ⟨rfl, hi, F2, δ2, acc, us, e2, S2, f2, h2, r2, q⟩
  by_cases hlt : i < items.length
  · have hd : items.drop i = items[i] :: items.drop (i + 1) := List.drop_eq_getElem_cons hlt
    rw [hd] at q
    refine Or.inr ⟨so.go i F2 _ H2 δ2 hlt e2 S2, fun H' => ∃ F3 δ3 acc us, Same F' F3 ∧ StOk K c F3 (wipe σ vs) H' δ3 ∧ Free c F3 (wipe σ vs) δ3 Dl ∧ H' Dl = some (.lst us) ∧ Reps K F3 acc us ∧
      compGo g t e vs (fun acc δ2 => okWipe δ2 vs = true ∧ P acc (dWipe δ2 vs)) (items.drop (i + 1)) acc δ3, fun H' ⟨F3, δ3, acc3, us3, e3, S3, f3, h3, r3, q3⟩ => ⟨items.length - (i + 1), by omega, rfl, hlt, F3, δ3, acc3, us3, e3, S3, f3, h3, r3, q3⟩, fun x H3 y => ?_⟩
    obtain ⟨F3, e3, S3, r3, kf⟩ := so.yld i items[i] F2 _ H2 δ2 x H3 (List.getElem?_eq_getElem hlt) e2 S2 y
    obtain ⟨f3, h3⟩ := kf Dl _ f2 h2
    have S3g := S3.guard f3 h3
    have hz := f3.z
    refine ⟨c.with Dl (.lst us), F3, δ2, items[i], _, S3g, r3, q, fun δ4 h4 σ4 F4 H4 e4 S4 a4 => ?_⟩
    have a4' : Apart (wipe σ vs) σ4 vs := ⟨a4.1, fun j hj => a4.2 j fun z => hj (hgv j z)⟩
    refine ⟨wipe_eq a4', c.with Dl (.lst us), F4, δ4, _, S4, h4, fun b δ5 h5 F5 H5 e5 S5 => ?_⟩
    cases b with
    | false =>
      replace h5 := h5.2 (by decide)
      simp only [if_false, Bool.false_eq_true]
      obtain ⟨ok5, h5⟩ := h5
      obtain ⟨S6, f6, h6⟩ := S5.unguard hz
      exact ⟨F5, _, acc, us, ((e2.trans e3).trans e4).trans e5, (S6.wipe ok5).move a4'.sym, f6.wipe.move a4'.sym, h6, Reps.mono ((e3.trans e4).trans e5) _ _ r2, h5⟩
    | true =>
      replace h5 := h5.1 rfl
      simp only [if_true]
      refine ⟨c.with Dl (.lst us), F5, δ5, _, S5, h5, fun w δ6 h6 v F6 H6 e6 S6 r6 => ?_⟩
      cases w with
      | slot j => exact h6.elim
      | obj _ => exact h6.elim
      | val yd =>
        obtain ⟨hl, ok6, h6⟩ := h6
        obtain ⟨S7, f7, h7⟩ := S6.unguard hz
        have rr := Reps.mono (((e3.trans e4).trans e5).trans e6) _ _ r2
        refine ⟨us, h7, ?_, F6, _, acc ++ [yd], us ++ [v], (((e2.trans e3).trans e4).trans e5).trans e6, ?_, ?_, upd_same, Reps.append rr (Reps.cons r6 Reps.nil), h6⟩
        · have := rr.len
          rw [this, sizeLine_eq]
          exact hl
        · exact (S7.updFree f7 h7).wipe ok6 |>.move a4'.sym
        · exact f7.wipe.move a4'.sym
  · have hi' : i = items.length := by omega
    subst hi'
    rw [List.drop_length] at q
    obtain ⟨ok9, q⟩ := q
    have S9 := (S2.wipe ok9).move (σ' := σ) apart_wipe.sym
    exact Or.inl ⟨so.stop F2 _ H2 δ2 e2 S2, k _ _ q Dl us F2 H2 (e'.trans e2) S9 (f2.wipe.move apart_wipe.sym) h2 r2⟩
/-! ### a def's promise -/
inductive Ar where
  | val (d : D) | io (x : Cn)
/-- the arguments, with the addresses of those that come back -/
inductive ArsOk (K : PySem.W.Frag) (F H : Hp) : List Ar → List V → List Addr → Prop where
  | nil : ArsOk K F H [] [] []
  | val {d : D} {v : V} {as : List Ar} {vs : List V} {ls : List Addr} : Rep K F d v → ArsOk K F H as vs ls → ArsOk K F H (.val d :: as) (v :: vs) ls
  | io {x : Cn} {l : Addr} {ho : HO} {as : List Ar} {vs : List V} {ls : List Addr} : F l = none → H l = some ho → CRep K F x ho → ArsOk K F H as vs ls → ArsOk K F H (.io x :: as) (.ref l :: vs) (l :: ls)
inductive OutsOk (K : PySem.W.Frag) (F H : Hp) : List Cn → List Addr → Prop where
  | nil : OutsOk K F H [] []
  | cons {x : Cn} {l : Addr} {ho : HO} {xs : List Cn} {ls : List Addr} : F l = none → H l = some ho → CRep K F x ho → OutsOk K F H xs ls → OutsOk K F H (x :: xs) (l :: ls)
/-- the arguments; what is wanted of the result and of what comes back -/
abbrev DSp := List Ar → (Ret → List Cn → Prop) → Prop
def RRel (K : PySem.W.Frag) (F H H0 : Hp) (ls : List Addr) (r : Ret) (v : V) : Prop :=
  match r with
  | .v d => Rep K F d v
  | .f ds => ∃ p vs, v = .ref p ∧ F p = none ∧ H0 p = none ∧ H p = some (.lst vs) ∧ Reps K F ds vs
def spD (K : PySem.W.Frag) (n : Nat) (S : DSp) : Sp := fun vs H Q _ => ∃ F as ls P, vs.length = n ∧ Same F H ∧ ArsOk K F H as vs ls ∧ ls.Nodup ∧ TOk K F H ∧ S as P ∧
  ∀ r outs, P r outs → ∀ v F' H', Same F F' → Same F' H' → (∀ a o, H a = some o → F a = none → a ∉ ls → a ∉ (LTabs K).map (·.1) → H' a = some o ∧ F' a = none) → OutsOk K F' H' outs ls → TOk K F' H' → RRel K F' H' H ls r v → Q v H'
def startD : Nat → List Ar → DS
  | n, [] => List.replicate n .no
  | n, .val d :: as => .frz d :: startD (n - 1) as
  | n, .io x :: as => .own true x :: startD (n - 1) as
/-- what stands at the places of the arguments that come back -/
def outsOf : Nat → List Ar → DS → List Cn
  | n, .io _ :: as, δ => (match sg δ n with
    | .own _ x => x
    | _ => .lst []) :: outsOf (n + 1) as δ
  | n, .val _ :: as, δ => outsOf (n + 1) as δ
  | _, [], _ => []
def iosOf : Nat → List Ar → List Addr → List (Nat × Addr)
  | n, .io _ :: as, l :: ls => (n, l) :: iosOf (n + 1) as ls
  | n, .val _ :: as, ls => iosOf (n + 1) as ls
  | _, _, _ => []
end Dl
/-! Dl: a def's promise shown by its body; a call of such a def. -/
namespace Dl
open PySem PySem.Spec PyProof.Rows L2
section
variable {K : PySem.W.Frag} {F H : Hp}
theorem ArsOk.lens {as : List Ar} {vs : List V} {ls : List Addr} (h : ArsOk K F H as vs ls) : as.length = vs.length := by
  induction h with
  | nil => rfl
  | val _ _ ih => simp only [List.length_cons, ih]
  | io _ _ _ _ ih => simp only [List.length_cons, ih]
theorem ArsOk.mem {as : List Ar} {vs : List V} {ls : List Addr} (h : ArsOk K F H as vs ls) : ∀ l ∈ ls, F l = none ∧ ∃ ho, H l = some ho := by
  induction h with
  | nil => intro l hl; cases hl
  | val _ _ ih => exact ih
  | io h1 h2 _ _ ih =>
    intro l hl
    rcases List.mem_cons.mp hl with rfl | hl
    · exact ⟨h1, _, h2⟩
    · exact ih l hl
theorem startD_len : ∀ (as : List Ar) (n : Nat), as.length ≤ n → (startD n as).length = n
  | [], n, _ => by simp [startD]
  | .val d :: as, n, h => by
    simp only [List.length_cons] at h
    simp only [startD, List.length_cons, startD_len as (n - 1) (by omega)]
    omega
  | .io x :: as, n, h => by
    simp only [List.length_cons] at h
    simp only [startD, List.length_cons, startD_len as (n - 1) (by omega)]
    omega
theorem rep_none {m i : Nat} {s : Sl} (h : (List.replicate m Sl.no)[i]? = some s) : s = .no := by
  rw [List.getElem?_replicate] at h
  split at h
  · exact (Option.some.inj h).symm
  · cases h
theorem start_sl {c : Ct} {as : List Ar} {vs : List V} {ls : List Addr} (h : ArsOk K F H as vs ls) : ∀ (m : Nat), (∀ l ∈ ls, c.Z l = none) → ∀ (i : Nat) (s : Sl) (o : Option V), (startD (vs.length + m) as)[i]? = some s → (vs.map some ++ List.replicate m none)[i]? = some o → SlOk K c F H s o := by
  induction h with
  | nil =>
    intro m _ i s o h1 h2
    simp only [startD] at h1
    rw [rep_none h1]
    trivial
  | @val d v as vs ls r _ ih =>
    intro m hz i s o h1 h2
    simp only [startD, List.length_cons] at h1
    cases i with
    | zero =>
      simp at h1 h2
      subst h1 h2
      exact ⟨v, rfl, r⟩
    | succ i =>
      simp only [List.getElem?_cons_succ, List.map_cons, List.cons_append] at h1 h2
      rw [show vs.length + 1 + m - 1 = vs.length + m by omega] at h1
      exact ih m hz i s o h1 h2
  | @io x l ho as vs ls h1' h2' h3' _ ih =>
    intro m hz i s o h1 h2
    simp only [startD, List.length_cons] at h1
    cases i with
    | zero =>
      simp at h1 h2
      subst h1 h2
      exact ⟨l, ho, rfl, h1', hz l (List.mem_cons_self), h2', h3'⟩
    | succ i =>
      simp only [List.getElem?_cons_succ, List.map_cons, List.cons_append] at h1 h2
      rw [show vs.length + 1 + m - 1 = vs.length + m by omega] at h1
      exact ih m (fun l hl => hz l (List.mem_cons_of_mem _ hl)) i s o h1 h2
theorem start_own {as : List Ar} {vs : List V} {ls : List Addr} (h : ArsOk K F H as vs ls) : ∀ (m i : Nat) (io : Bool) (x : Cn) (l : Addr), (startD (vs.length + m) as)[i]? = some (.own io x) → (vs.map some ++ List.replicate m none)[i]? = some (some (.ref l)) → l ∈ ls := by
  induction h with
  | nil =>
    intro m i io x l h1 h2
    simp only [startD] at h1
    cases rep_none h1
  | @val d v as vs ls r _ ih =>
    intro m i io x l h1 h2
    simp only [startD, List.length_cons] at h1
    cases i with
    | zero =>
      simp at h1
    | succ i =>
      simp only [List.getElem?_cons_succ, List.map_cons, List.cons_append] at h1 h2
      rw [show vs.length + 1 + m - 1 = vs.length + m by omega] at h1
      exact ih m i io x l h1 h2
  | @io x' l' ho as vs ls h1' h2' h3' _ ih =>
    intro m i io x l h1 h2
    simp only [startD, List.length_cons] at h1
    cases i with
    | zero =>
      simp at h2
      subst h2
      exact List.mem_cons_self
    | succ i =>
      simp only [List.getElem?_cons_succ, List.map_cons, List.cons_append] at h1 h2
      rw [show vs.length + 1 + m - 1 = vs.length + m by omega] at h1
      exact List.mem_cons_of_mem _ (ih m i io x l h1 h2)
theorem start_dis {as : List Ar} {vs : List V} {ls : List Addr} (h : ArsOk K F H as vs ls) : ls.Nodup → ∀ (m i j : Nat) (l : Addr) (io : Bool) (x : Cn) (io' : Bool) (x' : Cn), (startD (vs.length + m) as)[i]? = some (.own io x) → (startD (vs.length + m) as)[j]? = some (.own io' x') →
    (vs.map some ++ List.replicate m none)[i]? = some (some (.ref l)) → (vs.map some ++ List.replicate m none)[j]? = some (some (.ref l)) → i = j := by
  induction h with
  | nil =>
    intro _ m i j l io x io' x' h1 h2 h3 h4
    simp only [startD] at h1
    cases rep_none h1
  | @val d v as vs ls r hh ih =>
    intro hn m i j l io x io' x' h1 h2 h3 h4
    simp only [startD, List.length_cons] at h1 h2
    cases i with
    | zero => simp at h1
    | succ i =>
      cases j with
      | zero => simp at h2
      | succ j =>
        simp only [List.getElem?_cons_succ, List.map_cons, List.cons_append] at h1 h2 h3 h4
        rw [show vs.length + 1 + m - 1 = vs.length + m by omega] at h1 h2
        rw [ih hn m i j l io x io' x' h1 h2 h3 h4]
  | @io x0 l0 ho as vs ls h1' h2' h3' hh ih =>
    intro hn m i j l io x io' x' h1 h2 h3 h4
    have hn' := List.nodup_cons.mp hn
    simp only [startD, List.length_cons] at h1 h2
    cases i with
    | zero =>
      cases j with
      | zero => rfl
      | succ j =>
        simp only [List.getElem?_cons_succ, List.map_cons, List.cons_append] at h1 h2 h3 h4
        rw [show vs.length + 1 + m - 1 = vs.length + m by omega] at h2
        simp at h3
        subst h3
        exact absurd (start_own hh m j io' x' _ h2 h4) hn'.1
    | succ i =>
      cases j with
      | zero =>
        simp only [List.getElem?_cons_succ, List.map_cons, List.cons_append] at h1 h2 h3 h4
        rw [show vs.length + 1 + m - 1 = vs.length + m by omega] at h1
        simp at h4
        subst h4
        exact absurd (start_own hh m i io x _ h1 h3) hn'.1
      | succ j =>
        simp only [List.getElem?_cons_succ, List.map_cons, List.cons_append] at h1 h2 h3 h4
        rw [show vs.length + 1 + m - 1 = vs.length + m by omega] at h1 h2
        rw [ih hn'.2 m i j l io x io' x' h1 h2 h3 h4]
theorem start_io {as : List Ar} {vs : List V} {ls : List Addr} (h : ArsOk K F H as vs ls) : ∀ (m n : Nat), ∀ p ∈ iosOf n as ls, ∃ j, p.1 = n + j ∧ (∃ x, (startD (vs.length + m) as)[j]? = some (.own true x)) ∧ (vs.map some ++ List.replicate m none)[j]? = some (some (.ref p.2)) := by
  induction h with
  | nil => intro m n p hp; cases hp
  | @val d v as vs ls r hh ih =>
    intro m n p hp
    simp only [iosOf] at hp
    obtain ⟨j, h1, ⟨x, h2⟩, h3⟩ := ih m (n + 1) p hp
    refine ⟨j + 1, by omega, ⟨x, ?_⟩, ?_⟩
    · simp only [startD, List.length_cons, List.getElem?_cons_succ]
      rw [show vs.length + 1 + m - 1 = vs.length + m by omega]
      exact h2
    · simp only [List.map_cons, List.cons_append, List.getElem?_cons_succ]
      exact h3
  | @io x0 l0 ho as vs ls h1' h2' h3' hh ih =>
    intro m n p hp
    simp only [iosOf] at hp
    rcases List.mem_cons.mp hp with rfl | hp
    · exact ⟨0, rfl, ⟨x0, by simp [startD]⟩, by simp⟩
    · obtain ⟨j, h1, ⟨x, h2⟩, h3⟩ := ih m (n + 1) p hp
      refine ⟨j + 1, by omega, ⟨x, ?_⟩, ?_⟩
      · simp only [startD, List.length_cons, List.getElem?_cons_succ]
        rw [show vs.length + 1 + m - 1 = vs.length + m by omega]
        exact h2
      · simp only [List.map_cons, List.cons_append, List.getElem?_cons_succ]
        exact h3
theorem outs_ok {as : List Ar} {vs : List V} {ls : List Addr} (h : ArsOk K F H as vs ls) {F' H' : Hp} {δ : DS} : ∀ (n : Nat), (∀ p ∈ iosOf n as ls, ∃ x ho, δ[p.1]? = some (.own true x) ∧ F' p.2 = none ∧ H' p.2 = some ho ∧ CRep K F' x ho) → OutsOk K F' H' (outsOf n as δ) ls := by
  induction h with
  | nil =>
    intro n _
    simp only [outsOf]
    exact .nil
  | @val d v as vs ls r hh ih =>
    intro n hp
    simp only [outsOf]
    exact ih (n + 1) fun p hp' => hp p (by simp only [iosOf]; exact hp')
  | @io x0 l0 ho as vs ls h1' h2' h3' hh ih =>
    intro n hp
    obtain ⟨x, ho, q1, q2, q3, q4⟩ := hp (n, l0) (by simp only [iosOf]; exact List.mem_cons_self)
    simp only [outsOf, at_sg q1]
    exact .cons q2 q3 q4 (ih (n + 1) fun p hp' => hp p (by simp only [iosOf]; exact List.mem_cons_of_mem _ hp'))
theorem ios_mem {as : List Ar} {vs : List V} {ls : List Addr} (h : ArsOk K F H as vs ls) : ∀ (n : Nat) (l : Addr), l ∈ ls → ∃ i, (i, l) ∈ iosOf n as ls := by
  induction h with
  | nil => intro n l hl; cases hl
  | val _ _ ih => exact fun n l hl => ih (n + 1) l hl
  | io _ _ _ _ ih =>
    intro n l hl
    rcases List.mem_cons.mp hl with rfl | hl
    · exact ⟨n, by simp only [iosOf]; exact List.mem_cons_self⟩
    · obtain ⟨i, hi⟩ := ih (n + 1) l hl
      exact ⟨i, by simp only [iosOf]; exact List.mem_cons_of_mem _ hi⟩
end
theorem StOk.tail {K : PySem.W.Frag} {c : Ct} {F H : Hp} {σ : L2.St} {δ tl : DS} (S : StOk K c F σ H δ) (hl : δ.length = σ.length) (ht : ∀ s ∈ tl, s = Sl.sto fun _ => none) : StOk K c F σ H (δ ++ tl) := by
  have sp : ∀ (i : Nat) (s : Sl), (δ ++ tl)[i]? = some s → δ[i]? = some s ∨ (σ.length ≤ i ∧ s = .sto fun _ => none) := fun i s h => by
    by_cases hi : i < δ.length
    · rw [List.getElem?_append_left hi] at h
      exact Or.inl h
    · rw [List.getElem?_append_right (by omega)] at h
      exact Or.inr ⟨by omega, ht s (List.mem_of_getElem? h)⟩
  have ow : ∀ (i : Nat) (io : Bool) (x : Cn), (δ ++ tl)[i]? = some (.own io x) → δ[i]? = some (.own io x) := fun i io x h => by
    rcases sp i _ h with h | ⟨_, h⟩
    · exact h
    · cases h
  refine ⟨S.sub0, S.sub, S.fz, ⟨by rw [List.length_append]; omega, fun i s hi h => ?_⟩, fun i s o h1 h2 => ?_, fun i j l io x io' x' h1 h2 h3 h4 => S.dis i j l io x io' x' (ow _ _ _ h1) (ow _ _ _ h2) h3 h4, fun p hp => ?_, S.tt, S.tz, fun i T hi a nd ha => ?_⟩
  · rcases sp i s h with h | ⟨_, h⟩
    · exact S.len.hid i s hi h
    · exact ⟨_, h⟩
  · rcases sp i s h1 with h | ⟨h, _⟩
    · exact S.sl i s o h h2
    · have := (List.getElem?_eq_some_iff.mp h2).1
      omega
  · obtain ⟨⟨x, h1⟩, h2⟩ := S.io p hp
    exact ⟨⟨x, by rw [List.getElem?_append_left (List.getElem?_eq_some_iff.mp h1).1]; exact h1⟩, h2⟩
  · rcases sp i _ hi with h | ⟨_, h⟩
    · have N := S.st i T h a nd ha
      exact ⟨N.f, N.z, N.h, fun j io x hj => N.o j io x (ow _ _ _ hj)⟩
    · cases h
      cases ha
section
open Classical
variable {P : Program} {w : World} {mg : Str → Option Value} {K : PySem.W.Frag} {base : Heap}
/-- THE RULE for a def -/
theorem fn_dT {x qual : Str} {st : Stmt} {f : Addr} {fd : FuncData} {N ps : List Str} {k : Nat} {S : DSp} (tl : DS) (htl : ∀ s ∈ tl, s = Sl.sto fun _ => none) (Fn : Fun K x qual st f fd) (Sc : FnScope N ps (defScope st)) (r : DSt)
    (der : ∀ (cdv : Value), fd.code = cdv → ∀ (A : Around) (outer : List Env) (s : Shared) (H : Hp) (E : XK), Room k (A.deeper (envOfC qual (defScope st) s.heap.objs.size f cdv)) → PSs (cxOf CX0 P w K mg base N qual (defScope st) f cdv A outer s H E).nox (defBody st) (liftS K r))
    (hbody : ∀ as P, as.length = ps.length → S as P → r { nx := fun δ => P (.v .non) (outsOf 0 as δ), rt := fun rt δ => P rt (outsOf 0 as δ) } (startD N.length as ++ tl)) :
    FnOk P w K mg base CX0 (k + 1) f fd ps (spD K ps.length S) := by
  obtain ⟨oc, od, kV, doc, pm, an, cdv, ct, osl, rfl, lk, hcd⟩ := Fn.ex
  refine fn_of lk hcd Sc (fun vs H Q E h => ?_) (fun A outer s H vs Q E hr h => ?_)
  · obtain ⟨_, _, _, _, h, _⟩ := h
    exact h
  obtain ⟨F0, as, ls, Pd, hlen, hs, ha, hn, tk, hS, kk⟩ := h
  have hal : as.length = ps.length := by rw [ha.lens]; exact hlen
  have hNl : ps.length ≤ N.length := by
    rw [← Sc.pre, List.length_take]
    exact Nat.min_le_right _ _
  let c : Ct := { F0 := F0, Z := fun a => if F0 a = none ∧ a ∉ ls ∧ a ∉ (LTabs K).map (·.1) then H a else none, ios := iosOf 0 as ls }
  have hZ1 : ∀ a o, c.Z a = some o → F0 a = none ∧ (a ∉ ls ∧ a ∉ (LTabs K).map (·.1)) ∧ H a = some o := fun a o e => by
    have e' : (if F0 a = none ∧ a ∉ ls ∧ a ∉ (LTabs K).map (·.1) then H a else none) = some o := e
    split at e'
    · next q => exact ⟨q.1, q.2, e'⟩
    · cases e'
  have hZ2 : ∀ a o, H a = some o → F0 a = none → a ∉ ls → a ∉ (LTabs K).map (·.1) → c.Z a = some o := fun a o h1 h2 h3 h4 => by
    show (if F0 a = none ∧ a ∉ ls ∧ a ∉ (LTabs K).map (·.1) then H a else none) = some o
    rw [if_pos ⟨h2, h3, h4⟩]
    exact h1
  have hZ3 : ∀ l ∈ ls, c.Z l = none := fun l hl => by
    cases q : c.Z l with
    | none => rfl
    | some o => exact absurd hl (hZ1 l o q).2.1.1
  have hst : start N vs = vs.map some ++ List.replicate (N.length - vs.length) none := rfl
  have hN : N.length = vs.length + (N.length - vs.length) := by omega
  have S0 : StOk K c F0 (start N vs) H (startD N.length as) := by
    rw [hst]
    have hd : (startD N.length as).length = N.length := startD_len as _ (by omega)
    have hsl : (vs.map some ++ List.replicate (N.length - vs.length) (none : Option V)).length = N.length := by
      rw [List.length_append, List.length_map, List.length_replicate]
      omega
    have ns : ∀ (n : Nat) (as : List Ar) (i : Nat) (T : Sto), (startD n as)[i]? ≠ some (.sto T) := fun n as => by
      induction as generalizing n with
      | nil =>
        intro i T h
        simp only [startD] at h
        cases rep_none h
      | cons a as ih =>
        intro i T h
        cases a with
        | val d =>
          cases i with
          | zero => simp [startD] at h
          | succ i => exact ih (n - 1) i T (by simpa [startD] using h)
        | io x =>
          cases i with
          | zero => simp [startD] at h
          | succ i => exact ih (n - 1) i T (by simpa [startD] using h)
    refine ⟨Same.refl _, hs, fun a o e => ⟨(hZ1 a o e).2.2, (hZ1 a o e).1⟩, ?_, ?_, ?_, ?_, tk, fun p hp => ?_, fun i T hi => absurd hi (ns _ _ i T)⟩
    · refine ⟨by rw [hd, hsl]; exact Nat.le_refl _, fun i s hi h => ?_⟩
      have := (List.getElem?_eq_some_iff.mp h).1
      rw [hd] at this
      rw [hsl] at hi
      omega
    · intro i s o h1 h2
      rw [hN] at h1
      exact start_sl ha _ hZ3 i s o h1 h2
    · intro i j l io x io' x' h1 h2 h3 h4
      rw [hN] at h1 h2
      exact start_dis ha hn _ i j l io x io' x' h1 h2 h3 h4
    · intro p hp
      obtain ⟨j, h1, h2, h3⟩ := start_io ha (N.length - vs.length) 0 p hp
      rw [Nat.zero_add] at h1
      rw [h1]
      rw [← hN] at h2
      exact ⟨h2, h3⟩
    · cases q : c.Z p.1 with
      | none => rfl
      | some o => exact absurd (List.mem_map.mpr ⟨p, hp, rfl⟩) (hZ1 _ o q).2.1.2
  have S0 : StOk K c F0 (start N vs) H (startD N.length as ++ tl) := S0.tail (by
    rw [startD_len as _ (by omega), hst, List.length_append, List.length_map, List.length_replicate]
    omega) htl
  have fin : ∀ (rt : Ret) (δ' : DS), Pd rt (outsOf 0 as δ') → ∀ v σ' F' H', Same F0 F' → StOk K c F' σ' H' δ' → RetRel K c F' σ' H' δ' rt v → Q v H' := fun rt δ' hp v σ' F' H' e1 S1 rr => by
    have hio : ∀ p ∈ iosOf 0 as ls, ∃ x ho, δ'[p.1]? = some (.own true x) ∧ F' p.2 = none ∧ H' p.2 = some ho ∧ CRep K F' x ho := fun p hp => by
      obtain ⟨⟨x, h1⟩, h2⟩ := S1.io p hp
      obtain ⟨l, ho, g1, g2, g3, g4, g5⟩ := S1.own h1
      rw [h2] at g1
      cases g1
      exact ⟨x, ho, h1, g2, g4, g5⟩
    refine kk rt _ hp v F' H' e1 S1.sub (fun a o h1 h2 h3 h4 => S1.fz a o (hZ2 a o h1 h2 h3 h4)) ?_ S1.tt ?_
    · exact outs_ok ha 0 hio
    · cases rt with
      | v d => exact rr
      | f ds =>
        obtain ⟨p, us, rfl, fr, hp', r2⟩ := rr
        refine ⟨p, us, rfl, fr.f, ?_, hp', r2⟩
        cases q : H p with
        | none => rfl
        | some o =>
          have hF : F0 p = none := by
            cases q2 : F0 p with
            | none => rfl
            | some u =>
              have := e1 _ _ q2
              rw [fr.f] at this
              cases this
          by_cases hpl : p ∈ ls
          · obtain ⟨i, hi⟩ := ios_mem ha 0 p hpl
            obtain ⟨⟨x, h1⟩, h2⟩ := S1.io _ hi
            exact absurd h2 (fr.o i true x h1)
          · by_cases hpt : p ∈ (LTabs K).map (·.1)
            · obtain ⟨t, ht, et⟩ := List.mem_map.mp hpt
              exact (S1.tt.nt (o := .lst us) ht (by rw [et]; exact hp') trivial).elim
            · have := hZ2 p o q hF hpl hpt
              rw [fr.z] at this
              cases this
  refine (fun ⟨t, h, q⟩ => ⟨t, PSs.nox h, q⟩ : (∃ t, PSs (cxOf CX0 P w K mg base N qual (defScope st) f cdv A outer s H E).nox (defBody st) t ∧ t { nx := fun _ H' => Q .non H', rt := Q } (start N vs) H) → _) ?_
  exact ⟨liftS K r, der cdv rfl A outer s H E hr, c, F0, startD N.length as ++ tl, _, S0, hbody as Pd hal hS,
    ⟨fun δ' h σ' F' H' e1 S1 => fin (.v .non) δ' h .non σ' F' H' e1 S1 (by show Rep _ _ _ _; simp only [Rep]), fun rt δ' h v σ' F' H' e1 S1 rr => fin rt δ' h v σ' F' H' e1 S1 rr, fun _ h => h.elim, fun _ h => h.elim⟩⟩
theorem fn_d {x qual : Str} {st : Stmt} {f : Addr} {fd : FuncData} {N ps : List Str} {k : Nat} {S : DSp} (Fn : Fun K x qual st f fd) (Sc : FnScope N ps (defScope st)) (r : DSt)
    (der : ∀ (cdv : Value), fd.code = cdv → ∀ (A : Around) (outer : List Env) (s : Shared) (H : Hp) (E : XK), Room k (A.deeper (envOfC qual (defScope st) s.heap.objs.size f cdv)) → PSs (cxOf CX0 P w K mg base N qual (defScope st) f cdv A outer s H E).nox (defBody st) (liftS K r))
    (hbody : ∀ as P, as.length = ps.length → S as P → r { nx := fun δ => P (.v .non) (outsOf 0 as δ), rt := fun rt δ => P rt (outsOf 0 as δ) } (startD N.length as)) :
    FnOk P w K mg base CX0 (k + 1) f fd ps (spD K ps.length S) := fn_dT [] (fun s h => by cases h) Fn Sc r der fun as P h1 h2 => by
  rw [List.append_nil]
  exact hbody as P h1 h2
end
/-! ### a call -/
def arsOf (δ : DS) : List Vw → Option (List Ar)
  | [] => some []
  | .val d :: ws => match arsOf δ ws with
    | some as => some (.val d :: as)
    | none => none
  | .slot i :: ws => match sg δ i, arsOf δ ws with
    | .own _ x, some as => some (.io x :: as)
    | _, _ => none
  | .obj _ :: _ => none
def slotsOf : List Vw → List Nat
  | [] => []
  | .val _ :: ws => slotsOf ws
  | .slot i :: ws => i :: slotsOf ws
  | .obj _ :: ws => slotsOf ws
def putCn (δ : DS) (i : Nat) (x : Cn) : DS := match sg δ i with
  | .own io _ => ss δ i (.own io x)
  | _ => δ
def putOuts : List Nat → List Cn → DS → DS
  | i :: is, x :: xs, δ => putOuts is xs (putCn δ i x)
  | _, _, δ => δ
def noDup : List Nat → Bool
  | [] => true
  | i :: is => !(is.contains i) && noDup is
theorem noDup_ok : ∀ {is : List Nat}, noDup is = true → is.Nodup
  | [], _ => List.nodup_nil
  | i :: is, h => by
    unfold noDup at h
    rw [Bool.and_eq_true] at h
    refine List.nodup_cons.mpr ⟨fun z => ?_, noDup_ok h.2⟩
    have := List.contains_iff_mem.mpr z
    rw [this] at h
    exact absurd h.1 (by decide)
/-- a promise asked for -/
inductive BoxK (k : Ret → List Cn → Prop) : Type where
  | mk
def callD (S : DSp) (as : List Ar) {k : Ret → List Cn → Prop} (_ : BoxK k) : Prop := S as k
def rCall (n : Nat) (S : DSp) (rs : DA) : DV := fun δ Q => rs δ fun ws δ1 => match arsOf δ1 ws with
  | some as => ws.length = n ∧ noDup (slotsOf ws) = true ∧ callD S as (BoxK.mk : BoxK fun r outs => match r with
    | .v d => Q (.val d) (putOuts (slotsOf ws) outs δ1)
    | .f ds => Q (.val (.lst ds)) (putOuts (slotsOf ws) outs δ1))
  | none => False
def rCallF (n : Nat) (S : DSp) (rs : DA) : DF := fun δ Q => rs δ fun ws δ1 => match arsOf δ1 ws with
  | some as => ws.length = n ∧ noDup (slotsOf ws) = true ∧ callD S as (BoxK.mk : BoxK fun r outs => match r with
    | .v _ => False
    | .f ds => Q ds (putOuts (slotsOf ws) outs δ1))
  | none => False
section
variable {K : PySem.W.Frag} {c : Ct} {F H F' H' : Hp} {σ : L2.St} {δ : DS}
theorem VwsRel.len : ∀ {ws : List Vw} {vs : List V}, VwsRel K F σ ws vs → vs.length = ws.length
  | [], vs, h => by rw [show vs = [] from h]; rfl
  | w :: ws, vs, h => by
    obtain ⟨v, us, rfl, _, h2⟩ := h
    simp only [List.length_cons, VwsRel.len h2]
/-- the slots and their addresses -/
inductive SlAd (σ : L2.St) : List Nat → List Addr → Prop where
  | nil : SlAd σ [] []
  | cons {i : Nat} {l : Addr} {is : List Nat} {ls : List Addr} : σ[i]? = some (some (.ref l)) → SlAd σ is ls → SlAd σ (i :: is) (l :: ls)
theorem SlAd.mem {is : List Nat} {ls : List Addr} (h : SlAd σ is ls) : ∀ l ∈ ls, ∃ i ∈ is, σ[i]? = some (some (.ref l)) := by
  induction h with
  | nil => intro l hl; cases hl
  | cons h1 _ ih =>
    intro l hl
    rcases List.mem_cons.mp hl with rfl | hl
    · exact ⟨_, List.mem_cons_self, h1⟩
    · obtain ⟨i, hi, e⟩ := ih l hl
      exact ⟨i, List.mem_cons_of_mem _ hi, e⟩
theorem ars_ok (S : StOk K c F σ H δ) : ∀ {ws : List Vw} {vs : List V} {as : List Ar}, VwsRel K F σ ws vs → arsOf δ ws = some as → ∃ ls, ArsOk K F H as vs ls ∧ SlAd σ (slotsOf ws) ls ∧ ∀ i ∈ slotsOf ws, ∃ io x, δ[i]? = some (.own io x)
  | [], vs, as, h, e => by
    cases e
    rw [show vs = [] from h]
    exact ⟨[], .nil, .nil, fun i hi => by cases hi⟩
  | .val d :: ws, vs, as, h, e => by
    obtain ⟨v, us, rfl, h1, h2⟩ := h
    unfold arsOf at e
    cases q : arsOf δ ws with
    | none => simp only [q] at e; cases e
    | some as' =>
      simp only [q] at e
      cases e
      obtain ⟨ls, g1, g2, g3⟩ := ars_ok S h2 q
      exact ⟨ls, .val h1 g1, g2, g3⟩
  | .slot i :: ws, vs, as, h, e => by
    obtain ⟨v, us, rfl, h1, h2⟩ := h
    unfold arsOf at e
    cases q0 : sg δ i with
    | no => simp only [q0] at e; cases e
    | frz _ => simp only [q0] at e; cases e
    | sto _ => simp only [q0] at e; cases e
    | own io x =>
      cases q : arsOf δ ws with
      | none => simp only [q0, q] at e; cases e
      | some as' =>
        simp only [q0, q] at e
        cases e
        have hq := sg_at q0 (by intro z; cases z)
        obtain ⟨l, ho, k1, k2, k3, k4, k5⟩ := S.own hq
        have hv : v = .ref l := by
          have z : σ[i]? = some (some v) := h1
          rw [k1] at z
          cases z
          rfl
        subst hv
        obtain ⟨ls, g1, g2, g3⟩ := ars_ok S h2 q
        refine ⟨l :: ls, .io k2 k4 k5 g1, .cons k1 g2, fun j hj => ?_⟩
        rcases List.mem_cons.mp hj with rfl | hj
        · exact ⟨io, x, hq⟩
        · exact g3 j hj
  | .obj _ :: ws, vs, as, h, e => by
    unfold arsOf at e
    cases e
theorem slad_nodup (S : StOk K c F σ H δ) {is : List Nat} {ls : List Addr} (h : SlAd σ is ls) : is.Nodup → (∀ i ∈ is, ∃ io x, δ[i]? = some (.own io x)) → ls.Nodup := by
  induction h with
  | nil => intro _ _; exact List.nodup_nil
  | cons h1 h2 ih =>
    intro hn ho
    have hn' := List.nodup_cons.mp hn
    refine List.nodup_cons.mpr ⟨fun hl => ?_, ih hn'.2 fun i hi => ho i (List.mem_cons_of_mem _ hi)⟩
    obtain ⟨j, hj, e⟩ := h2.mem _ hl
    obtain ⟨_, _, o1⟩ := ho _ List.mem_cons_self
    obtain ⟨_, _, o2⟩ := ho j (List.mem_cons_of_mem _ hj)
    have := S.dis _ _ _ _ _ _ _ o1 o2 h1 e
    rw [this] at hn'
    exact hn'.1 hj
theorem putCn_len {i : Nat} {x : Cn} : (putCn δ i x).length = δ.length := by
  unfold putCn
  split
  · rw [ss_eq, List.length_set]
  · rfl
theorem putCn_get {i j : Nat} {x : Cn} {s : Sl} (h : (putCn δ i x)[j]? = some s) : (∃ io y, j = i ∧ s = .own io x ∧ δ[j]? = some (.own io y)) ∨ (δ[j]? = some s ∧ (j = i → ∀ io y, s ≠ .own io y)) := by
  unfold putCn at h
  cases q : sg δ i with
  | no =>
    simp only [q] at h
    exact Or.inr ⟨h, fun e io y z => by subst e; rw [at_sg h, z] at q; cases q⟩
  | frz d =>
    simp only [q] at h
    exact Or.inr ⟨h, fun e io y z => by subst e; rw [at_sg h, z] at q; cases q⟩
  | sto T =>
    simp only [q] at h
    exact Or.inr ⟨h, fun e io y z => by subst e; rw [at_sg h, z] at q; cases q⟩
  | own io y =>
    simp only [q] at h
    rw [ss_eq] at h
    rcases getset h with ⟨e, e1⟩ | ⟨e, e1⟩
    · exact Or.inl ⟨io, y, e, e1, by rw [e]; exact sg_at q (by intro z; cases z)⟩
    · exact Or.inr ⟨e1, fun z => absurd z e⟩
theorem putCn_io {i j : Nat} {x y : Cn} {io : Bool} (h : δ[j]? = some (.own io y)) : ∃ z, (putCn δ i x)[j]? = some (.own io z) := by
  unfold putCn
  cases q : sg δ i with
  | no => exact ⟨y, h⟩
  | frz d => exact ⟨y, h⟩
  | sto T => exact ⟨y, h⟩
  | own io' y' =>
    show ∃ z, (ss δ i (.own io' x))[j]? = some (.own io z)
    rw [ss_eq]
    by_cases e : i = j
    · subst e
      have hh := at_sg h
      rw [q] at hh
      cases hh
      exact ⟨x, by rw [List.getElem?_set_self (List.getElem?_eq_some_iff.mp h).1]⟩
    · exact ⟨y, by rw [List.getElem?_set_ne e]; exact h⟩
/-- behind a call: what stands at a place -/
theorem putOuts_ok {is : List Nat} {ls : List Addr} (h : SlAd σ is ls) : ∀ {δ : DS} {outs : List Cn}, is.Nodup → OutsOk K F' H' outs ls → (putOuts is outs δ).length = δ.length ∧
    (∀ (j : Nat) (io : Bool) (y : Cn), δ[j]? = some (.own io y) → ∃ z, (putOuts is outs δ)[j]? = some (.own io z)) ∧
    ∀ (j : Nat) (s : Sl), (putOuts is outs δ)[j]? = some s → (j ∉ is ∧ δ[j]? = some s) ∨ (j ∈ is ∧ δ[j]? = some s ∧ ∀ io y, s ≠ .own io y) ∨ (∃ io x y l ho, j ∈ is ∧ s = .own io x ∧ δ[j]? = some (.own io y) ∧ σ[j]? = some (some (.ref l)) ∧ F' l = none ∧ H' l = some ho ∧ CRep K F' x ho) := by
  induction h with
  | nil =>
    intro δ outs _ ho
    cases ho
    exact ⟨rfl, fun j io y e => ⟨y, e⟩, fun j s e => Or.inl ⟨fun z => (by cases z), e⟩⟩
  | @cons i l is ls h1 h2 ih =>
    intro δ outs hn ho
    cases ho with
    | @cons x _ ho0 xs _ o1 o2 o3 o4 =>
      have hn' := List.nodup_cons.mp hn
      obtain ⟨g1, g2, g3⟩ := ih (δ := putCn δ i x) hn'.2 o4
      refine ⟨g1.trans putCn_len, fun j io y e => ?_, fun j s e => ?_⟩
      · obtain ⟨z, e1⟩ := putCn_io (i := i) (x := x) e
        exact g2 j io z e1
      · rcases g3 j s e with ⟨n1, e1⟩ | ⟨m1, e1, e2⟩ | ⟨io, x', y, l', ho', m1, e0, e1, e2⟩
        · rcases putCn_get e1 with ⟨io, y, e2, e3, e4⟩ | ⟨e2, e3⟩
          · exact Or.inr (Or.inr ⟨io, x, y, l, ho0, by rw [e2]; exact List.mem_cons_self, e3, e4, by rw [e2]; exact h1, o1, o2, o3⟩)
          · by_cases hj : j = i
            · exact Or.inr (Or.inl ⟨by rw [hj]; exact List.mem_cons_self, e2, e3 hj⟩)
            · exact Or.inl ⟨fun z => by
                rcases List.mem_cons.mp z with z | z
                · exact hj z
                · exact n1 z, e2⟩
        · rcases putCn_get e1 with ⟨io, y, _, e3, _⟩ | ⟨e3, _⟩
          · exact absurd e3 (e2 io x)
          · exact Or.inr (Or.inl ⟨List.mem_cons_of_mem _ m1, e3, e2⟩)
        · rcases putCn_get e1 with ⟨_, _, e3, _, _⟩ | ⟨e3, _⟩
          · rw [e3] at m1
            exact absurd m1 hn'.1
          · exact Or.inr (Or.inr ⟨io, x', y, l', ho', List.mem_cons_of_mem _ m1, e0, e3, e2⟩)
theorem StOk.called (S : StOk K c F σ H δ) {is : List Nat} {ls : List Addr} {outs : List Cn} (sa : SlAd σ is ls) (hn : is.Nodup) (hio : ∀ i ∈ is, ∃ io x, δ[i]? = some (.own io x)) (e1 : Same F F') (e2 : Same F' H')
    (fr : ∀ a o, H a = some o → F a = none → a ∉ ls → a ∉ (LTabs K).map (·.1) → H' a = some o ∧ F' a = none) (ho : OutsOk K F' H' outs ls) (tk : TOk K F' H') : StOk K c F' σ H' (putOuts is outs δ) := by
  obtain ⟨g1, g2, g3⟩ := putOuts_ok sa (δ := δ) hn ho
  have own' : ∀ {j : Nat} {io : Bool} {x : Cn}, (putOuts is outs δ)[j]? = some (.own io x) → ∃ y, δ[j]? = some (.own io y) := fun {j io x} h => by
    rcases g3 j _ h with ⟨_, e⟩ | ⟨_, _, e⟩ | ⟨io', x', y, l, ho, _, e, e3, _⟩
    · exact ⟨x, e⟩
    · exact absurd rfl (e io x)
    · cases e
      exact ⟨y, e3⟩
  refine ⟨S.sub0.trans e1, e2, fun a o e => ?_, ⟨by rw [g1]; exact S.len.le, fun i s hi h => ?_⟩, fun i s o h1 h2 => ?_, fun i j l io x io' x' h1 h2 h3 h4 => ?_, fun p hp => ?_, tk, S.tz, fun i T hi a nd ha => ?_⟩
  · obtain ⟨h1, h2⟩ := S.fz a o e
    refine fr a o h1 h2 (fun hl => ?_) fun hm => by
      obtain ⟨t, ht, et⟩ := List.mem_map.mp hm
      rw [← et, S.tz t ht] at e
      cases e
    obtain ⟨i, hi, hs⟩ := sa.mem a hl
    obtain ⟨io, x, hx⟩ := hio i hi
    obtain ⟨l, ho, k1, k2, k3, _⟩ := S.own hx
    rw [hs] at k1
    cases k1
    rw [e] at k3
    cases k3
  · rcases g3 i s h with ⟨_, e⟩ | ⟨_, e, _⟩ | ⟨io, x, y, l, ho, _, _, e3, _⟩
    · exact S.len.hid i s hi e
    · exact S.len.hid i s hi e
    · have := S.len.lt e3 nofun
      omega
  · rcases g3 i s h1 with ⟨n1, e⟩ | ⟨m1, e, en⟩ | ⟨io, x, y, l, ho, m1, e, e3, e4, e5, e6, e7⟩
    · have q0 := S.sl i s o e h2
      cases s with
      | no => trivial
      | frz d =>
        obtain ⟨v, k1, k2⟩ := q0
        exact ⟨v, k1, Rep.mono e1 _ _ k2⟩
      | own io x =>
        obtain ⟨l, ho, k1, k2, k3, k4, k5⟩ := q0
        have hl : l ∉ ls := fun hl => by
          obtain ⟨j, hj, hs⟩ := sa.mem l hl
          obtain ⟨io', x', hx⟩ := hio j hj
          rw [k1] at h2
          have := S.dis i j l _ _ _ _ e hx h2 hs
          rw [this] at n1
          exact n1 hj
        obtain ⟨m1, m2⟩ := fr l ho k4 k2 hl fun hm => by
          obtain ⟨t, ht, et⟩ := List.mem_map.mp hm
          exact (S.tt.nt ht (by rw [et]; exact k4) k5.nt).elim
        exact ⟨l, ho, k1, m2, k3, m1, k5.mono e1⟩
      | sto T => exact q0
    · have q0 := S.sl i s o e h2
      cases s with
      | no => trivial
      | frz d =>
        obtain ⟨v, k1, k2⟩ := q0
        exact ⟨v, k1, Rep.mono e1 _ _ k2⟩
      | own io x => exact absurd rfl (en io x)
      | sto T => exact q0
    · subst e
      obtain ⟨l', ho', k1, k2, k3, _⟩ := S.own e3
      rw [e4] at k1
      cases k1
      rw [e4] at h2
      cases h2
      exact ⟨l, ho, rfl, e5, k3, e6, e7⟩
  · obtain ⟨_, q1⟩ := own' h1
    obtain ⟨_, q2⟩ := own' h2
    exact S.dis i j l _ _ _ _ q1 q2 h3 h4
  · obtain ⟨⟨x, h1⟩, h2⟩ := S.io p hp
    obtain ⟨z, h3⟩ := g2 _ _ _ h1
    exact ⟨⟨z, h3⟩, h2⟩
  · have hi' : δ[i]? = some (.sto T) := by
      rcases g3 i _ hi with ⟨_, e⟩ | ⟨_, e, _⟩ | ⟨io, x, y, l, ho, _, e, _⟩
      · exact e
      · exact e
      · cases e
    have N := S.st i T hi' a nd ha
    obtain ⟨ho', n1, n2⟩ := N.h
    have hal : a ∉ ls := fun hl => by
      obtain ⟨j, hj, hs⟩ := sa.mem a hl
      obtain ⟨io', x', hx⟩ := hio j hj
      exact N.o j io' x' hx hs
    obtain ⟨m1, m2⟩ := fr a ho' n1 N.f hal fun hm => by
      obtain ⟨t, ht, et⟩ := List.mem_map.mp hm
      exact (S.tt.nt ht (by rw [et]; exact n1) n2.nt).elim
    refine ⟨m2, N.z, ⟨ho', m1, n2.mono e1⟩, fun j io x hj hs => ?_⟩
    obtain ⟨y, hy⟩ := own' hj
    exact N.o j io y hy hs
end
section
variable {X : Cx} {k : Nat} {f : Addr} {fd : FuncData} {ps : List Str} {S : DSp} {x : Str} {p pos : Pos} {e : Expr} {es : List Expr} {rs : DA}
theorem call_sound {n : Nat} : ∀ σ H Q, liftV X.K (rCall n S rs) σ H Q → tCall (spD X.K n S) [] E0 (liftA X.K rs) σ H Q := fun σ H Q ⟨c, F, δ, P, S0, h, kk⟩ => ⟨c, F, δ, _, S0, h, fun ws δ1 h1 vs F1 H1 e1 S1 r1 => by
  cases q : arsOf δ1 ws with
  | none => simp only [q] at h1
  | some as =>
    simp only [q] at h1
    obtain ⟨hl, hn, hS⟩ := h1
    have hn' := noDup_ok hn
    obtain ⟨ls, ha, sa, hio⟩ := ars_ok S1 r1 q
    rw [List.append_nil]
    refine ⟨F1, as, ls, _, by rw [r1.len]; exact hl, S1.sub, ha, slad_nodup S1 sa hn' hio, S1.tt, hS, fun r outs hp v F2 H2 e2 e3 fr ho tk rr => ?_⟩
    have S2 := S1.called sa hn' hio e2 e3 fr ho tk
    cases r with
    | v d => exact kk _ _ hp v F2 H2 (e1.trans e2) S2 rr
    | f ds =>
      obtain ⟨p, us, rfl, f1, f2, f3, f4⟩ := rr
      have free : Free c F2 σ (putOuts (slotsOf ws) outs δ1) p := by
        refine ⟨f1, ?_, fun i io x h1 h2 => ?_, fun i T hi => ?_⟩
        rotate_right
        · cases q2 : T p with
          | none => rfl
          | some nd =>
            exfalso
            have hi' : δ1[i]? = some (.sto T) := by
              obtain ⟨_, _, g3⟩ := putOuts_ok sa (δ := δ1) hn' ho
              rcases g3 i _ hi with ⟨_, e⟩ | ⟨_, e, _⟩ | ⟨io, x, y, l, ho, _, e, _⟩
              · exact e
              · exact e
              · cases e
            obtain ⟨ho', n1, _⟩ := (S1.st i T hi' p nd q2).h
            rw [n1] at f2
            cases f2
        · cases q2 : c.Z p with
          | none => rfl
          | some o =>
            rw [(S1.fz p o q2).1] at f2
            cases f2
        · obtain ⟨l, ho', k1, k2, k3, k4, _⟩ := S2.own h1
          obtain ⟨_, _, g3⟩ := putOuts_ok sa (δ := δ1) hn' ho
          have : ∃ y, δ1[i]? = some (.own io y) := by
            rcases g3 i _ h1 with ⟨_, e⟩ | ⟨_, _, e⟩ | ⟨io', x', y, l, ho, _, e, e3, _⟩
            · exact ⟨x, e⟩
            · exact absurd rfl (e io x)
            · cases e
              exact ⟨y, e3⟩
          obtain ⟨y, hy⟩ := this
          obtain ⟨l2, ho2, m1, m2, m3, m4, _⟩ := S1.own hy
          rw [h2] at m1
          cases m1
          rw [m4] at f2
          cases f2
      obtain ⟨s3, S3⟩ := S2.freeze f3 free
      refine kk _ _ hp _ _ H2 ((e1.trans e2).trans s3) S3 ?_
      show Rep X.K _ (.lst ds) (.ref p)
      simp only [Rep]
      exact ⟨p, us, rfl, upd_same, Reps.mono s3 _ _ f4⟩⟩
theorem callF_sound {n : Nat} : ∀ σ H Q, liftF X.K (rCallF n S rs) σ H Q → tCall (spD X.K n S) [] E0 (liftA X.K rs) σ H Q := fun σ H Q ⟨c, F, δ, P, S0, h, kk⟩ => ⟨c, F, δ, _, S0, h, fun ws δ1 h1 vs F1 H1 e1 S1 r1 => by
  cases q : arsOf δ1 ws with
  | none => simp only [q] at h1
  | some as =>
    simp only [q] at h1
    obtain ⟨hl, hn, hS⟩ := h1
    have hn' := noDup_ok hn
    obtain ⟨ls, ha, sa, hio⟩ := ars_ok S1 r1 q
    rw [List.append_nil]
    refine ⟨F1, as, ls, _, by rw [r1.len]; exact hl, S1.sub, ha, slad_nodup S1 sa hn' hio, S1.tt, hS, fun r outs hp v F2 H2 e2 e3 fr ho tk rr => ?_⟩
    have S2 := S1.called sa hn' hio e2 e3 fr ho tk
    cases r with
    | v d => exact hp.elim
    | f ds =>
      obtain ⟨p, us, rfl, f1, f2, f3, f4⟩ := rr
      have free : Free c F2 σ (putOuts (slotsOf ws) outs δ1) p := by
        refine ⟨f1, ?_, fun i io x h1 h2 => ?_, fun i T hi => ?_⟩
        rotate_right
        · cases q2 : T p with
          | none => rfl
          | some nd =>
            exfalso
            have hi' : δ1[i]? = some (.sto T) := by
              obtain ⟨_, _, g3⟩ := putOuts_ok sa (δ := δ1) hn' ho
              rcases g3 i _ hi with ⟨_, e⟩ | ⟨_, e, _⟩ | ⟨io, x, y, l, ho, _, e, _⟩
              · exact e
              · exact e
              · cases e
            obtain ⟨ho', n1, _⟩ := (S1.st i T hi' p nd q2).h
            rw [n1] at f2
            cases f2
        · cases q2 : c.Z p with
          | none => rfl
          | some o =>
            rw [(S1.fz p o q2).1] at f2
            cases f2
        · obtain ⟨_, _, g3⟩ := putOuts_ok sa (δ := δ1) hn' ho
          have : ∃ y, δ1[i]? = some (.own io y) := by
            rcases g3 i _ h1 with ⟨_, e⟩ | ⟨_, _, e⟩ | ⟨io', x', y, l, ho, _, e, e3, _⟩
            · exact ⟨x, e⟩
            · exact absurd rfl (e io x)
            · cases e
              exact ⟨y, e3⟩
          obtain ⟨y, hy⟩ := this
          obtain ⟨l2, ho2, m1, m2, m3, m4, _⟩ := S1.own hy
          rw [h2] at m1
          cases m1
          rw [m4] at f2
          cases f2
      exact kk _ _ hp p us F2 H2 (e1.trans e2) S2 free f3 f4⟩
end
section
variable {X : Cx} {k j : Nat} {f : Addr} {fd : FuncData} {ps : List Str} {S : DSp} {x : Str} {p pos : Pos} {e : Expr} {es : List Expr} {rs : DA}
theorem e_call (G : FnOk X.prog X.w X.K X.mg X.base CX0 k f fd ps (spD X.K ps.length S)) (hr : Room j X.A) (hkj : k ≤ j) (hm : X.mg x = some (.ref f)) (hk : PySem.W.keepIn X.K (.ref f) = true) (hb : Binds X.K fd ps []) (hg : Gl X x) (ha : PA X (e :: es) (liftA X.K rs)) (hdb : (x == ("__debug__" : Str)) = false := by decide) (he : starEach (e :: es) X.env = (false, eval e X.env) :: starEach es X.env := by rfl) (hpl : (backTo pos (starEach es X.env)).any (·.1) = false := by rfl) :
    PE X (.Call (.Name x p) (e :: es) [] pos) (liftV X.K (rCall ps.length S rs)) := pe_wk (pe_call (E := E0) G (hr.mono hkj) hg hm hk hb .nil pass0 ha hdb he hpl) call_sound
theorem e_callF (G : FnOk X.prog X.w X.K X.mg X.base CX0 k f fd ps (spD X.K ps.length S)) (hr : Room j X.A) (hkj : k ≤ j) (hm : X.mg x = some (.ref f)) (hk : PySem.W.keepIn X.K (.ref f) = true) (hb : Binds X.K fd ps []) (hg : Gl X x) (ha : PA X (e :: es) (liftA X.K rs)) (hdb : (x == ("__debug__" : Str)) = false := by decide) (he : starEach (e :: es) X.env = (false, eval e X.env) :: starEach es X.env := by rfl) (hpl : (backTo pos (starEach es X.env)).any (·.1) = false := by rfl) :
    PE X (.Call (.Name x p) (e :: es) [] pos) (liftF X.K (rCallF ps.length S rs)) := pe_wk (pe_call (E := E0) G (hr.mono hkj) hg hm hk hb .nil pass0 ha hdb he hpl) callF_sound
end
end Dl
/-! Dl: the operations. -/
namespace Dl
open PySem L2 PySem.Spec PyProof.Rows
def addR : R2D
  | .int i, .int j, P => P (.int (i + j))
  | .str s, .str t, P => s.length + t.length ≤ 16777216 ∧ P (.str (s ++ t))
  | .tup xs, .tup ys, P => xs.length + ys.length ≤ 16777216 ∧ P (.tup (xs ++ ys))
  | _, _, _ => False
def subR : R2D
  | .int i, .int j, P => P (.int (i - j))
  | _, _, _ => False
def mulR : R2D
  | .int i, .int j, P => ((-(2 ^ 64) < i ∧ i < 2 ^ 64) ∨ (-(2 ^ 64) < j ∧ j < 2 ^ 64)) ∧ P (.int (i * j))
  | _, _, _ => False
def divR : R2D
  | .int i, .int j, P => (0 < j ∧ j < 1073741824) ∧ P (.int (i / j))
  | _, _, _ => False
def modR : R2D
  | .int i, .int j, P => 0 < j ∧ P (.int (i % j))
  | _, _, _ => False
def powR : R2D
  | .int i, .int j, P => (0 ≤ j ∧ j ≤ 1000000 ∧ i.natAbs < 2 ^ 64) ∧ P (.int (i ^ j.toNat))
  | _, _, _ => False
def cmpR (f : Int → Int → Bool) : R2D
  | .int i, .int j, P => P (.bl (f i j))
  | _, _, _ => False
abbrev ltR : R2D := cmpR fun i j => decide (i < j)
abbrev geR : R2D := cmpR fun i j => decide (j ≤ i)
def isNon : D → Bool
  | .non => true
  | _ => false
def isNR : R2D
  | a, .non, P => P (.bl (isNon a))
  | _, _, _ => False
def isnNR : R2D
  | a, .non, P => P (.bl (!isNon a))
  | _, _, _ => False
def negR : D → (D → Prop) → Prop
  | .int i, P => P (.int (-i))
  | _, _ => False
/-! as the library's data -/
mutual
def toPy : D → PyData
  | .non => .none
  | .bl b => .bool b
  | .int i => .int i
  | .str x => .str x
  | .tup ds => .tuple (toPys ds)
  | .lst ds => .list (toPys ds)
  | .rol ds => .list (toPys ds)
  | .ptr _ => .dict []
  | .ftp ds => .tuple (toPys ds)
def toPys : List D → List PyData
  | [] => []
  | d :: ds => toPy d :: toPys ds
end
def eqP (a b : D) : Bool := PyData.eqv (toPy a) (toPy b)
def shP (a : D) : Bool := SeqAt.shaped (toPy a)
def eqR : R2D
  | .int i, .int j, P => P (.bl (decide (i = j)))
  | .str i, .str j, P => P (.bl (decide (i = j)))
  | .bl i, .bl j, P => P (.bl (decide (i = j)))
  | .non, .non, P => P (.bl true)
  | .non, .int _, P => P (.bl false)
  | .int _, .non, P => P (.bl false)
  | .non, .str _, P => P (.bl false)
  | .str _, .non, P => P (.bl false)
  | .non, .bl _, P => P (.bl false)
  | .bl _, .non, P => P (.bl false)
  | a, b, P => (shP a = true ∧ shP b = true) ∧ P (.bl (eqP a b))
def neR : R2D
  | .int i, .int j, P => P (.bl (!decide (i = j)))
  | .str i, .str j, P => P (.bl (!decide (i = j)))
  | .bl i, .bl j, P => P (.bl (!decide (i = j)))
  | .non, .non, P => P (.bl false)
  | .non, .int _, P => P (.bl true)
  | .int _, .non, P => P (.bl true)
  | .non, .str _, P => P (.bl true)
  | .str _, .non, P => P (.bl true)
  | .non, .bl _, P => P (.bl true)
  | .bl _, .non, P => P (.bl true)
  | a, b, P => (shP a = true ∧ shP b = true) ∧ P (.bl (!eqP a b))
inductive BoxD (f : D → Prop) : Type where
  | mk
/-- an item, if it is there -/
def optD (o : Option D) {f : D → Prop} (_ : BoxD f) : Prop := match o with
  | some d => f d
  | none => False
theorem optD_some {d : D} {f : D → Prop} {b : BoxD f} : optD (some d) b = f d := rfl
theorem optD_of {o : Option D} {f : D → Prop} {b : BoxD f} (h : optD o b) : ∃ d, o = some d ∧ f d := by
  cases o with
  | none => exact h.elim
  | some d => exact ⟨d, rfl, h⟩
def sgn1 (n : Nat) : D := .str ⟨#[n]⟩
def ixR : R2D
  | .lst ds, .int i, P => optD (atI ds i) (BoxD.mk : BoxD P)
  | .rol ds, .int i, P => optD (atI ds i) (BoxD.mk : BoxD P)
  | .tup ds, .int i, P => optD (atI ds i) (BoxD.mk : BoxD P)
  | .str x, .int i, P => x.length ≤ 16777216 ∧ optD ((atI x.cps.toList i).map sgn1) (BoxD.mk : BoxD P)
  | _, _, _ => False
def flatD : D → Bool
  | .non => true
  | .bl _ => true
  | .int _ => true
  | .str _ => true
  | _ => false
def eqF : D → D → Bool
  | .non, .non => true
  | .bl a, .bl b => a == b
  | .bl p, .int m => (if p then 1 else 0) == m
  | .int m, .bl p => m == (if p then 1 else 0)
  | .int a, .int b => a == b
  | .str a, .str b => a == b
  | _, _ => false
def inF (x : D) (xs : List D) : Bool := xs.any fun y => eqF y x
def inR (neg : Bool) : R2D
  | x, .lst ds, P => (flatD x = true ∧ ds.all flatD = true) ∧ P (.bl (if neg then !inF x ds else inF x ds))
  | x, .rol ds, P => (flatD x = true ∧ ds.all flatD = true) ∧ P (.bl (if neg then !inF x ds else inF x ds))
  | x, .tup ds, P => (flatD x = true ∧ ds.all flatD = true) ∧ P (.bl (if neg then !inF x ds else inF x ds))
  | _, _, _ => False
section
variable {K : PySem.W.Frag} {F H : Hp} {v x y : V}
theorem rI_ {i : Int} : Rep K F (.int i) (.int i) := by simp only [Rep]
theorem rB_ {i : Bool} : Rep K F (.bl i) (.bl i) := by simp only [Rep]
theorem rS_ {i : Str} : Rep K F (.str i) (.str i) := by simp only [Rep]
theorem int_v {i : Int} (h : RepV K F H (.int i) v) : v = .int i := by simpa only [RepV, Rep] using h
theorem str_v {i : Str} (h : RepV K F H (.str i) v) : v = .str i := by simpa only [RepV, Rep] using h
theorem bl_v {i : Bool} (h : RepV K F H (.bl i) v) : v = .bl i := by simpa only [RepV, Rep] using h
theorem non_v (h : RepV K F H .non v) : v = .non := by simpa only [RepV, Rep] using h
theorem tup_v {ds : List D} (h : RepV K F H (.tup ds) v) : ∃ a vs, v = .ref a ∧ SqT K F a vs ∧ Reps K F ds vs := by simpa only [RepV, Rep] using h
theorem rol_v {ds : List D} (h : RepV K F H (.rol ds) v) : ∃ a vs, v = .ref a ∧ SqL K F a vs ∧ Reps K F ds vs := by simpa only [RepV, Rep] using h
theorem lst_v {ds : List D} (h : RepV K F H (.lst ds) v) : ∃ a vs, v = .ref a ∧ H a = some (.lst vs) ∧ Reps K F ds vs := h
theorem ptr_v {a : Addr} (h : RepV K F H (.ptr a) v) : v = .ref a := by simpa only [RepV, Rep] using h
theorem ftp_v {ds : List D} (h : RepV K F H (.ftp ds) v) : ∃ a vs ob, v = .ref a ∧ F a = some (.frz ob (.tup vs)) ∧ ob.dict = none ∧ Reps K F ds vs := by simpa only [RepV, Rep] using h
theorem tup_r {a : Addr} {vs : List V} {ds : List D} (h : SqT K F a vs) (r : Reps K F ds vs) : Rep K F (.tup ds) (.ref a) := by
  simp only [Rep]
  exact ⟨a, vs, rfl, h, r⟩
theorem stay {P : Prop} : Grow F H F H := Or.inl ⟨rfl, rfl⟩
/-- a new tuple -/
theorem Grow.tup {p : Addr} {vs : List V} (h : H p = none) : Grow F H (upd F p (.tup vs)) (upd H p (.tup vs)) := Or.inr ⟨p, _, h, rfl, rfl⟩
theorem new_tup {p : Addr} {vs : List V} {ds : List D} (e : Same F H) (h : H p = none) (r : Reps K F ds vs) : Rep K (upd F p (.tup vs)) (.tup ds) (.ref p) :=
  tup_r (SqT.of upd_same) (Reps.mono (same_upd (e.free h)) _ _ r)
/-- two ints -/
theorem os_int {C : Int → Int → Prop} {g : Int → Int → V} {g' : Int → Int → D} {R : R2D} (hg : ∀ F i j, Rep K F (g' i j) (g i j)) (hR : ∀ a b P, R a b P → ∃ i j, a = .int i ∧ b = .int j ∧ C i j ∧ P (g' i j)) : OpS K (rI C g) R := fun F H a b x y P Q e ha hb h k => by
  obtain ⟨i, j, rfl, rfl, hc, hp⟩ := hR a b P h
  exact ⟨i, j, int_v ha, int_v hb, hc, k _ _ F H hp (Or.inl ⟨rfl, rfl⟩) (hg F i j)⟩
theorem os_int0 {g : Int → Int → V} {g' : Int → Int → D} {R : R2D} (hg : ∀ F i j, Rep K F (g' i j) (g i j)) (hR : ∀ a b P, R a b P → ∃ i j, a = .int i ∧ b = .int j ∧ P (g' i j)) : OpS K (rI0 g) R := fun F H a b x y P Q e ha hb h k => by
  obtain ⟨i, j, rfl, rfl, hp⟩ := hR a b P h
  exact ⟨i, j, int_v ha, int_v hb, k _ _ F H hp (Or.inl ⟨rfl, rfl⟩) (hg F i j)⟩
theorem os_sub : OpS K (rI0 fun i j => .int (i - j)) subR := os_int0 (g' := fun i j => .int (i - j)) (fun F i j => rI_) fun a b P h => by
  unfold subR at h
  split at h
  · exact ⟨_, _, rfl, rfl, h⟩
  · exact h.elim
theorem os_cmp {f : Int → Int → Bool} : OpS K (rI0 fun i j => .bl (f i j)) (cmpR f) := os_int0 (g' := fun i j => .bl (f i j)) (fun F i j => rB_) fun a b P h => by
  unfold cmpR at h
  split at h
  · exact ⟨_, _, rfl, rfl, h⟩
  · exact h.elim
theorem os_mul : OpS K (rI CMul fun i j => .int (i * j)) mulR := os_int (g' := fun i j => .int (i * j)) (fun F i j => rI_) fun a b P h => by
  unfold mulR at h
  split at h
  · exact ⟨_, _, rfl, rfl, h.1, h.2⟩
  · exact h.elim
theorem os_div : OpS K (rI CDiv fun i j => .int (i / j)) divR := os_int (g' := fun i j => .int (i / j)) (fun F i j => rI_) fun a b P h => by
  unfold divR at h
  split at h
  · exact ⟨_, _, rfl, rfl, h.1, h.2⟩
  · exact h.elim
theorem os_mod : OpS K (rI (fun _ j => 0 < j) fun i j => .int (i % j)) modR := os_int (g' := fun i j => .int (i % j)) (fun F i j => rI_) fun a b P h => by
  unfold modR at h
  split at h
  · exact ⟨_, _, rfl, rfl, h.1, h.2⟩
  · exact h.elim
theorem os_pow : OpS K (rI CPow fun i j => .int (i ^ j.toNat)) powR := os_int (g' := fun i j => .int (i ^ j.toNat)) (fun F i j => rI_) fun a b P h => by
  unfold powR at h
  split at h
  · exact ⟨_, _, rfl, rfl, h.1, h.2⟩
  · exact h.elim
theorem nil_iff {ds : List D} {vs : List V} (r : Reps K F ds vs) : vs = [] ↔ ds = [] := by
  have := r.len
  constructor
  · intro e
    subst e
    exact List.eq_nil_of_length_eq_zero this.symm
  · intro e
    subst e
    exact r.unnil
theorem os_add : OpS K (fun x y H Q => (rI0 fun i j => .int (i + j)) x y H Q ∨ (∃ i j, x = .str i ∧ y = .str j ∧ i.length + j.length ≤ sizeLine ∧ Q (.str (i ++ j)) H) ∨ rCatA K x y H Q) addR := fun F H a b x y P Q e ha hb h k => by
  unfold addR at h
  split at h
  · exact Or.inl ⟨_, _, int_v ha, int_v hb, k _ _ F H h (Or.inl ⟨rfl, rfl⟩) rI_⟩
  · exact Or.inr (Or.inl ⟨_, _, str_v ha, str_v hb, line_le h.1, k _ _ F H h.2 (Or.inl ⟨rfl, rfl⟩) rS_⟩)
  · obtain ⟨p, us, rfl, s1, r1⟩ := tup_v ha
    obtain ⟨q, ws, rfl, s2, r2⟩ := tup_v hb
    refine Or.inr (Or.inr ⟨p, q, us, ws, rfl, rfl, same_t e s1, same_t e s2, by rw [r1.len, r2.len]; exact line_le h.1, fun z => ?_, fun z1 z2 => ?_, fun z1 z2 m hm => ?_⟩)
    · refine k _ _ F H h.2 (Or.inl ⟨rfl, rfl⟩) ?_
      rw [(nil_iff r1).mp z]
      exact tup_r s2 r2
    · refine k _ _ F H h.2 (Or.inl ⟨rfl, rfl⟩) ?_
      rw [(nil_iff r2).mp z2, List.append_nil]
      exact tup_r s1 r1
    · exact k _ _ _ _ h.2 (Grow.tup hm) (new_tup e hm (Reps.append r1 r2))
  · exact h.elim
theorem op_addD {X : Cx} : OpR X (binaryOp .Add) (fun x y H Q => (rI0 fun i j => .int (i + j)) x y H Q ∨ (∃ i j, x = .str i ∧ y = .str j ∧ i.length + j.length ≤ sizeLine ∧ Q (.str (i ++ j)) H) ∨ rCatA X.K x y H Q) := op_add.or (op_add_str.or op_catA)
theorem isNon_v {a : D} (r : RepV K F H a x) : decide (x = .non) = isNon a := by
  cases a with
  | non => rw [non_v r]; rfl
  | bl _ => rw [bl_v r]; rfl
  | int _ => rw [int_v r]; rfl
  | str _ => rw [str_v r]; rfl
  | tup _ => obtain ⟨_, _, rfl, _⟩ := tup_v r; rfl
  | lst _ => obtain ⟨_, _, rfl, _⟩ := lst_v r; rfl
  | rol _ => obtain ⟨_, _, rfl, _⟩ := rol_v r; rfl
  | ptr _ => rw [ptr_v r]; rfl
  | ftp _ => obtain ⟨_, _, _, rfl, _⟩ := ftp_v r; rfl
theorem os_isN : OpS K (fun x y H Q => y = .non ∧ Q (.bl (decide (x = .non))) H) isNR := fun F H a b x y P Q e ha hb h k => by
  unfold isNR at h
  split at h
  · refine ⟨non_v hb, ?_⟩
    rw [isNon_v ha]
    exact k _ _ F H h (Or.inl ⟨rfl, rfl⟩) rB_
  · exact h.elim
theorem os_isnN : OpS K (fun x y H Q => y = .non ∧ Q (.bl (!decide (x = .non))) H) isnNR := fun F H a b x y P Q e ha hb h k => by
  unfold isnNR at h
  split at h
  · refine ⟨non_v hb, ?_⟩
    rw [isNon_v ha]
    exact k _ _ F H h (Or.inl ⟨rfl, rfl⟩) rB_
  · exact h.elim
/-! == at any depth -/
mutual
def noDic : PyData → Bool
  | .none | .bool _ | .int _ | .str _ => true
  | .list xs | .tuple xs => noDics xs
  | .dict _ => false
def noDics : List PyData → Bool
  | [] => true
  | x :: xs => noDic x && noDics xs
end
mutual
theorem noDic_lay : ∀ d : PyData, d.canLay0 = true → noDic d = true
  | .none, _ => by simp only [noDic]
  | .bool _, _ => by simp only [noDic]
  | .int _, _ => by simp only [noDic]
  | .str _, _ => by simp only [noDic]
  | .list xs, h => by
    simp only [noDic]
    exact noDics_lay xs (by simpa only [PyData.canLay0] using h)
  | .tuple xs, h => by
    simp only [noDic]
    exact noDics_lay xs (by simpa only [PyData.canLay0] using h)
  | .dict _, h => by simp [PyData.canLay0] at h
theorem noDics_lay : ∀ ds : List PyData, PyData.canLayAll0 ds = true → noDics ds = true
  | [], _ => by simp only [noDics]
  | d :: ds, h => by
    simp only [PyData.canLayAll0, Bool.and_eq_true] at h
    simp only [noDics, Bool.and_eq_true]
    exact ⟨noDic_lay d h.1, noDics_lay ds h.2⟩
end
theorem noDic_sh {d : D} (h : shP d = true) : noDic (toPy d) = true := noDic_lay _ (Bool.and_eq_true_iff.mp h).1
mutual
theorem dp_of (e : Same F H) : ∀ (d : D) (v : V), Rep K F d v → noDic (toPy d) = true → Dp K H v (toPy d)
  | .non, v, h, _ => by
    have : v = .non := by simpa only [Rep] using h
    subst this
    exact .non
  | .bl b, v, h, _ => by
    have : v = .bl b := by simpa only [Rep] using h
    subst this
    exact .bl b
  | .int b, v, h, _ => by
    have : v = .int b := by simpa only [Rep] using h
    subst this
    exact .int b
  | .str b, v, h, _ => by
    have : v = .str b := by simpa only [Rep] using h
    subst this
    exact .str b
  | .tup ds, v, h, n => by
    simp only [Rep] at h
    simp only [toPy, noDic] at n
    obtain ⟨a, vs, rfl, h1, h2⟩ := h
    exact .tup (same_t e h1) (dps_of e ds vs h2 n)
  | .lst ds, v, h, n => by
    simp only [Rep] at h
    simp only [toPy, noDic] at n
    obtain ⟨a, vs, rfl, h1, h2⟩ := h
    exact .lst (SqL.of (e _ _ h1)) (dps_of e ds vs h2 n)
  | .rol ds, v, h, n => by
    simp only [Rep] at h
    simp only [toPy, noDic] at n
    obtain ⟨a, vs, rfl, h1, h2⟩ := h
    exact .lst (same_l e h1) (dps_of e ds vs h2 n)
  | .ptr _, v, h, n => by
    simp only [toPy, noDic] at n
    exact absurd n Bool.false_ne_true
  | .ftp ds, v, h, n => by
    simp only [Rep] at h
    simp only [toPy, noDic] at n
    obtain ⟨a, vs, ob, rfl, h1, _, h2⟩ := h
    exact .tup (Or.inl (Or.inr ⟨ob, e _ _ h1⟩)) (dps_of e ds vs h2 n)
theorem dps_of (e : Same F H) : ∀ (ds : List D) (vs : List V), Reps K F ds vs → noDics (toPys ds) = true → DpAll K H vs (toPys ds)
  | [], vs, h, _ => by
    rw [h.unnil]
    exact .nil
  | d :: ds, vs, h, n => by
    obtain ⟨v, us, rfl, h1, h2⟩ := h.uncons
    simp only [toPys, noDics, Bool.and_eq_true] at n
    exact .cons (dp_of e d v h1 n.1) (dps_of e ds us h2 n.2)
end
theorem dp_v (e : Same F H) {d : D} (h : RepV K F H d v) (n : noDic (toPy d) = true) : Dp K H v (toPy d) := by
  cases d with
  | lst ds =>
    obtain ⟨a, vs, rfl, h1, h2⟩ := lst_v h
    simp only [toPy, noDic] at n
    exact .lst (SqL.of h1) (dps_of e ds vs h2 n)
  | _ => exact dp_of e _ _ h n
theorem os_eq : OpS K (fun x y H Q => rEq x y H Q ∨ rEqD K x y H Q) eqR := fun F H a b x y P Q e ha hb h k => by
  have deep : ((shP a = true ∧ shP b = true) ∧ P (.bl (eqP a b))) → rEqD K x y H Q := fun h => ⟨_, _, dp_v e ha (noDic_sh h.1.1), dp_v e hb (noDic_sh h.1.2), h.1.1, h.1.2, k _ _ F H h.2 (Or.inl ⟨rfl, rfl⟩) rB_⟩
  have sc : ∀ {q : Bool}, scal x y = true → P (.bl q) → decide (x = y) = q → rEq x y H Q := fun s p z => ⟨s, by rw [z]; exact k _ _ F H p (Or.inl ⟨rfl, rfl⟩) rB_⟩
  unfold eqR at h
  split at h
  · refine Or.inl (sc ?_ h ?_) <;> rw [int_v ha, int_v hb]
    · rfl
    · simp only [V.int.injEq]
  · refine Or.inl (sc ?_ h ?_) <;> rw [str_v ha, str_v hb]
    · rfl
    · simp only [V.str.injEq]
  · refine Or.inl (sc ?_ h ?_) <;> rw [bl_v ha, bl_v hb]
    · rfl
    · simp only [V.bl.injEq]
  · refine Or.inl (sc ?_ h ?_) <;> rw [non_v ha, non_v hb]
    · rfl
    · rfl
  · refine Or.inl (sc ?_ h ?_) <;> rw [non_v ha, int_v hb] <;> rfl
  · refine Or.inl (sc ?_ h ?_) <;> rw [int_v ha, non_v hb] <;> rfl
  · refine Or.inl (sc ?_ h ?_) <;> rw [non_v ha, str_v hb] <;> rfl
  · refine Or.inl (sc ?_ h ?_) <;> rw [str_v ha, non_v hb] <;> rfl
  · refine Or.inl (sc ?_ h ?_) <;> rw [non_v ha, bl_v hb] <;> rfl
  · refine Or.inl (sc ?_ h ?_) <;> rw [bl_v ha, non_v hb] <;> rfl
  · exact Or.inr (deep h)
theorem os_ne : OpS K (fun x y H Q => rNe x y H Q ∨ rNeD K x y H Q) neR := fun F H a b x y P Q e ha hb h k => by
  have deep : ((shP a = true ∧ shP b = true) ∧ P (.bl (!eqP a b))) → rNeD K x y H Q := fun h => ⟨_, _, dp_v e ha (noDic_sh h.1.1), dp_v e hb (noDic_sh h.1.2), h.1.1, h.1.2, k _ _ F H h.2 (Or.inl ⟨rfl, rfl⟩) rB_⟩
  have sc : ∀ {q : Bool}, scal x y = true → P (.bl q) → (!decide (x = y)) = q → rNe x y H Q := fun s p z => ⟨s, by rw [z]; exact k _ _ F H p (Or.inl ⟨rfl, rfl⟩) rB_⟩
  unfold neR at h
  split at h
  · refine Or.inl (sc ?_ h ?_) <;> rw [int_v ha, int_v hb]
    · rfl
    · simp only [V.int.injEq]
  · refine Or.inl (sc ?_ h ?_) <;> rw [str_v ha, str_v hb]
    · rfl
    · simp only [V.str.injEq]
  · refine Or.inl (sc ?_ h ?_) <;> rw [bl_v ha, bl_v hb]
    · rfl
    · simp only [V.bl.injEq]
  · refine Or.inl (sc ?_ h ?_) <;> rw [non_v ha, non_v hb]
    · rfl
    · rfl
  · refine Or.inl (sc ?_ h ?_) <;> rw [non_v ha, int_v hb] <;> rfl
  · refine Or.inl (sc ?_ h ?_) <;> rw [int_v ha, non_v hb] <;> rfl
  · refine Or.inl (sc ?_ h ?_) <;> rw [non_v ha, str_v hb] <;> rfl
  · refine Or.inl (sc ?_ h ?_) <;> rw [str_v ha, non_v hb] <;> rfl
  · refine Or.inl (sc ?_ h ?_) <;> rw [non_v ha, bl_v hb] <;> rfl
  · refine Or.inl (sc ?_ h ?_) <;> rw [bl_v ha, non_v hb] <;> rfl
  · exact Or.inr (deep h)
/-! items -/
theorem at_reps {ds : List D} {vs : List V} {i : Int} {d : D} (r : Reps K F ds vs) (h : atI ds i = some d) : ∃ v, atI vs i = some v ∧ Rep K F d v := by
  unfold atI at h ⊢
  rw [r.len]
  cases q : ixN ds.length i with
  | none => rw [q] at h; cases h
  | some j =>
    rw [q] at h
    obtain ⟨v, h1, h2⟩ := r.get (show ds[j]? = some d from h)
    exact ⟨v, h1, h2⟩
theorem os_ix : OpS K (rIx K) ixR := fun F H a b x y P Q e ha hb h k => by
  unfold ixR at h
  split at h
  · obtain ⟨p, vs, rfl, h1, h2⟩ := lst_v ha
    obtain ⟨d, q, h⟩ := optD_of h
    obtain ⟨v, g1, g2⟩ := at_reps h2 q
    exact Or.inl ⟨p, vs, _, v, rfl, int_v hb, SqL.of h1, g1, k _ _ F H h (Or.inl ⟨rfl, rfl⟩) g2⟩
  · obtain ⟨p, vs, rfl, h1, h2⟩ := rol_v ha
    obtain ⟨d, q, h⟩ := optD_of h
    obtain ⟨v, g1, g2⟩ := at_reps h2 q
    exact Or.inl ⟨p, vs, _, v, rfl, int_v hb, same_l e h1, g1, k _ _ F H h (Or.inl ⟨rfl, rfl⟩) g2⟩
  · obtain ⟨p, vs, rfl, h1, h2⟩ := tup_v ha
    obtain ⟨d, q, h⟩ := optD_of h
    obtain ⟨v, g1, g2⟩ := at_reps h2 q
    exact Or.inr (Or.inl ⟨p, vs, _, v, rfl, int_v hb, same_t e h1, g1, k _ _ F H h (Or.inl ⟨rfl, rfl⟩) g2⟩)
  · obtain ⟨hl, h⟩ := h
    obtain ⟨d, q, h⟩ := optD_of h
    obtain ⟨n, q2, rfl⟩ := Option.map_eq_some_iff.mp q
    exact Or.inr (Or.inr ⟨_, _, n, str_v ha, int_v hb, line_le hl, q2, k _ _ F H h (Or.inl ⟨rfl, rfl⟩) rS_⟩)
  · exact h.elim
theorem flat_v {d : D} (f : flatD d = true) (r : RepV K F H d v) : flatV v = true ∧ ∀ d' v', flatD d' = true → RepV K F H d' v' → eqV v v' = eqF d d' := by
  have go : ∀ {d : D} {v : V}, flatD d = true → RepV K F H d v → (d = .non ∧ v = .non) ∨ (∃ b, d = .bl b ∧ v = .bl b) ∨ (∃ b, d = .int b ∧ v = .int b) ∨ ∃ b, d = .str b ∧ v = .str b := fun {d v} f r => by
    cases d with
    | non => exact Or.inl ⟨rfl, non_v r⟩
    | bl b => exact Or.inr (Or.inl ⟨b, rfl, bl_v r⟩)
    | int b => exact Or.inr (Or.inr (Or.inl ⟨b, rfl, int_v r⟩))
    | str b => exact Or.inr (Or.inr (Or.inr ⟨b, rfl, str_v r⟩))
    | _ => cases f
  refine ⟨?_, fun d' v' f' r' => ?_⟩
  · rcases go f r with ⟨_, rfl⟩ | ⟨_, _, rfl⟩ | ⟨_, _, rfl⟩ | ⟨_, _, rfl⟩ <;> rfl
  · rcases go f r with ⟨rfl, rfl⟩ | ⟨_, rfl, rfl⟩ | ⟨_, rfl, rfl⟩ | ⟨_, rfl, rfl⟩ <;> rcases go f' r' with ⟨rfl, rfl⟩ | ⟨_, rfl, rfl⟩ | ⟨_, rfl, rfl⟩ | ⟨_, rfl, rfl⟩ <;> rfl
theorem flats_v (e : Same F H) {x : D} {u : V} (fx : flatD x = true) (rx : RepV K F H x u) : ∀ {ds : List D} {vs : List V}, Reps K F ds vs → ds.all flatD = true → vs.all flatV = true ∧ inV u vs = inF x ds
  | [], vs, r, _ => by
    rw [r.unnil]
    exact ⟨rfl, rfl⟩
  | d :: ds, vs, r, h => by
    obtain ⟨v, us, rfl, h1, h2⟩ := r.uncons
    simp only [List.all_cons, Bool.and_eq_true] at h
    have rd : RepV K F H d v := Rep.view e h1
    obtain ⟨g1, g2⟩ := flat_v h.1 rd
    obtain ⟨k1, k2⟩ := flats_v e fx rx h2 h.2
    refine ⟨by simp only [List.all_cons, g1, k1, Bool.and_self], ?_⟩
    unfold inV inF at *
    simp only [List.any_cons, k2, g2 x u fx rx]
theorem os_in {neg : Bool} : OpS K (rIn K neg) (inR neg) := fun F H a b x y P Q e ha hb h k => by
  unfold inR at h
  split at h
  · obtain ⟨p, vs, rfl, h1, h2⟩ := lst_v hb
    obtain ⟨⟨f1, f2⟩, h⟩ := h
    obtain ⟨g1, g2⟩ := flats_v e f1 ha h2 f2
    refine ⟨p, vs, rfl, Or.inl (SqL.of h1), (flat_v f1 ha).1, g1, ?_⟩
    rw [g2]
    exact k _ _ F H h (Or.inl ⟨rfl, rfl⟩) rB_
  · obtain ⟨p, vs, rfl, h1, h2⟩ := rol_v hb
    obtain ⟨⟨f1, f2⟩, h⟩ := h
    obtain ⟨g1, g2⟩ := flats_v e f1 ha h2 f2
    refine ⟨p, vs, rfl, Or.inl (same_l e h1), (flat_v f1 ha).1, g1, ?_⟩
    rw [g2]
    exact k _ _ F H h (Or.inl ⟨rfl, rfl⟩) rB_
  · obtain ⟨p, vs, rfl, h1, h2⟩ := tup_v hb
    obtain ⟨⟨f1, f2⟩, h⟩ := h
    obtain ⟨g1, g2⟩ := flats_v e f1 ha h2 f2
    refine ⟨p, vs, rfl, Or.inr (same_t e h1), (flat_v f1 ha).1, g1, ?_⟩
    rw [g2]
    exact k _ _ F H h (Or.inl ⟨rfl, rfl⟩) rB_
  · exact h.elim
end
/-! ### calls of built-ins -/
def lenR : RND
  | [.lst ds], P => P (.int (ds.length : Nat))
  | [.rol ds], P => P (.int (ds.length : Nat))
  | [.tup ds], P => P (.int (ds.length : Nat))
  | [.str x], P => x.length ≤ 16777216 ∧ P (.int (x.length : Nat))
  | _, _ => False
def absR : RND
  | [.int i], P => P (.int (if i < 0 then -i else i))
  | _, _ => False
def intR : RND
  | [.int i], P => P (.int i)
  | [.bl b], P => P (.int (if b then 1 else 0))
  | _, _ => False
def boolR : RND
  | [.int i], P => P (.bl (i != 0))
  | [.bl b], P => P (.bl b)
  | _, _ => False
def max2R : RND
  | [.int i, .int j], P => P (.int (if j > i then j else i))
  | _, _ => False
def min2R : RND
  | [.int i, .int j], P => P (.int (if j < i then j else i))
  | _, _ => False
def listR : List D → (List D → Prop) → Prop
  | [.lst ds], P => P ds
  | [.rol ds], P => P ds
  | [.tup ds], P => P ds
  | _, _ => False
def tupleR : RND
  | [.lst ds], P => P (.tup ds)
  | [.rol ds], P => P (.tup ds)
  | [.tup ds], P => P (.tup ds)
  | _, _ => False
/-- ints -/
def intsD : List D → Option (List Int)
  | [] => some []
  | .int i :: ds => match intsD ds with
    | some ns => some (i :: ns)
    | none => none
  | _ :: _ => none
theorem intsD_eq : ∀ {ds : List D} {ns : List Int}, intsD ds = some ns → ds = ns.map D.int
  | [], ns, h => by
    cases h
    rfl
  | .int i :: ds, ns, h => by
    unfold intsD at h
    cases q : intsD ds with
    | none => simp only [q] at h; cases h
    | some ms =>
      simp only [q] at h
      cases h
      rw [intsD_eq q]
      rfl
  | .non :: _, _, h => by cases h
  | .bl _ :: _, _, h => by cases h
  | .str _ :: _, _, h => by cases h
  | .tup _ :: _, _, h => by cases h
  | .lst _ :: _, _, h => by cases h
  | .rol _ :: _, _, h => by cases h
theorem intsD_map : ∀ (ns : List Int), intsD (ns.map D.int) = some ns
  | [] => rfl
  | n :: ns => by
    show (match intsD (ns.map D.int) with
      | some ms => some (n :: ms)
      | none => none) = _
    rw [intsD_map ns]
def sumR : RND
  | [.lst ds], P => match intsD ds with
    | some ns => P (.int ns.sum)
    | none => False
  | [.tup ds], P => match intsD ds with
    | some ns => P (.int ns.sum)
    | none => False
  | _, _ => False
/-- sorted(..) of ints -/
def sortedR : List D → (List D → Prop) → Prop
  | [.lst ds], P => match intsD ds with
    | some ns => ∀ ms : List Int, ms.Perm ns → ms.Pairwise (· ≤ ·) → P (ms.map D.int)
    | none => False
  | _, _ => False
section
variable {K : PySem.W.Frag} {F H : Hp} {v x y : V}
theorem one_v {d : D} {xs : List V} (h : RepVs K F H [d] xs) : ∃ v, xs = [v] ∧ RepV K F H d v := by
  obtain ⟨v, us, rfl, h1, h2⟩ := h
  rw [show us = [] from h2]
  exact ⟨v, rfl, h1⟩
theorem two_v {d e : D} {xs : List V} (h : RepVs K F H [d, e] xs) : ∃ v w, xs = [v, w] ∧ RepV K F H d v ∧ RepV K F H e w := by
  obtain ⟨v, us, rfl, h1, w, ws, rfl, h2, h3⟩ := h
  rw [show ws = [] from h3]
  exact ⟨v, w, rfl, h1, h2⟩
theorem cs_len : CallS K (fun xs H Q => ∃ x n, xs = [x] ∧ LenV K x H n ∧ Q (.int n) H) lenR := fun F H ds xs P Q e hr h k => by
  unfold lenR at h
  split at h
  · obtain ⟨v, rfl, r⟩ := one_v hr
    obtain ⟨p, vs, rfl, h1, h2⟩ := lst_v r
    exact ⟨_, _, rfl, Or.inl ⟨vs, SqL.of h1, h2.len.symm⟩, k _ _ F H h (Or.inl ⟨rfl, rfl⟩) rI_⟩
  · obtain ⟨v, rfl, r⟩ := one_v hr
    obtain ⟨p, vs, rfl, h1, h2⟩ := rol_v r
    exact ⟨_, _, rfl, Or.inl ⟨vs, same_l e h1, h2.len.symm⟩, k _ _ F H h (Or.inl ⟨rfl, rfl⟩) rI_⟩
  · obtain ⟨v, rfl, r⟩ := one_v hr
    obtain ⟨p, vs, rfl, h1, h2⟩ := tup_v r
    exact ⟨_, _, rfl, Or.inr ⟨vs, same_t e h1, h2.len.symm⟩, k _ _ F H h (Or.inl ⟨rfl, rfl⟩) rI_⟩
  · obtain ⟨v, rfl, r⟩ := one_v hr
    rw [str_v r]
    exact ⟨_, _, rfl, ⟨line_le h.1, rfl⟩, k _ _ F H h.2 (Or.inl ⟨rfl, rfl⟩) rI_⟩
  · exact h.elim
theorem cs_abs : CallS K (fun xs H Q => ∃ i, xs = [.int i] ∧ Q (.int (if i < 0 then -i else i)) H) absR := fun F H ds xs P Q e hr h k => by
  unfold absR at h
  split at h
  · obtain ⟨v, rfl, r⟩ := one_v hr
    rw [int_v r]
    exact ⟨_, rfl, k _ _ F H h (Or.inl ⟨rfl, rfl⟩) rI_⟩
  · exact h.elim
theorem cs_int : CallS K (fun xs H Q => (∃ i, xs = [.int i] ∧ Q (.int i) H) ∨ ∃ k, xs = [.bl k] ∧ Q (.int (if k then 1 else 0)) H) intR := fun F H ds xs P Q e hr h k => by
  unfold intR at h
  split at h
  · obtain ⟨v, rfl, r⟩ := one_v hr
    rw [int_v r]
    exact Or.inl ⟨_, rfl, k _ _ F H h (Or.inl ⟨rfl, rfl⟩) rI_⟩
  · obtain ⟨v, rfl, r⟩ := one_v hr
    rw [bl_v r]
    exact Or.inr ⟨_, rfl, k _ _ F H h (Or.inl ⟨rfl, rfl⟩) rI_⟩
  · exact h.elim
theorem cs_max2 : CallS K (fun xs H Q => ∃ i j, xs = [.int i, .int j] ∧ Q (.int (if j > i then j else i)) H) max2R := fun F H ds xs P Q e hr h k => by
  unfold max2R at h
  split at h
  · obtain ⟨v, w, rfl, r1, r2⟩ := two_v hr
    rw [int_v r1, int_v r2]
    exact ⟨_, _, rfl, k _ _ F H h (Or.inl ⟨rfl, rfl⟩) rI_⟩
  · exact h.elim
theorem cf_list : CallF K (fun xs H Q => ∃ p ys, xs = [.ref p] ∧ (SqL K H p ys ∨ SqT K H p ys) ∧ ∀ l, H l = none → Q (.ref l) (upd H l (.lst ys))) listR := fun F H ds xs P Q e hr h k => by
  unfold listR at h
  split at h
  · obtain ⟨v, rfl, r⟩ := one_v hr
    obtain ⟨p, vs, rfl, h1, h2⟩ := lst_v r
    exact ⟨p, vs, rfl, Or.inl (SqL.of h1), fun l hl => k _ l vs h hl h2⟩
  · obtain ⟨v, rfl, r⟩ := one_v hr
    obtain ⟨p, vs, rfl, h1, h2⟩ := rol_v r
    exact ⟨p, vs, rfl, Or.inl (same_l e h1), fun l hl => k _ l vs h hl h2⟩
  · obtain ⟨v, rfl, r⟩ := one_v hr
    obtain ⟨p, vs, rfl, h1, h2⟩ := tup_v r
    exact ⟨p, vs, rfl, Or.inr (same_t e h1), fun l hl => k _ l vs h hl h2⟩
  · exact h.elim
theorem cs_tuple : CallS K (fun xs H Q => ∃ p ys, xs = [.ref p] ∧ ((SqL K H p ys ∧ ∀ l, H l = none → Q (.ref l) (upd H l (.tup ys))) ∨ (SqT K H p ys ∧ Q (.ref p) H))) tupleR := fun F H ds xs P Q e hr h k => by
  unfold tupleR at h
  split at h
  · obtain ⟨v, rfl, r⟩ := one_v hr
    obtain ⟨p, vs, rfl, h1, h2⟩ := lst_v r
    exact ⟨p, vs, rfl, Or.inl ⟨SqL.of h1, fun l hl => k _ _ _ _ h (Grow.tup hl) (new_tup e hl h2)⟩⟩
  · obtain ⟨v, rfl, r⟩ := one_v hr
    obtain ⟨p, vs, rfl, h1, h2⟩ := rol_v r
    exact ⟨p, vs, rfl, Or.inl ⟨same_l e h1, fun l hl => k _ _ _ _ h (Grow.tup hl) (new_tup e hl h2)⟩⟩
  · obtain ⟨v, rfl, r⟩ := one_v hr
    obtain ⟨p, vs, rfl, h1, h2⟩ := tup_v r
    exact ⟨p, vs, rfl, Or.inr ⟨same_t e h1, k _ _ F H h (Or.inl ⟨rfl, rfl⟩) (tup_r h1 h2)⟩⟩
  · exact h.elim
theorem cf_sorted : CallF K (rSortedI K) sortedR := fun F H ds xs P Q e hr h k => by
  unfold sortedR at h
  split at h
  · obtain ⟨v, rfl, r⟩ := one_v hr
    obtain ⟨p, vs, rfl, h1, h2⟩ := lst_v r
    split at h
    · next ns q =>
      rw [intsD_eq q] at h2
      exact ⟨p, ns, rfl, by rw [← h2.ints]; exact SqL.of h1, fun ms l g1 g2 hl => k _ l _ (h ms g1 g2) hl (Reps.of_ints ms)⟩
    · exact h.elim
  · exact h.elim
end
/-! ### isinstance -/
def tyD : D → String
  | .non => "NoneType"
  | .bl _ => "bool"
  | .int _ => "int"
  | .str _ => "str"
  | .tup _ => "tuple"
  | .lst _ => "list"
  | .rol _ => "list"
  | .ptr _ => "ptr"
  | .ftp _ => "ftp"
def notPtr : D → Prop
  | .non => True
  | .bl _ => True
  | .int _ => True
  | .str _ => True
  | .tup _ => True
  | .lst _ => True
  | .rol _ => True
  | .ptr _ => False
  | .ftp _ => False
theorem tyX_v {K : PySem.W.Frag} {F H : Hp} {v : V} {d : D} (e : Same F H) (r : RepV K F H d v) (np : notPtr d) : TyX K H v (.type (tyD d)) := by
  cases d with
  | ptr _ => cases np
  | ftp _ => cases np
  | non => rw [non_v r]; exact .base .non
  | bl b => rw [bl_v r]; exact .base (.bl b)
  | int b => rw [int_v r]; exact .base (.int b)
  | str b => rw [str_v r]; exact .base (.str b)
  | tup ds =>
    obtain ⟨a, vs, rfl, h1, h2⟩ := tup_v r
    rcases same_t e h1 with (h | ⟨o, h⟩) | ⟨o, its, n, h, hc, _⟩
    · exact .base (.tup h)
    · exact .fTuple h
    · exact .kTuple h hc
  | lst ds =>
    obtain ⟨a, vs, rfl, h1, h2⟩ := lst_v r
    exact .base (.lst h1)
  | rol ds =>
    obtain ⟨a, vs, rfl, h1, h2⟩ := rol_v r
    rcases same_l e h1 with (h | ⟨o, h⟩) | ⟨o, its, n, h, hc, _⟩
    · exact .base (.lst h)
    · exact .base (.frz h)
    · exact .kList h hc
def isiD (T : String) (d : D) : Bool := tyD d == T || (tyD d == "bool" && T == "int")
theorem isi_all : ∀ t ∈ ["NoneType", "bool", "int", "str", "tuple", "list"], ∀ T ∈ ["tuple", "str", "int", "bool", "list"], kitB t T = some (t == T || (t == "bool" && T == "int")) := by decide +kernel
theorem tyD_mem (d : D) (np : notPtr d) : tyD d ∈ ["NoneType", "bool", "int", "str", "tuple", "list"] := by cases d <;> first | (cases np; done) | simp [tyD]
theorem isi_ok {T : String} (h : T = "tuple" ∨ T = "str" ∨ T = "int" ∨ T = "bool" ∨ T = "list") (d : D) (np : notPtr d) : kitB (tyD d) T = some (isiD T d) :=
  isi_all _ (tyD_mem d np) T (by rcases h with rfl | rfl | rfl | rfl | rfl <;> simp)
def rIsiD (T : String) (r : DV) : DV := fun δ Q => r δ fun w δ1 => match vget δ1 w with
  | some d => notPtr d ∧ Q (.val (.bl (isiD T d))) δ1
  | none => False
theorem e_isi {X : Cx} {T : String} {y : Str} {e : Expr} {ra : DV} {p p2 pos : Pos} (hT : T = "tuple" ∨ T = "str" ∨ T = "int" ∨ T = "bool" ∨ T = "list") (hg : Gl X "isinstance") (hm : X.mg "isinstance" = none) (he : PE X e (liftV X.K ra)) (hy : PE X (.Name y p2) (tC (.ty T)))
    (h1 : starEach (e :: [.Name y p2]) X.env = (false, eval e X.env) :: starEach [.Name y p2] X.env := by rfl) (h2 : starEach (.Name y p2 :: []) X.env = (false, eval (.Name y p2) X.env) :: starEach [] X.env := by rfl) (hpl : (backTo pos (starEach [.Name y p2] X.env)).any (·.1) = false := by rfl) :
    PE X (.Call (.Name "isinstance" p) [e, .Name y p2] [] pos) (liftV X.K (rIsiD T ra)) :=
  pe_wk (pe_callB call_isi hg hm PyProof.Rows.boot_isinstance (pa_cons he (pa_cons hy pa_nil h2) h1) (he := h1) (hpl := hpl)) fun σ H Q ⟨c, F, δ, P, S, h, k⟩ => ⟨c, F, δ, _, S, h, fun w δ1 h1 v F1 H1 e1 S1 r1 => by
    cases q : vget δ1 w with
    | none => simp only [q] at h1
    | some d =>
      simp only [q] at h1
      exact ⟨v, .ty T, .type (tyD d), .type T, isiD T d, rfl, .ty T, tyX_v S1.sub (S1.view r1 q) h1.1, kit_ty (isi_ok hT d h1.1), k _ _ h1.2 _ F1 H1 e1 S1 bl_rel⟩⟩
end Dl
/-! Dl: own lists changed; names changed by an operator; slices; texts joined. -/
namespace Dl
open PySem L2 PySem.Spec PyProof.Rows
/-- x.append(e), x an own list -/
def sApp (i : Nat) (r : DV) : DSt := fun E δ => match sg δ i with
  | .own _ (.lst _) => r δ fun w δ1 => match w, sg δ1 i with
    | .val d, .own io (.lst ds) => ds.length < 16777216 ∧ E.nx (ss δ1 i (.own io (.lst (ds ++ [d]))))
    | _, _ => False
  | _ => False
/-- x[k] = e, x an own list -/
def setG (i : Nat) (E : DE) (w w2 : Vw) (δ2 : DS) : Prop := match w, w2, sg δ2 i with
  | .val d, .val (.int k), .own io (.lst ds) => match ixN ds.length k with
    | some j => E.nx (ss δ2 i (.own io (.lst (ds.set j d))))
    | none => False
  | _, _, _ => False
def sSetI (i : Nat) (rv ri : DV) : DSt := fun E δ => rv δ fun w δ1 => match sg δ1 i with
  | .own _ (.lst _) => ri δ1 fun w2 δ2 => setG i E w w2 δ2
  | _ => False
/-- x op= e -/
def sAug (i : Nat) (R : R2D) (r : DV) : DSt := fun E δ => match sg δ i with
  | .frz a => r δ fun w δ1 => match vget δ1 w with
    | some b => R a b fun d => okSet δ1 i = true ∧ E.nx (ss δ1 i (.frz d))
    | none => False
  | _ => False
section
variable {X : Cx} {e o : Expr} {es : List Expr} {ra rb : DV} {pos apos : Pos}
theorem app_sound {i : Nat} : ∀ D σ H, liftS X.K (sApp i ra) D σ H → tDrop (tBM X.K "list" rAppend (tVar i) (tCons (liftV X.K ra) tNil)) D σ H := fun D σ H ⟨c, F, δ, E, S, h, L⟩ => by
    unfold sApp at h
    cases q : sg δ i with
    | no => simp only [q] at h
    | sto _ => simp only [q] at h
    | frz _ => simp only [q] at h
    | own io0 x0 =>
      cases x0 with
      | dic _ => simp only [q] at h
      | dicT _ => simp only [q] at h
      | lst ds0 =>
        simp only [q] at h
        obtain ⟨l, ho, h1, h2, h3, h4, vs, rfl, h5⟩ := S.own (sg_at q (by intro z; cases z))
        refine ⟨_, h1, Or.inl ⟨rfl, vs, SqL.of h4⟩, c, F, δ, _, S, h, fun w δ1 g v F1 H1 e1 S1 r1 => ?_⟩
        cases w with
        | slot j => exact g.elim
        | obj _ => exact g.elim
        | val d =>
          cases q1 : sg δ1 i with
          | no => simp only [q1] at g
          | sto _ => simp only [q1] at g
          | frz _ => simp only [q1] at g
          | own io1 x1 =>
            cases x1 with
            | dic _ => simp only [q1] at g
            | dicT _ => simp only [q1] at g
            | lst ds =>
              simp only [q1] at g
              have hq1 := sg_at q1 (by intro z; cases z)
              obtain ⟨l1, ho1, k1, k2, k3, k4, us, rfl, k5⟩ := S1.own hq1
              rw [h1] at k1
              cases k1
              rw [ss_eq] at g
              exact ⟨l, us, v, rfl, rfl, k4, by rw [k5.len, sizeLine_eq]; exact g.1, L.nx _ g.2 σ F1 _ e1 (S1.put hq1 h1 ⟨_, rfl, Reps.append k5 (Reps.cons r1 Reps.nil)⟩)⟩
theorem s_setI (i : Nat) {x : Str} {p spos : Pos} {k : Expr} (h : PE X (.Name x p) (tVar i)) (hv : PE X e (liftV X.K ra)) (hk : PE X k (liftV X.K rb))
    (ha : ∀ v, assign (.Subscript (.Name x p) k spos) X.env v = (do
      let ov ← holding [v] (eval (.Name x p) X.env)
      let iv ← holding [v, ov] (eval k X.env)
      standAt spos
      holding [v, ov, iv] <| setItem ov iv v
      release [v, ov, iv] []) := by intro _; rfl)
    (hs : swapsWithSole [.Subscript (.Name x p) k spos] e pos.line X.env = pure false := by rfl) (hw : swappedStores [.Subscript (.Name x p) k spos] e X.env = pure none := by rfl)
    (h1 : (assignEach [.Subscript (.Name x p) k spos] X.env).map (·.2) = [assign (.Subscript (.Name x p) k spos) X.env] := by rfl) :
    PS X (.Assign [.Subscript (.Name x p) k spos] e pos) (liftS X.K (sSetI i ra rb)) :=
  ps_wk (ps_asg hv (pg_sub h hk set_list ha) hs hw h1) fun D σ H ⟨c, F, δ, E, S, h, L⟩ => ⟨c, F, δ, _, S, h, fun w δ1 g v F1 H1 e1 S1 r1 => by
    cases q : sg δ1 i with
    | no => simp only [q] at g
    | sto _ => simp only [q] at g
    | frz _ => simp only [q] at g
    | own io0 x0 =>
      cases x0 with
      | dic _ => simp only [q] at g
      | dicT _ => simp only [q] at g
      | lst ds0 =>
        simp only [q] at g
        obtain ⟨l, ho, k1, _⟩ := S1.own (sg_at q (by intro z; cases z))
        refine ⟨.ref l, k1, c, F1, δ1, _, S1, g, fun w2 δ2 g v2 F2 H2 e2 S2 r2 => ?_⟩
        unfold setG at g
        cases w with
        | slot j => exact g.elim
        | obj _ => exact g.elim
        | val d =>
          cases w2 with
          | slot j => exact g.elim
          | obj _ => exact g.elim
          | val d2 =>
            cases d2 with
            | int kk =>
              cases q1 : sg δ2 i with
              | no => simp only [q1] at g
              | sto _ => simp only [q1] at g
              | frz _ => simp only [q1] at g
              | own io1 x1 =>
                cases x1 with
                | dic _ => simp only [q1] at g
                | dicT _ => simp only [q1] at g
                | lst ds =>
                  simp only [q1] at g
                  have hq1 := sg_at q1 (by intro z; cases z)
                  obtain ⟨l1, ho1, m1, m2, m3, m4, us, rfl, m5⟩ := S2.own hq1
                  rw [k1] at m1
                  cases m1
                  cases q2 : ixN ds.length kk with
                  | none => simp only [q2] at g
                  | some j =>
                    simp only [q2] at g
                    rw [ss_eq] at g
                    have r1' : Rep X.K F2 d v := Rep.mono e2 _ _ r1
                    refine ⟨l, us, kk, j, rfl, int_of r2, m4, by rw [m5.len]; exact q2, L.nx _ g σ F2 _ (e1.trans e2) (S2.put hq1 k1 ⟨_, rfl, Reps.set j m5 r1'⟩)⟩
            | _ => exact g.elim⟩
/-! ### slices -/
abbrev DO := DS → (Option Int → DS → Prop) → Prop
def liftO (K : PySem.W.Frag) (r : DO) : TO := fun σ H Q => ∃ c F δ P, StOk K c F σ H δ ∧ r δ P ∧ ∀ o δ', P o δ' → ∀ F' H', Same F F' → StOk K c F' σ H' δ' → Q o H'
def oNone : DO := fun δ Q => Q none δ
def oSome (r : DV) : DO := fun δ Q => r δ fun w δ1 => match w with
  | .val (.int i) => Q (some i) δ1
  | _ => False
theorem po_wk {e : Option Expr} {t t' : TO} (h : PO X e t) (w : ∀ σ H Q, t' σ H Q → t σ H Q) : PO X e t' := ⟨fun pins s σ H Q I q => h.run pins s σ H Q I (w σ H Q q)⟩
theorem o_none : PO X none (liftO X.K oNone) := po_wk po_none fun σ H Q ⟨c, F, δ, P, S, h, k⟩ => k _ _ h F H (Same.refl _) S
theorem o_some (he : PE X e (liftV X.K ra)) : PO X (some e) (liftO X.K (oSome ra)) := po_wk (po_some he) fun σ H Q ⟨c, F, δ, P, S, h, k⟩ => ⟨c, F, δ, _, S, h, fun w δ1 g v F1 H1 e1 S1 r1 => by
  cases w with
  | slot j => exact g.elim
  | obj _ => exact g.elim
  | val d =>
    cases d with
    | int i => exact ⟨i, int_of r1, k _ _ g F1 H1 e1 S1⟩
    | _ => exact g.elim⟩
def cutD {α : Type} (xs : List α) (lo hi : Option Int) : List α := (xs.drop (HT.sIx xs.length 0 lo)).take (HT.sIx xs.length xs.length hi - HT.sIx xs.length 0 lo)
/-- a slice of a tuple, of a text -/
def slR (d : D) (lo hi : Option Int) (P : D → Prop) : Prop := match d with
  | .tup ds => P (.tup (cutD ds lo hi))
  | .str x => x.length ≤ 16777216 ∧ P (.str (cutS x lo hi))
  | _ => False
def slFR (d : D) (lo hi : Option Int) (P : List D → Prop) : Prop := match d with
  | .lst ds => P (cutD ds lo hi)
  | .rol ds => P (cutD ds lo hi)
  | _ => False
def rSl (r : DV) (lo hi : DO) : DV := fun δ Q => r δ fun w δ1 => lo δ1 fun l δ2 => hi δ2 fun u δ3 => match vget δ3 w with
  | some d => slR d l u fun e => Q (.val e) δ3
  | none => False
def rSlF (r : DV) (lo hi : DO) : DF := fun δ Q => r δ fun w δ1 => lo δ1 fun l δ2 => hi δ2 fun u δ3 => match vget δ3 w with
  | some d => slFR d l u fun es => Q es δ3
  | none => False
theorem Reps.cut {K : PySem.W.Frag} {F : Hp} {ds : List D} {vs : List V} (r : Reps K F ds vs) (lo hi : Option Int) : Reps K F (cutD ds lo hi) (cutV vs lo hi) := by
  unfold cutD cutV
  rw [r.len]
  exact (r.drop _).take _
theorem e_sl {lo hi : Option Expr} {dl dh : DO} {p2 : Pos} (he : PE X e (liftV X.K ra)) (hl : PO X lo (liftO X.K dl)) (hu : PO X hi (liftO X.K dh)) : PE X (.Subscript e (.Slice lo hi none p2) pos) (liftV X.K (rSl ra dl dh)) :=
  pe_wk (pe_slice (sl_tupA.or sl_str) he hl hu) fun σ H Q ⟨c, F, δ, P, S, h, k⟩ => ⟨c, F, δ, _, S, h, fun w δ1 g v F1 H1 e1 S1 r1 => ⟨c, F1, δ1, _, S1, g, fun l δ2 g F2 H2 e2 S2 => ⟨c, F2, δ2, _, S2, g, fun u δ3 g F3 H3 e3 S3 => by
    cases q : vget δ3 w with
    | none => simp only [q] at g
    | some d =>
      simp only [q] at g
      have rv := S3.view (r1.mono (e2.trans e3)) q
      unfold slR at g
      have e13 := (e1.trans e2).trans e3
      split at g
      · obtain ⟨a, vs, rfl, h1, h2⟩ := tup_v rv
        refine Or.inl ⟨a, vs, rfl, same_t S3.sub h1, fun hw => ?_, fun _ p hp => ?_⟩
        · refine k _ _ g _ F3 H3 e13 S3 (tup_r h1 ?_)
          have : cutV vs l u = vs := by
            unfold cutV
            rw [hw.1, hw.2, List.drop_zero, Nat.sub_zero, List.take_length]
          rw [← this]
          exact h2.cut l u
        · obtain ⟨e4, S4⟩ := S3.alloc (o := .tup (cutV vs l u)) hp
          exact k _ _ g _ _ _ (e13.trans e4) S4 (new_tup S3.sub hp (h2.cut l u))
      · rw [str_v rv]
        exact Or.inr ⟨_, rfl, line_le g.1, k _ _ g.2 _ F3 H3 e13 S3 (by show Rep _ _ _ _; exact rS_)⟩
      · exact g.elim⟩⟩⟩
theorem e_slF {lo hi : Option Expr} {dl dh : DO} {p2 : Pos} (he : PE X e (liftV X.K ra)) (hl : PO X lo (liftO X.K dl)) (hu : PO X hi (liftO X.K dh)) : PE X (.Subscript e (.Slice lo hi none p2) pos) (liftF X.K (rSlF ra dl dh)) :=
  pe_wk (pe_slice sl_list he hl hu) fun σ H Q ⟨c, F, δ, P, S, h, k⟩ => ⟨c, F, δ, _, S, h, fun w δ1 g v F1 H1 e1 S1 r1 => ⟨c, F1, δ1, _, S1, g, fun l δ2 g F2 H2 e2 S2 => ⟨c, F2, δ2, _, S2, g, fun u δ3 g F3 H3 e3 S3 => by
    cases q : vget δ3 w with
    | none => simp only [q] at g
    | some d =>
      simp only [q] at g
      have rv := S3.view (r1.mono (e2.trans e3)) q
      unfold slFR at g
      have e13 := (e1.trans e2).trans e3
      split at g
      · obtain ⟨a, vs, rfl, h1, h2⟩ := lst_v rv
        refine ⟨a, vs, rfl, SqL.of h1, fun p hp => ?_⟩
        obtain ⟨S4, fr⟩ := S3.fresh (o := .lst (cutV vs l u)) hp
        exact k _ _ g p _ F3 _ e13 S4 fr upd_same (h2.cut l u)
      · obtain ⟨a, vs, rfl, h1, h2⟩ := rol_v rv
        refine ⟨a, vs, rfl, same_l S3.sub h1, fun p hp => ?_⟩
        obtain ⟨S4, fr⟩ := S3.fresh (o := .lst (cutV vs l u)) hp
        exact k _ _ g p _ F3 _ e13 S4 fr upd_same (h2.cut l u)
      · exact g.elim⟩⟩⟩
/-! ### lists joined, repeated -/
def catR : D → D → (List D → Prop) → Prop
  | .lst xs, .lst ys, P => xs.length + ys.length ≤ 16777216 ∧ P (xs ++ ys)
  | _, _, _ => False
def repR : D → D → (List D → Prop) → Prop
  | .lst xs, .int k, P => (-(2 ^ 63) ≤ k ∧ k < 2 ^ 63 ∧ xs.length * k.toNat ≤ 16777216) ∧ P (List.replicate k.toNat xs).flatten
  | _, _, _ => False
theorem of_cat {K : PySem.W.Frag} : OpF K rCat catR := fun F H a b x y P Q e ha hb h k => by
  unfold catR at h
  split at h
  · obtain ⟨p, vs, rfl, h1, h2⟩ := lst_v ha
    obtain ⟨q, us, rfl, g1, g2⟩ := lst_v hb
    exact ⟨p, q, vs, us, rfl, rfl, h1, g1, by rw [h2.len, g2.len]; exact line_le h.1, fun l hl => k _ l _ h.2 hl (h2.append g2)⟩
  · exact h.elim
end
end Dl
/-! Dl: what the printed derivations use. -/
namespace Dl
open PySem L2 PySem.Spec PyProof.Rows
section
variable {X : Cx} {tg e : Expr} {tl : TE} {ra : DV}
def iSeq (K : PySem.W.Frag) (tl : TE) : TI := fun σ H R => tl σ H fun x H1 => (∃ z, x = .str z ∧ R (Its z) H1) ∨ ∃ a, x = .ref a ∧ (((∃ xs, SqL K H1 a xs) ∧ R (Itl K a) H1) ∨ ((∃ xs, SqT K H1 a xs) ∧ R (Itt K a) H1))
/-- a loop's source that is a text, a list or a tuple, whichever the reading finds -/
theorem pi_seq {le : Expr} (pl : PE X le tl) : PI X tg le (iSeq X.K tl) := ⟨fun pins st σ H after inv hyp => by
  refine thn (pl.run pins st σ H _ inv hyp) fun u st' hu => ?_
  rcases hu with ⟨_, H', inv', same, ⟨z, eqz, go⟩ | ⟨adr, eqx, cases2⟩⟩
  · subst eqz
    obtain ⟨tk, rfl⟩ := same
    cases asc : z.cps.all (· < 128)
    · exact wpAny_pyIter_wide asc (pi_one (tk := st'.toks) inv' _ (turn_str _ z tk "str_iterator" (.inr rfl)) ⟨_, Heap.get?_push_size _ rfl, rfl, rfl⟩ go)
    · exact wpAny_pyIter_ascii asc (pi_one (tk := st'.toks) inv' _ (turn_str _ z tk "str_ascii_iterator" (.inl rfl)) ⟨_, Heap.get?_push_size _ rfl, rfl, rfl⟩ go)
  subst eqx; cases same
  have up : ∀ {ob : Obj} (b : Addr) (o : Obj), st'.heap.get? b = some o → (st'.heap.push ob).get? b = some o := fun b o e => Heap.get?_push_of_some _ e
  have own : ∀ b ∈ [st'.heap.objs.size], FpOk X pins H' b := fun b hb => by rw [List.mem_singleton.mp hb]; exact inv'.fpOk (Nat.le_refl _) (inv'.hok.fresh (Nat.le_refl _))
  rcases cases2 with ⟨⟨_, sq⟩, go⟩ | ⟨⟨_, sq⟩, go⟩
  · rcases inv'.list sq with ⟨_, _, isl, _⟩
    exact wpAny_pyIter_list isl.isList ⟨_, _, _, _, H', rfl, inv'.kept (t' := st'.toks) up, turn_list adr _, ⟨_, Heap.get?_push_size _ rfl, rfl, rfl⟩, own, go⟩
  · rcases inv'.tuple sq with ⟨arr, _, ist, _⟩
    exact wpAny_pyIter_tuple (show Heap.IsTuple st'.heap adr arr.toArray from ist) ⟨_, _, _, _, H', rfl, inv'.kept (t' := st'.toks) up, turn_tuple adr _, ⟨_, Heap.get?_push_size _ rfl, rfl, rfl⟩, own, go⟩⟩
theorem src_str {K : PySem.W.Frag} {c : Ct} {x : Str} {F0 : Hp} : SrcOk K c (Its x) F0 (x.cps.toList.map fun c => .str ⟨#[c]⟩) := by
  have sz : x.cps.size = x.cps.toList.length := rfl
  refine ⟨fun F σ H δ e S => ?_, fun i F σ H δ hi e S => ?_, fun i d F σ H δ y H' hi e S q => ?_⟩
  · show x.cps.size ≤ _
    rw [List.length_map, sz]
    exact Nat.le_refl _
  · rw [List.length_map] at hi
    exact hi
  · obtain ⟨rfl, c, hc, rfl⟩ := q
    rw [List.getElem?_map, Array.getElem?_toList, hc] at hi
    cases hi
    exact ⟨F, Same.refl _, S, by simp only [Rep], fun p o f hp => ⟨f, hp⟩⟩
/-- a text, a list or a tuple, as data -/
def iSeqD (r : DV) : DI := fun δ Q => r δ fun w δ1 => match w with
  | .val (.lst ds) => Q ds δ1
  | .val (.rol ds) => Q ds δ1
  | .val (.tup ds) => Q ds δ1
  | .val (.str x) => Q (x.cps.toList.map fun c => .str ⟨#[c]⟩) δ1
  | _ => False
theorem i_seq (h : PE X e (liftV X.K ra)) : PI X tg e (liftI X.K (iSeqD ra)) := pi_wk (pi_seq h) fun σ H R ⟨c, F, δ, P, S, h, k⟩ => ⟨c, F, δ, _, S, h, fun w δ1 h1 v F1 H1 e1 S1 r1 => by
  cases w with
  | slot i => exact h1.elim
  | obj _ => exact h1.elim
  | val d =>
    cases d with
    | lst ds =>
      have r : Rep X.K F1 (.lst ds) v := r1
      simp only [Rep] at r
      obtain ⟨a, vs, rfl, g1, g2⟩ := r
      exact Or.inr ⟨a, rfl, Or.inl ⟨⟨vs, SqL.of (S1.sub _ _ g1)⟩, k _ _ h1 _ F1 H1 e1 S1 (fun _ => src_list g1 g2)⟩⟩
    | rol ds =>
      have r : Rep X.K F1 (.rol ds) v := r1
      simp only [Rep] at r
      obtain ⟨a, vs, rfl, g1, g2⟩ := r
      exact Or.inr ⟨a, rfl, Or.inl ⟨⟨vs, same_l S1.sub g1⟩, k _ _ h1 _ F1 H1 e1 S1 (fun _ => src_rol g1 g2)⟩⟩
    | tup ds =>
      have r : Rep X.K F1 (.tup ds) v := r1
      simp only [Rep] at r
      obtain ⟨a, vs, rfl, g1, g2⟩ := r
      exact Or.inr ⟨a, rfl, Or.inr ⟨⟨vs, same_t S1.sub g1⟩, k _ _ h1 _ F1 H1 e1 S1 (fun _ => src_tup g1 g2)⟩⟩
    | str x =>
      have ex : v = .str x := by simpa only [VwRel, Rep] using r1
      exact Or.inl ⟨x, ex, k _ _ h1 _ F1 H1 e1 S1 (fun _ => src_str)⟩
    | _ => exact h1.elim⟩
theorem asgF_by {i : Nat} {r : DF} {te : TE} (w : ∀ σ H Q, liftF X.K r σ H Q → te σ H Q) : ∀ D σ H, liftS X.K (sAsgF i r) D σ H → tAsg te (gName i) D σ H := fun D σ H ⟨c, F, δ, E, S, h, L⟩ => w σ H _ ⟨c, F, δ, _, S, h, fun ds δ1 h1 p vs F1 H1 e1 S1 fr hp r1 => by
  obtain ⟨h2, h3⟩ := h1
  rw [ss_eq] at h3
  exact L.nx _ h3 _ F1 H1 e1 (S1.asgO (okSet_io h2) fr hp ⟨vs, rfl, r1⟩)⟩
end
section
variable {X : Cx} {a b e : Expr} {ra rb rc : DV} {pos : Pos}
theorem pts_yes : PTs X [] (liftT X.K rYes) := ⟨fun pins s σ H Q I ⟨c, F, δ, P, S, h, k⟩ => pts_nil.run pins s σ H Q I (k _ _ h F H (Same.refl _) S)⟩
def iaddR : R2D
  | .int i, .int j, P => P (.int (i + j))
  | .str s, .str t, P => s.length + t.length ≤ 16777216 ∧ P (.str (s ++ t))
  | _, _, _ => False
end
/-- a def that may be called -/
structure Cal (P : Program) (w : World) (K : PySem.W.Frag) (mg : Str → Option Value) (base : Heap) (k : Nat) (x : Str) (ps : List Str) (S : DSp) : Prop where
  ex : ∃ f fd, FnOk P w K mg base CX0 k f fd ps (spD K ps.length S) ∧ mg x = some (.ref f) ∧ PySem.W.keepIn K (.ref f) = true ∧ Binds K fd ps []
section
variable {X : Cx} {k j : Nat} {ps : List Str} {S : DSp} {x : Str} {p pos : Pos} {e : Expr} {es : List Expr} {rs : DA}
theorem e_cal {n : Nat} (C : Cal X.prog X.w X.K X.mg X.base k x ps S) (hr : Room j X.A) (hkj : k ≤ j) (hg : Gl X x) (ha : PA X (e :: es) (liftA X.K rs)) (hn : ps.length = n := by rfl) (hdb : (x == ("__debug__" : Str)) = false := by decide) (he : starEach (e :: es) X.env = (false, eval e X.env) :: starEach es X.env := by rfl) (hpl : (backTo pos (starEach es X.env)).any (·.1) = false := by rfl) :
    PE X (.Call (.Name x p) (e :: es) [] pos) (liftV X.K (rCall n S rs)) := by
  subst hn
  obtain ⟨f, fd, G, hm, hk, hb⟩ := C.ex
  exact e_call G hr hkj hm hk hb hg ha hdb he hpl
theorem e_calF {n : Nat} (C : Cal X.prog X.w X.K X.mg X.base k x ps S) (hr : Room j X.A) (hkj : k ≤ j) (hg : Gl X x) (ha : PA X (e :: es) (liftA X.K rs)) (hn : ps.length = n := by rfl) (hdb : (x == ("__debug__" : Str)) = false := by decide) (he : starEach (e :: es) X.env = (false, eval e X.env) :: starEach es X.env := by rfl) (hpl : (backTo pos (starEach es X.env)).any (·.1) = false := by rfl) :
    PE X (.Call (.Name x p) (e :: es) [] pos) (liftF X.K (rCallF n S rs)) := by
  subst hn
  obtain ⟨f, fd, G, hm, hk, hb⟩ := C.ex
  exact e_callF G hr hkj hm hk hb hg ha hdb he hpl
end
/-- a def of the text, as the head leaves it -/
structure Df (K : PySem.W.Frag) (x : Str) (st : Stmt) : Prop where
  ex : ∃ (f : Addr) (oc : Value) (od an : Option Addr) (osl : Array (Option Value)) (kV doc pm cdv ct : Value), PySem.W.nsIn K mainGlobals x = some (some (.ref f)) ∧
    K.lookup f = some ⟨oc, od, .func (PySem.W.fnOf x x (defArgs st) (defBody st) (defScope st) .none kV doc pm an cdv ct), osl⟩ ∧ PySem.W.codeIn K cdv x = true ∧ PySem.W.keepIn K (.ref f) = true
theorem df_mk {K : PySem.W.Frag} {x : Str} {st : Stmt} {f : Addr} {oc : Value} {od an : Option Addr} {osl : Array (Option Value)} {kV doc pm cdv ct : Value} (a : PySem.W.nsIn K mainGlobals x = some (some (.ref f)))
    (l : K.lookup f = some ⟨oc, od, .func (PySem.W.fnOf x x (defArgs st) (defBody st) (defScope st) .none kV doc pm an cdv ct), osl⟩) (c : PySem.W.codeIn K cdv x = true) (k : PySem.W.keepIn K (.ref f) = true) : Df K x st :=
  ⟨f, oc, od, an, osl, kV, doc, pm, cdv, ct, a, l, c, k⟩
section
variable {P : Program} {w : World} {mg : Str → Option Value} {K : PySem.W.Frag} {base : Heap}
/-- from the head's facts and the body to what callers use -/
theorem cal_mk {x : Str} {st : Stmt} {N ps : List Str} {k : Nat} {S : DSp} {h : Heap} (X : K.In h) (G : h.Ns mainGlobals mg) (d : Df K x st) (Sc : FnScope N ps (defScope st)) (r : DSt)
    (hb : ∀ (kV doc pm : Value) (an : Option Addr) (cdv ct : Value) (us : List Value), us.length = ps.length → bindArgs (PySem.W.fnOf x x (defArgs st) (defBody st) (defScope st) .none kV doc pm an cdv ct) ⟨us, []⟩ = pure (ps.zip us))
    (der : ∀ (f : Addr) (cdv : Value) (A : Around) (outer : List Env) (s : Shared) (H : Hp) (E : XK), Room k (A.deeper (envOfC x (defScope st) s.heap.objs.size f cdv)) → PSs (cxOf CX0 P w K mg base N x (defScope st) f cdv A outer s H E).nox (defBody st) (liftS K r))
    (hbody : ∀ as P, as.length = ps.length → S as P → r { nx := fun δ => P (.v .non) (outsOf 0 as δ), rt := fun rt δ => P rt (outsOf 0 as δ) } (startD N.length as)) : Cal P w K mg base (k + 1) x ps S := by
  obtain ⟨f, oc, od, an, osl, kV, doc, pm, cdv, ct, a, l, c, kp⟩ := d.ex
  have F := fun_mk (st := st) l c kp
  exact ⟨f, _, fn_d F Sc r (fun cdv _ => der f cdv) hbody, PySem.W.mg_of X G a, kp, F.binds hb⟩
end
section
variable {P : Program} {w : World} {mg : Str → Option Value} {K : PySem.W.Frag} {base : Heap}
/-- a promise that nobody asks for -/
theorem cal_none {x : Str} {st : Stmt} {ps : List Str} {k : Nat} {h : Heap} (X : K.In h) (G : h.Ns mainGlobals mg) (d : Df K x st)
    (hb : ∀ (kV doc pm : Value) (an : Option Addr) (cdv ct : Value) (us : List Value), us.length = ps.length → bindArgs (PySem.W.fnOf x x (defArgs st) (defBody st) (defScope st) .none kV doc pm an cdv ct) ⟨us, []⟩ = pure (ps.zip us)) : Cal P w K mg base k x ps (fun _ _ => False) := by
  obtain ⟨f, oc, od, an, osl, kV, doc, pm, cdv, ct, a, l, c, kp⟩ := d.ex
  have F := fun_mk (st := st) l c kp
  exact ⟨f, _, ⟨fun vs H Q E ⟨_, _, _, _, _, _, _, _, _, z, _⟩ => z.elim, fun A outer s H args us vs Q E _ _ _ _ ⟨_, _, _, _, _, _, _, _, _, z, _⟩ => z.elim⟩, PySem.W.mg_of X G a, kp, F.binds hb⟩
end
/-- the built-ins' names are the built-ins' -/
structure Blt (mg : Str → Option Value) : Prop where
  abs : mg "abs" = none
  int : mg "int" = none
  max : mg "max" = none
  min : mg "min" = none
  len : mg "len" = none
  range : mg "range" = none
  list : mg "list" = none
  tuple : mg "tuple" = none
  isinstance : mg "isinstance" = none
  sum : mg "sum" = none
  sorted : mg "sorted" = none
  zip : mg "zip" = none
  enumerate : mg "enumerate" = none
  bool : mg "bool" = none
  str : mg "str" = none
  set : mg "set" = none
  any : mg "any" = none
  all : mg "all" = none
  reversed : mg "reversed" = none
theorem blt_mk {K : PySem.W.Frag} {h : Heap} {mg : Str → Option Value} (X : K.In h) (G : h.Ns mainGlobals mg) (z1 : PySem.W.nsIn K mainGlobals "abs" = some none) (z2 : PySem.W.nsIn K mainGlobals "int" = some none) (z3 : PySem.W.nsIn K mainGlobals "max" = some none)
    (z4 : PySem.W.nsIn K mainGlobals "min" = some none) (z5 : PySem.W.nsIn K mainGlobals "len" = some none) (z6 : PySem.W.nsIn K mainGlobals "range" = some none) (z7 : PySem.W.nsIn K mainGlobals "list" = some none) (z8 : PySem.W.nsIn K mainGlobals "tuple" = some none)
    (z9 : PySem.W.nsIn K mainGlobals "isinstance" = some none) (z10 : PySem.W.nsIn K mainGlobals "sum" = some none) (z11 : PySem.W.nsIn K mainGlobals "sorted" = some none) (z12 : PySem.W.nsIn K mainGlobals "zip" = some none) (z13 : PySem.W.nsIn K mainGlobals "enumerate" = some none)
    (z14 : PySem.W.nsIn K mainGlobals "bool" = some none) (z15 : PySem.W.nsIn K mainGlobals "str" = some none) (z16 : PySem.W.nsIn K mainGlobals "set" = some none) (z17 : PySem.W.nsIn K mainGlobals "any" = some none) (z18 : PySem.W.nsIn K mainGlobals "all" = some none) (z19 : PySem.W.nsIn K mainGlobals "reversed" = some none) : Blt mg :=
  ⟨PySem.W.mg_none_of X G z1, PySem.W.mg_none_of X G z2, PySem.W.mg_none_of X G z3, PySem.W.mg_none_of X G z4, PySem.W.mg_none_of X G z5, PySem.W.mg_none_of X G z6, PySem.W.mg_none_of X G z7, PySem.W.mg_none_of X G z8, PySem.W.mg_none_of X G z9, PySem.W.mg_none_of X G z10,
   PySem.W.mg_none_of X G z11, PySem.W.mg_none_of X G z12, PySem.W.mg_none_of X G z13, PySem.W.mg_none_of X G z14, PySem.W.mg_none_of X G z15, PySem.W.mg_none_of X G z16, PySem.W.mg_none_of X G z17, PySem.W.mg_none_of X G z18, PySem.W.mg_none_of X G z19⟩
/-- the law: True for every script of at most 63 ints -/
def S_law : DSp := fun as P => ∃ ns : List Int, as = [.val (.rol (ns.map D.int))] ∧ ns.length ≤ 63 ∧ P (.v (.bl true)) []
theorem walk {l : PySem.W.OpenLaw} {q : Program} {loose : List Str} {XP : (Str → Option Value) → Heap → Prop} {YP : World → Heap → Prop} {d : DefRec} {K : Params → PySem.W.Frag} {k : Nat} (hk : k ≤ 100) (hT : ∀ w : World, LTabs (K w.params) = []) (hn : l.most = some 63) (hdf : d.params.defaults = [])
    (hY : ∀ (wd : World) (hp : Heap), YP wd hp → (K wd.params).In hp) (F : ∀ (w : World) (mg : Str → Option Value) (fa : Addr) (hp : Heap), (K w.params).In hp → hp.Ns mainGlobals mg → mg d.name = some (.ref fa) →
      ∃ fd : FuncData, (∀ (s : Shared) (u : Value), BindsTo s fd ⟨[u], []⟩ [("script", u)]) ∧ ∀ base : Heap, (K w.params).In base → base.Ns mainGlobals mg → FnOk l.prog w (K w.params) mg base CX0 k fa fd ["script"] (spD (K w.params) 1 S_law)) :
    PySem.W.WalkO q loose XP YP l.row.toRowW d []
      (fun g us => PySem.call g us) :=
  L2.walk_of (n := 63) (k := k) (x := "script") (CX := fun _ => CX0) (sp := fun w => spD (K w.params) 1 S_law) hn (by decide) hdf (Room.mono (k := 100) ⟨rfl, by decide, by decide⟩ hk) hY F
    (fun w H a ns hl _ hS => ⟨H, [.val (.rol (ns.map D.int))], [], fun r outs => r = .v (.bl true), rfl, Same.refl _, .val (by simp only [Rep]; exact ⟨a, _, rfl, hS, Reps.of_ints ns⟩) .nil, List.nodup_nil, ⟨by rw [hT w]; exact fun p hp => (by cases hp), by rw [hT w]; exact fun p hp => (by cases hp)⟩, ⟨ns, rfl, hl, rfl⟩,
      fun r outs hr v F' H' _ _ _ _ _ rr => by
        subst hr
        have : Rep (K w.params) F' (.bl true) v := rr
        simpa only [Rep] using this⟩) fun _ _ _ _ _ z => z
theorem law_end {P : Program} {w : World} {K : PySem.W.Frag} {mg : Str → Option Value} {k : Nat} {st : Stmt} {h : Heap} {N : List Str} {r : DSt} {fa : Addr} (X : K.In h) (G : h.Ns mainGlobals mg) (d : Df K "law" st) (hfa : mg "law" = some (.ref fa)) (Sc : FnScope N ["script"] (defScope st))
    (hb : ∀ (kV doc pm : Value) (an : Option Addr) (cdv ct : Value) (s : Shared) (v : Value), BindsTo s (PySem.W.fnOf "law" "law" (defArgs st) (defBody st) (defScope st) .none kV doc pm an cdv ct) ⟨[v], []⟩ [("script", v)])
    (der : ∀ (base : Heap), K.In base → base.Ns mainGlobals mg → ∀ (f : Addr) (cdv : Value) (A : Around) (outer : List Env) (s : Shared) (H : Hp) (E : XK), Room k (A.deeper (envOfC "law" (defScope st) s.heap.objs.size f cdv)) → PSs (cxOf CX0 P w K mg base N "law" (defScope st) f cdv A outer s H E).nox (defBody st) (liftS K r))
    (hbody : ∀ as P, as.length = ["script"].length → S_law as P → r { nx := fun δ => P (.v .non) (outsOf 0 as δ), rt := fun rt δ => P rt (outsOf 0 as δ) } (startD N.length as)) :
    ∃ fd : FuncData, (∀ (s : Shared) (u : Value), BindsTo s fd ⟨[u], []⟩ [("script", u)]) ∧ ∀ base : Heap, K.In base → base.Ns mainGlobals mg → FnOk P w K mg base CX0 (k + 1) fa fd ["script"] (spD K 1 S_law) := by
  obtain ⟨f, oc, od, an, osl, kV, doc, pm, cdv, ct, a, l, c, kp⟩ := d.ex
  have e := hfa.symm.trans (PySem.W.mg_of X G a)
  cases e
  exact ⟨_, fun s u => hb kV doc pm an cdv ct s u, fun base kb gb => fn_d (fun_mk (st := st) l c kp) Sc r (fun cdv _ => der base kb gb fa cdv) hbody⟩
end Dl
/-! Dl: how a reading is evaluated: what stands behind is named, so that simp does not look into it. -/
namespace Dl
open PySem L2
section
variable {δ : DS} {E : DE} {Q : Vw → DS → Prop} {QB : Bool → DS → Prop} {QF : List D → DS → Prop} {QA : List Vw → DS → Prop} {QO : Option Int → DS → Prop} {w w1 w2 : Vw} {ws : List Vw} {i n : Nat} {d d1 d2 : D} {ds es : List D} {a b : DSt} {r ra rb rc : DV} {rs : DA} {rf : DF} {t u : DT} {g : DG} {gs : DGs} {ri : DI} {k : Bool} {R R' : R2D} {P : D → Prop} {PL : List D → Prop} {io : Bool} {x : Cn} {S : DSp} {vs : List Nat}
inductive BoxV (Q : Vw → DS → Prop) : Type where
  | mk
inductive BoxE (E : DE) : Type where
  | mk
inductive BoxDV (r : DV) : Type where
  | mk
inductive BoxP (P : D → Prop) : Type where
  | mk
inductive BoxR (R : D → D → (D → Prop) → Prop) : Type where
  | mk
/-! sequences -/
def DE.seq (E : DE) (b : DSt) : DE := { E with nx := fun δ1 => b E δ1 }
theorem ev_seq {a b : DSt} : sSeq a b E δ = a (E.seq b) δ := rfl
theorem ev_nx : (E.seq b).nx δ = b E δ := rfl
theorem ev_rt {z : Ret} : (E.seq b).rt z δ = E.rt z δ := rfl
theorem ev_bk : (E.seq b).bk δ = E.bk δ := rfl
theorem ev_ct : (E.seq b).ct δ = E.ct δ := rfl
theorem ev_next : sNext E δ = E.nx δ := rfl
theorem ev_break : sBreak E δ = E.bk δ := rfl
theorem ev_cont : sCont E δ = E.ct δ := rfl
theorem ev_never : sNever E δ = False := rfl
theorem ev_retN : sRetN E δ = E.rt (.v .non) δ := rfl
def kDrop (E : DE) : Vw → DS → Prop := fun _ δ => E.nx δ
theorem ev_drop : sDrop r E δ = r δ (kDrop E) := rfl
theorem ev_kdrop : kDrop E w δ = E.nx δ := rfl
def kRet (E : DE) : Vw → DS → Prop := fun w δ1 => match w with
  | .val d => E.rt (.v d) δ1
  | _ => False
theorem ev_ret : sRet r E δ = r δ (kRet E) := rfl
theorem ev_kret : kRet E (.val d) δ = E.rt (.v d) δ := rfl
def kRetF (E : DE) : List D → DS → Prop := fun ds δ1 => E.rt (.f ds) δ1
theorem ev_retF : sRetF rf E δ = rf δ (kRetF E) := rfl
theorem ev_kretF : kRetF E ds δ = E.rt (.f ds) δ := rfl
def selM (s : Sl) (i : Nat) (δ : DS) {E : DE} (_ : BoxE E) : Prop := match s with
  | .own false (.lst ds) => E.rt (.f ds) (ss δ i .no)
  | _ => False
theorem ev_retM : sRetM i E δ = selM (sg δ i) i δ (BoxE.mk : BoxE E) := rfl
theorem ev_selM {z : BoxE E} : selM (.own false (.lst ds)) i δ z = E.rt (.f ds) (ss δ i .no) := rfl
def kIf (a b : DSt) (E : DE) : Bool → DS → Prop := fun k δ => brD (k = true) (bx (A := a E δ) (B := b E δ))
theorem ev_if : sIf t a b E δ = t δ (kIf a b E) := rfl
theorem ev_kif : kIf a b E k δ = brD (k = true) (bx (A := a E δ) (B := b E δ)) := rfl
def kAsg (i : Nat) (E : DE) : Vw → DS → Prop := fun w δ1 => match w with
  | .val d => okSet δ1 i = true ∧ E.nx (ss δ1 i (.frz d))
  | _ => False
theorem ev_asg : sAsg i r E δ = r δ (kAsg i E) := rfl
theorem ev_kasg : kAsg i E (.val d) δ = (okSet δ i = true ∧ E.nx (ss δ i (.frz d))) := rfl
def kAsgF (i : Nat) (E : DE) : List D → DS → Prop := fun ds δ1 => okSet δ1 i = true ∧ E.nx (ss δ1 i (.own false (.lst ds)))
theorem ev_asgF : sAsgF i rf E δ = rf δ (kAsgF i E) := rfl
theorem ev_kasgF : kAsgF i E ds δ = (okSet δ i = true ∧ E.nx (ss δ i (.own false (.lst ds)))) := rfl
def selApp0 (s : Sl) (δ : DS) (i : Nat) {r : DV} (_ : BoxDV r) {E : DE} (_ : BoxE E) : Prop := match s with
  | .own _ (.lst _) => r δ fun w δ1 => match w, sg δ1 i with
    | .val d, .own io (.lst ds) => ds.length < 16777216 ∧ E.nx (ss δ1 i (.own io (.lst (ds ++ [d]))))
    | _, _ => False
  | _ => False
def selApp (s : Sl) (i : Nat) (d : D) (δ : DS) {E : DE} (_ : BoxE E) : Prop := match s with
  | .own io (.lst ds) => ds.length < 16777216 ∧ E.nx (ss δ i (.own io (.lst (ds ++ [d]))))
  | _ => False
def kApp (i : Nat) (E : DE) : Vw → DS → Prop := fun w δ1 => match w, sg δ1 i with
  | .val d, .own io (.lst ds) => ds.length < 16777216 ∧ E.nx (ss δ1 i (.own io (.lst (ds ++ [d]))))
  | _, _ => False
theorem ev_app : sApp i r E δ = selApp0 (sg δ i) δ i (BoxDV.mk : BoxDV r) (BoxE.mk : BoxE E) := rfl
theorem ev_app0 {z : BoxDV r} {z2 : BoxE E} : selApp0 (.own io (.lst ds)) δ i z z2 = r δ (kApp i E) := rfl
theorem ev_kapp : kApp i E (.val d) δ = selApp (sg δ i) i d δ (BoxE.mk : BoxE E) := by
  unfold kApp selApp
  cases sg δ i with
  | own io x => cases x <;> rfl
  | _ => rfl
theorem ev_selApp {z : BoxE E} : selApp (.own io (.lst ds)) i d δ z = (ds.length < 16777216 ∧ E.nx (ss δ i (.own io (.lst (ds ++ [d]))))) := rfl
def kSet1 (i : Nat) (ri : DV) (E : DE) : Vw → DS → Prop := fun w δ1 => match sg δ1 i with
  | .own _ (.lst _) => ri δ1 fun w2 δ2 => setG i E w w2 δ2
  | _ => False
def selSet1 (s : Sl) (δ : DS) {ri : DV} (_ : BoxDV ri) {Q : Vw → DS → Prop} (_ : BoxV Q) : Prop := match s with
  | .own _ (.lst _) => ri δ Q
  | _ => False
def kSet2 (i : Nat) (E : DE) (w : Vw) : Vw → DS → Prop := fun w2 δ2 => setG i E w w2 δ2
def selSet (s : Sl) (i : Nat) (d : D) (k : Int) (δ : DS) {E : DE} (_ : BoxE E) : Prop := match s with
  | .own io (.lst ds) => match ixN ds.length k with
    | some j => E.nx (ss δ i (.own io (.lst (ds.set j d))))
    | none => False
  | _ => False
def selSetJ (o : Option Nat) (io : Bool) (ds : List D) (i : Nat) (d : D) (δ : DS) {E : DE} (_ : BoxE E) : Prop := match o with
  | some j => E.nx (ss δ i (.own io (.lst (ds.set j d))))
  | none => False
theorem ev_set {ri : DV} : sSetI i r ri E δ = r δ (kSet1 i ri E) := rfl
theorem ev_kset1 {ri : DV} : kSet1 i ri E w δ = selSet1 (sg δ i) δ (BoxDV.mk : BoxDV ri) (BoxV.mk : BoxV (kSet2 i E w)) := rfl
theorem ev_selSet1 {ri : DV} {z : BoxDV ri} {z2 : BoxV Q} : selSet1 (.own io (.lst ds)) δ z z2 = ri δ Q := rfl
theorem ev_kset2 {k : Int} : kSet2 i E (.val d) (.val (.int k)) δ = selSet (sg δ i) i d k δ (BoxE.mk : BoxE E) := by
  unfold kSet2 setG selSet
  cases sg δ i with
  | own io x => cases x <;> rfl
  | _ => rfl
theorem ev_selSet {k : Int} {z : BoxE E} : selSet (.own io (.lst ds)) i d k δ z = selSetJ (ixN ds.length k) io ds i d δ z := rfl
theorem ev_selSetJ {j : Nat} {z : BoxE E} : selSetJ (some j) io ds i d δ z = E.nx (ss δ i (.own io (.lst (ds.set j d)))) := rfl
def selAug (s : Sl) (δ : DS) (i : Nat) {R : R2D} (_ : BoxR R) {r : DV} (_ : BoxDV r) {E : DE} (_ : BoxE E) : Prop := match s with
  | .frz a => r δ fun w δ1 => match vget δ1 w with
    | some b => R a b fun d => okSet δ1 i = true ∧ E.nx (ss δ1 i (.frz d))
    | none => False
  | _ => False
def kAugD (i : Nat) (E : DE) (δ : DS) : D → Prop := fun d => okSet δ i = true ∧ E.nx (ss δ i (.frz d))
def selAug2 (o : Option D) (a : D) {R : R2D} (_ : BoxR R) {P : D → Prop} (_ : BoxP P) : Prop := match o with
  | some b => R a b P
  | none => False
def kAug (i : Nat) (R : R2D) (a : D) (E : DE) : Vw → DS → Prop := fun w δ1 => match vget δ1 w with
  | some b => R a b fun d => okSet δ1 i = true ∧ E.nx (ss δ1 i (.frz d))
  | none => False
theorem ev_aug : sAug i R r E δ = selAug (sg δ i) δ i (BoxR.mk : BoxR R) (BoxDV.mk : BoxDV r) (BoxE.mk : BoxE E) := rfl
theorem ev_selAug {z : BoxE E} {z2 : BoxR R} {z3 : BoxDV r} : selAug (.frz d) δ i z2 z3 z = r δ (kAug i R d E) := rfl
theorem ev_kaug : kAug i R d E w δ = selAug2 (vget δ w) d (BoxR.mk : BoxR R) (BoxP.mk : BoxP (kAugD i E δ)) := rfl
theorem ev_selAug2 {z : BoxR R} {z2 : BoxP P} : selAug2 (some d1) d z z2 = R d d1 P := rfl
theorem ev_kaugD : kAugD i E δ d = (okSet δ i = true ∧ E.nx (ss δ i (.frz d))) := rfl
def kTgt (g : DG) (E : DE) : Vw → DS → Prop := fun w δ1 => match w with
  | .val d => g d δ1 E.nx
  | _ => False
theorem ev_tgt : sTgt r g E δ = r δ (kTgt g E) := rfl
theorem ev_ktgt : kTgt g E (.val d) δ = g d δ E.nx := rfl
def kFor (g : DG) (b : DSt) (E : DE) : List D → DS → Prop := fun items δ1 => loopD items δ1 (BoxL.mk : BoxL (rLoop g b E))
theorem ev_for : sFor ri g b E δ = ri δ (kFor g b E) := rfl
theorem ev_kfor : kFor g b E ds δ = loopD ds δ (BoxL.mk : BoxL (rLoop g b E)) := rfl
theorem ev_while : sWhile t b E δ = whileD δ (BoxL.mk : BoxL (fun _ δ => ∃ n, rWhile t b E n δ)) := rfl
/-! targets -/
theorem ev_dname {q : DS → Prop} : dName i d δ q = (okSet δ i = true ∧ q (ss δ i (.frz d))) := rfl
def kDC (gs : DGs) (ds : List D) (q : DS → Prop) : DS → Prop := fun δ1 => gs ds δ1 q
theorem ev_dtup {q : DS → Prop} : dTup n gs (.tup ds) δ q = (ds.length = n ∧ gs ds δ q) := rfl
theorem ev_dcons {q : DS → Prop} : dCons g gs (d :: ds) δ q = g d δ (kDC gs ds q) := rfl
theorem ev_kdc {q : DS → Prop} : kDC gs ds q δ = gs ds δ q := rfl
theorem ev_dnil {q : DS → Prop} : dNil [] δ q = q δ := rfl
/-! expressions -/
def selV (s : Sl) (i : Nat) (δ : DS) {Q : Vw → DS → Prop} (_ : BoxV Q) : Prop := match s with
  | .frz d => Q (.val d) δ
  | .own _ _ => Q (.slot i) δ
  | _ => False
theorem ev_name : rName i δ Q = selV (sg δ i) i δ (BoxV.mk : BoxV Q) := rfl
theorem ev_selF {z : BoxV Q} : selV (.frz d) i δ z = Q (.val d) δ := rfl
theorem ev_selO {z : BoxV Q} : selV (.own io x) i δ z = Q (.slot i) δ := rfl
theorem ev_c : rC d δ Q = Q (.val d) δ := rfl
def kVal (Q : Vw → DS → Prop) : Vw → DS → Prop := fun w δ1 => match w with
  | .val d => Q (.val d) δ1
  | .slot i => match sg δ1 i with
    | .own false (.lst ds) => Q (.val (.lst ds)) (ss δ1 i (.frz (.lst ds)))
    | _ => False
  | .obj _ => False
def selVal (s : Sl) (i : Nat) (δ : DS) {Q : Vw → DS → Prop} (_ : BoxV Q) : Prop := match s with
    | .own false (.lst ds) => Q (.val (.lst ds)) (ss δ i (.frz (.lst ds)))
    | _ => False
theorem ev_val : rVal r δ Q = r δ (kVal Q) := rfl
theorem ev_kval : kVal Q (.val d) δ = Q (.val d) δ := rfl
theorem ev_kvalS : kVal Q (.slot i) δ = selVal (sg δ i) i δ (BoxV.mk : BoxV Q) := rfl
theorem ev_selVal {z : BoxV Q} : selVal (.own false (.lst ds)) i δ z = Q (.val (.lst ds)) (ss δ i (.frz (.lst ds))) := rfl
def kFz (Q : Vw → DS → Prop) : List D → DS → Prop := fun ds δ => Q (.val (.lst ds)) δ
theorem ev_fz : rFz rf δ Q = rf δ (kFz Q) := rfl
theorem ev_kfz : kFz Q ds δ = Q (.val (.lst ds)) δ := rfl
def kD (Q : Vw → DS → Prop) (δ : DS) : D → Prop := fun d => Q (.val d) δ
theorem ev_kD : kD Q δ d = Q (.val d) δ := rfl
def kL (Q : List D → DS → Prop) (δ : DS) : List D → Prop := fun d => Q d δ
theorem ev_kL : kL QF δ ds = QF ds δ := rfl
def elim2 (o1 o2 : Option D) {R : R2D} (_ : BoxR R) {P : D → Prop} (_ : BoxP P) : Prop := match o1, o2 with
  | some a, some b => R a b P
  | _, _ => False
def kOp1 (R : R2D) (rb : DV) (Q : Vw → DS → Prop) : Vw → DS → Prop := fun w1 δ1 => rb δ1 fun w2 δ2 => match vget δ2 w1, vget δ2 w2 with
  | some a, some b => R a b fun d => Q (.val d) δ2
  | _, _ => False
def kOp2 (R : R2D) (w1 : Vw) (Q : Vw → DS → Prop) : Vw → DS → Prop := fun w2 δ2 => match vget δ2 w1, vget δ2 w2 with
  | some a, some b => R a b fun d => Q (.val d) δ2
  | _, _ => False
theorem ev_op : rOp R ra rb δ Q = ra δ (kOp1 R rb Q) := rfl
theorem ev_kop1 : kOp1 R rb Q w δ = rb δ (kOp2 R w Q) := rfl
theorem ev_kop2 : kOp2 R w1 Q w2 δ = elim2 (vget δ w1) (vget δ w2) (BoxR.mk : BoxR R) (BoxP.mk : BoxP (kD Q δ)) := rfl
theorem ev_elim2 {z : BoxR R} {z2 : BoxP P} : elim2 (some d1) (some d2) z z2 = R d1 d2 P := rfl
inductive BoxRL (R : D → D → (List D → Prop) → Prop) : Type where
  | mk
inductive BoxPL (P : List D → Prop) : Type where
  | mk
def elim2F (o1 o2 : Option D) {R : D → D → (List D → Prop) → Prop} (_ : BoxRL R) {P : List D → Prop} (_ : BoxPL P) : Prop := match o1, o2 with
  | some a, some b => R a b P
  | _, _ => False
def kOpF1 (R : D → D → (List D → Prop) → Prop) (rb : DV) (Q : List D → DS → Prop) : Vw → DS → Prop := fun w1 δ1 => rb δ1 fun w2 δ2 => match vget δ2 w1, vget δ2 w2 with
  | some a, some b => R a b fun ds => Q ds δ2
  | _, _ => False
def kOpF2 (R : D → D → (List D → Prop) → Prop) (w1 : Vw) (Q : List D → DS → Prop) : Vw → DS → Prop := fun w2 δ2 => match vget δ2 w1, vget δ2 w2 with
  | some a, some b => R a b fun ds => Q ds δ2
  | _, _ => False
theorem ev_opF {R : D → D → (List D → Prop) → Prop} : rOpF R ra rb δ QF = ra δ (kOpF1 R rb QF) := rfl
theorem ev_kopF1 {R : D → D → (List D → Prop) → Prop} : kOpF1 R rb QF w δ = rb δ (kOpF2 R w QF) := rfl
theorem ev_kopF2 {R : D → D → (List D → Prop) → Prop} : kOpF2 R w1 QF w2 δ = elim2F (vget δ w1) (vget δ w2) (BoxRL.mk : BoxRL R) (BoxPL.mk : BoxPL (kL QF δ)) := rfl
theorem ev_elim2F {R : D → D → (List D → Prop) → Prop} {z : BoxRL R} {z2 : BoxPL PL} : elim2F (some d1) (some d2) z z2 = R d1 d2 PL := rfl
inductive BoxR1 (R : D → (D → Prop) → Prop) : Type where
  | mk
def elim1 (o1 : Option D) {R : D → (D → Prop) → Prop} (_ : BoxR1 R) {P : D → Prop} (_ : BoxP P) : Prop := match o1 with
  | some a => R a P
  | none => False
def kUn (R : D → (D → Prop) → Prop) (Q : Vw → DS → Prop) : Vw → DS → Prop := fun w δ => elim1 (vget δ w) (BoxR1.mk : BoxR1 R) (BoxP.mk : BoxP (kD Q δ))
theorem ev_un {R : D → (D → Prop) → Prop} : rUn R r δ Q = r δ (kUn R Q) := rfl
theorem ev_kun {R : D → (D → Prop) → Prop} : kUn R Q w δ = elim1 (vget δ w) (BoxR1.mk : BoxR1 R) (BoxP.mk : BoxP (kD Q δ)) := rfl
theorem ev_elim1 {R : D → (D → Prop) → Prop} {z : BoxR1 R} {z2 : BoxP P} : elim1 (some d) z z2 = R d P := rfl
def kCA1 (rs : DA) (Q : List Vw → DS → Prop) : Vw → DS → Prop := fun w δ1 => rs δ1 fun ws δ2 => Q (w :: ws) δ2
def kCA2 (w : Vw) (Q : List Vw → DS → Prop) : List Vw → DS → Prop := fun ws δ2 => Q (w :: ws) δ2
theorem ev_nilA : rNilA δ QA = QA [] δ := rfl
theorem ev_consA : rConsA r rs δ QA = r δ (kCA1 rs QA) := rfl
theorem ev_kca1 : kCA1 rs QA w δ = rs δ (kCA2 w QA) := rfl
theorem ev_kca2 : kCA2 w QA ws δ = QA (w :: ws) δ := rfl
inductive BoxRN (R : List D → (D → Prop) → Prop) : Type where
  | mk
def elimN (o : Option (List D)) {R : List D → (D → Prop) → Prop} (_ : BoxRN R) {P : D → Prop} (_ : BoxP P) : Prop := match o with
  | some ds => R ds P
  | none => False
def kCB (R : RND) (Q : Vw → DS → Prop) : List Vw → DS → Prop := fun ws δ => elimN (vgets δ ws) (BoxRN.mk : BoxRN R) (BoxP.mk : BoxP (kD Q δ))
inductive BoxRNL (R : List D → (List D → Prop) → Prop) : Type where
  | mk
def elimNF (o : Option (List D)) {R : List D → (List D → Prop) → Prop} (_ : BoxRNL R) {P : List D → Prop} (_ : BoxPL P) : Prop := match o with
  | some ds => R ds P
  | none => False
def kCBF (R : List D → (List D → Prop) → Prop) (Q : List D → DS → Prop) : List Vw → DS → Prop := fun ws δ => elimNF (vgets δ ws) (BoxRNL.mk : BoxRNL R) (BoxPL.mk : BoxPL (kL Q δ))
theorem ev_cb {R : RND} : rCB R rs δ Q = rs δ (kCB R Q) := rfl
theorem ev_kcb {R : RND} : kCB R Q ws δ = elimN (vgets δ ws) (BoxRN.mk : BoxRN R) (BoxP.mk : BoxP (kD Q δ)) := rfl
theorem ev_elimN {R : RND} {z : BoxRN R} {z2 : BoxP P} : elimN (some ds) z z2 = R ds P := rfl
theorem ev_cbF {R : List D → (List D → Prop) → Prop} : rCBF R rs δ QF = rs δ (kCBF R QF) := rfl
theorem ev_kcbF {R : List D → (List D → Prop) → Prop} : kCBF R QF ws δ = elimNF (vgets δ ws) (BoxRNL.mk : BoxRNL R) (BoxPL.mk : BoxPL (kL QF δ)) := rfl
theorem ev_elimNF {R : List D → (List D → Prop) → Prop} {z : BoxRNL R} {z2 : BoxPL PL} : elimNF (some ds) z z2 = R ds PL := rfl
def elimT (o : Option (List D)) (δ : DS) {Q : Vw → DS → Prop} (_ : BoxV Q) : Prop := match o with
  | some ds => ds.length ≤ 16777216 ∧ Q (.val (.tup ds)) δ
  | none => False
def kTup (Q : Vw → DS → Prop) : List Vw → DS → Prop := fun ws δ => elimT (valsOf ws) δ (BoxV.mk : BoxV Q)
inductive BoxF (Q : List D → DS → Prop) : Type where
  | mk
def elimL (o : Option (List D)) (δ : DS) {Q : List D → DS → Prop} (_ : BoxF Q) : Prop := match o with
  | some ds => ds.length ≤ 16777216 ∧ Q ds δ
  | none => False
def kLst (Q : List D → DS → Prop) : List Vw → DS → Prop := fun ws δ => elimL (valsOf ws) δ (BoxF.mk : BoxF Q)
theorem ev_tup : rTup rs δ Q = rs δ (kTup Q) := rfl
theorem ev_ktup : kTup Q ws δ = elimT (valsOf ws) δ (BoxV.mk : BoxV Q) := rfl
theorem ev_elimT {z : BoxV Q} : elimT (some ds) δ z = (ds.length ≤ 16777216 ∧ Q (.val (.tup ds)) δ) := rfl
theorem ev_lst : rLst rs δ QF = rs δ (kLst QF) := rfl
theorem ev_klst : kLst QF ws δ = elimL (valsOf ws) δ (BoxF.mk : BoxF QF) := rfl
theorem ev_elimL {z : BoxF QF} : elimL (some ds) δ z = (ds.length ≤ 16777216 ∧ QF ds δ) := rfl
def kTest (Q : Bool → DS → Prop) : Vw → DS → Prop := fun w δ1 => match w with
  | .val (.bl b) => Q b δ1
  | _ => False
theorem ev_test : rTest r δ QB = r δ (kTest QB) := rfl
theorem ev_ktest : kTest QB (.val (.bl k)) δ = QB k δ := rfl
inductive BoxB (Q : Bool → DS → Prop) : Type where
  | mk
def kB (Q : Bool → DS → Prop) (δ : DS) : Bool → Prop := fun b => Q b δ
def elimTru (o : Option D) (δ : DS) {Q : Bool → DS → Prop} (_ : BoxB Q) : Prop := match o with
  | some d => truD d (kB Q δ)
  | none => False
def kTru (Q : Bool → DS → Prop) : Vw → DS → Prop := fun w δ => elimTru (vget δ w) δ (BoxB.mk : BoxB Q)
theorem ev_tru : rTru r δ QB = r δ (kTru QB) := rfl
theorem ev_ktru : kTru QB w δ = elimTru (vget δ w) δ (BoxB.mk : BoxB QB) := rfl
theorem ev_elimTru {z : BoxB QB} : elimTru (some d) δ z = truD d (kB QB δ) := rfl
theorem ev_kB : kB QB δ k = QB k δ := rfl
theorem ev_tru_n {q : Bool → Prop} : truD .non q = q false := rfl
theorem ev_tru_b {q : Bool → Prop} : truD (.bl k) q = q k := rfl
theorem ev_tru_i {q : Bool → Prop} {z : Int} : truD (.int z) q = q (z != 0) := rfl
theorem ev_tru_s {q : Bool → Prop} {s : Str} : truD (.str s) q = (s.length ≤ 16777216 ∧ q ((s.length : Int) != 0)) := rfl
theorem ev_tru_t {q : Bool → Prop} : truD (.tup ds) q = q (!ds.isEmpty) := rfl
theorem ev_tru_l {q : Bool → Prop} : truD (.lst ds) q = q (!ds.isEmpty) := rfl
theorem ev_tru_r {q : Bool → Prop} : truD (.rol ds) q = q (!ds.isEmpty) := rfl
def kAnd (u : DT) (Q : Bool → DS → Prop) : Bool → DS → Prop := fun b δ1 => brD (b = true) (bx (A := u δ1 Q) (B := Q false δ1))
def kOr (u : DT) (Q : Bool → DS → Prop) : Bool → DS → Prop := fun b δ1 => brD (b = true) (bx (A := Q true δ1) (B := u δ1 Q))
def kNot (Q : Bool → DS → Prop) : Bool → DS → Prop := fun b δ1 => Q (!b) δ1
theorem ev_and : rAnd t u δ QB = t δ (kAnd u QB) := rfl
theorem ev_or : rOr t u δ QB = t δ (kOr u QB) := rfl
theorem ev_not : rNot t δ QB = t δ (kNot QB) := rfl
theorem ev_kand : kAnd u QB k δ = brD (k = true) (bx (A := u δ QB) (B := QB false δ)) := rfl
theorem ev_kor : kOr u QB k δ = brD (k = true) (bx (A := QB true δ) (B := u δ QB)) := rfl
theorem ev_knot : kNot QB k δ = QB (!k) δ := rfl
def kAndV (u : DV) (Q : Vw → DS → Prop) : Vw → DS → Prop := fun w δ1 => match w with
  | .val (.bl b) => brD (b = true) (bx (A := u δ1 Q) (B := Q (.val (.bl false)) δ1))
  | _ => False
def kOrV (u : DV) (Q : Vw → DS → Prop) : Vw → DS → Prop := fun w δ1 => match w with
  | .val (.bl b) => brD (b = true) (bx (A := Q (.val (.bl true)) δ1) (B := u δ1 Q))
  | _ => False
def kNotV (Q : Vw → DS → Prop) : Vw → DS → Prop := fun w δ1 => match w with
  | .val (.bl b) => Q (.val (.bl (!b))) δ1
  | _ => False
theorem ev_andV : rAndV ra rb δ Q = ra δ (kAndV rb Q) := rfl
theorem ev_orV : rOrV ra rb δ Q = ra δ (kOrV rb Q) := rfl
theorem ev_notV : rNotV r δ Q = r δ (kNotV Q) := rfl
theorem ev_kandV : kAndV rb Q (.val (.bl k)) δ = brD (k = true) (bx (A := rb δ Q) (B := Q (.val (.bl false)) δ)) := rfl
theorem ev_korV : kOrV rb Q (.val (.bl k)) δ = brD (k = true) (bx (A := Q (.val (.bl true)) δ) (B := rb δ Q)) := rfl
theorem ev_knotV : kNotV Q (.val (.bl k)) δ = Q (.val (.bl (!k))) δ := rfl
def kIfE (a b : DV) (Q : Vw → DS → Prop) : Bool → DS → Prop := fun k δ1 => brD (k = true) (bx (A := a δ1 Q) (B := b δ1 Q))
theorem ev_ifE : rIfE t ra rb δ Q = t δ (kIfE ra rb Q) := rfl
theorem ev_kifE : kIfE ra rb Q k δ = brD (k = true) (bx (A := ra δ Q) (B := rb δ Q)) := rfl
def kCh1 (R R' : R2D) (rb rc : DV) (Q : Vw → DS → Prop) : Vw → DS → Prop := fun w1 δ1 => rb δ1 fun w2 δ2 => match vget δ2 w1, vget δ2 w2 with
  | some a, some b => R a b fun d => match d with
    | .bl k => brD (k = true) (bx (A := rc δ2 fun w3 δ3 => match vget δ3 w2, vget δ3 w3 with
        | some b', some c => R' b' c fun d => Q (.val d) δ3
        | _, _ => False) (B := Q (.val (.bl false)) δ2))
    | _ => False
  | _, _ => False
def kChD (R' : R2D) (rc : DV) (w2 : Vw) (Q : Vw → DS → Prop) (δ2 : DS) : D → Prop := fun d => match d with
    | .bl k => brD (k = true) (bx (A := rc δ2 fun w3 δ3 => match vget δ3 w2, vget δ3 w3 with
        | some b', some c => R' b' c fun d => Q (.val d) δ3
        | _, _ => False) (B := Q (.val (.bl false)) δ2))
    | _ => False
def kCh2 (R R' : R2D) (rc : DV) (w1 : Vw) (Q : Vw → DS → Prop) : Vw → DS → Prop := fun w2 δ2 => elim2 (vget δ2 w1) (vget δ2 w2) (BoxR.mk : BoxR R) (BoxP.mk : BoxP (kChD R' rc w2 Q δ2))
theorem ev_chain {R R' : R2D} : rChain R R' ra rb rc δ Q = ra δ (kCh1 R R' rb rc Q) := rfl
theorem ev_kch1 {R R' : R2D} : kCh1 R R' rb rc Q w δ = rb δ (kCh2 R R' rc w Q) := rfl
theorem ev_kch2 {R R' : R2D} : kCh2 R R' rc w1 Q w2 δ = elim2 (vget δ w1) (vget δ w2) (BoxR.mk : BoxR R) (BoxP.mk : BoxP (kChD R' rc w2 Q δ)) := rfl
theorem ev_kchD {R' : R2D} : kChD R' rc w2 Q δ (.bl k) = brD (k = true) (bx (A := rc δ (kOp2 R' w2 Q)) (B := Q (.val (.bl false)) δ)) := rfl
def elimIs (T : String) (o : Option D) (δ : DS) {Q : Vw → DS → Prop} (_ : BoxV Q) : Prop := match o with
  | some d => notPtr d ∧ Q (.val (.bl (isiD T d))) δ
  | none => False
def kIsi (T : String) (Q : Vw → DS → Prop) : Vw → DS → Prop := fun w δ => elimIs T (vget δ w) δ (BoxV.mk : BoxV Q)
theorem ev_isi {T : String} : rIsiD T r δ Q = r δ (kIsi T Q) := rfl
theorem ev_kisi {T : String} : kIsi T Q w δ = elimIs T (vget δ w) δ (BoxV.mk : BoxV Q) := rfl
theorem ev_elimIs {T : String} {z : BoxV Q} : elimIs T (some d) δ z = (notPtr d ∧ Q (.val (.bl (isiD T d))) δ) := rfl
/-! what is walked -/
def kSeqI (Q : List D → DS → Prop) : Vw → DS → Prop := fun w δ1 => match w with
  | .val (.lst ds) => Q ds δ1
  | .val (.rol ds) => Q ds δ1
  | .val (.tup ds) => Q ds δ1
  | .val (.str x) => Q (x.cps.toList.map fun c => .str ⟨#[c]⟩) δ1
  | _ => False
def kR1 (Q : List D → DS → Prop) : List Vw → DS → Prop := fun ws δ1 => match ws with
  | [.val (.int n)] => (-(2 ^ 62) ≤ n ∧ n < 2 ^ 62) ∧ Q (rngD 0 n) δ1
  | _ => False
def kR2 (Q : List D → DS → Prop) : List Vw → DS → Prop := fun ws δ1 => match ws with
  | [.val (.int m), .val (.int n)] => (-(2 ^ 62) ≤ m ∧ m < 2 ^ 62 ∧ -(2 ^ 62) ≤ n ∧ n < 2 ^ 62) ∧ Q (rngD m n) δ1
  | _ => False
theorem ev_iseq : iSeqD r δ QF = r δ (kSeqI QF) := rfl
theorem ev_kseqL : kSeqI QF (.val (.lst ds)) δ = QF ds δ := rfl
theorem ev_kseqR : kSeqI QF (.val (.rol ds)) δ = QF ds δ := rfl
theorem ev_kseqT : kSeqI QF (.val (.tup ds)) δ = QF ds δ := rfl
theorem ev_rng1 : iRng1D rs δ QF = rs δ (kR1 QF) := rfl
theorem ev_kr1 {z : Int} : kR1 QF [.val (.int z)] δ = ((-(2 ^ 62) ≤ z ∧ z < 2 ^ 62) ∧ QF (rngD 0 z) δ) := rfl
theorem ev_rng2 : iRng2D rs δ QF = rs δ (kR2 QF) := rfl
theorem ev_kr2 {y z : Int} : kR2 QF [.val (.int y), .val (.int z)] δ = ((-(2 ^ 62) ≤ y ∧ y < 2 ^ 62 ∧ -(2 ^ 62) ≤ z ∧ z < 2 ^ 62) ∧ QF (rngD y z) δ) := rfl
/-! calls -/
inductive BoxS (S : DSp) : Type where
  | mk
def kRes (is : List Nat) (δ : DS) (Q : Vw → DS → Prop) : Ret → List Cn → Prop := fun r outs => match r with
  | .v d => Q (.val d) (putOuts is outs δ)
  | .f ds => Q (.val (.lst ds)) (putOuts is outs δ)
def kResF (is : List Nat) (δ : DS) (Q : List D → DS → Prop) : Ret → List Cn → Prop := fun r outs => match r with
  | .v _ => False
  | .f ds => Q ds (putOuts is outs δ)
def elimC (o : Option (List Ar)) (n : Nat) (ws : List Vw) (δ : DS) {S : DSp} (_ : BoxS S) {Q : Vw → DS → Prop} (_ : BoxV Q) : Prop := match o with
  | some as => ws.length = n ∧ noDup (slotsOf ws) = true ∧ callD S as (BoxK.mk : BoxK (kRes (slotsOf ws) δ Q))
  | none => False
def kCall (n : Nat) (S : DSp) (Q : Vw → DS → Prop) : List Vw → DS → Prop := fun ws δ => elimC (arsOf δ ws) n ws δ (BoxS.mk : BoxS S) (BoxV.mk : BoxV Q)
def elimCF (o : Option (List Ar)) (n : Nat) (ws : List Vw) (δ : DS) {S : DSp} (_ : BoxS S) {Q : List D → DS → Prop} (_ : BoxF Q) : Prop := match o with
  | some as => ws.length = n ∧ noDup (slotsOf ws) = true ∧ callD S as (BoxK.mk : BoxK (kResF (slotsOf ws) δ Q))
  | none => False
def kCallF (n : Nat) (S : DSp) (Q : List D → DS → Prop) : List Vw → DS → Prop := fun ws δ => elimCF (arsOf δ ws) n ws δ (BoxS.mk : BoxS S) (BoxF.mk : BoxF Q)
theorem ev_call : rCall n S rs δ Q = rs δ (kCall n S Q) := rfl
theorem ev_kcall : kCall n S Q ws δ = elimC (arsOf δ ws) n ws δ (BoxS.mk : BoxS S) (BoxV.mk : BoxV Q) := rfl
theorem ev_elimC {as : List Ar} {z : BoxS S} {z2 : BoxV Q} : elimC (some as) n ws δ z z2 = (ws.length = n ∧ noDup (slotsOf ws) = true ∧ callD S as (BoxK.mk : BoxK (kRes (slotsOf ws) δ Q))) := rfl
theorem ev_callF : rCallF n S rs δ QF = rs δ (kCallF n S QF) := rfl
theorem ev_kcallF : kCallF n S QF ws δ = elimCF (arsOf δ ws) n ws δ (BoxS.mk : BoxS S) (BoxF.mk : BoxF QF) := rfl
theorem ev_elimCF {as : List Ar} {z : BoxS S} {z2 : BoxF QF} : elimCF (some as) n ws δ z z2 = (ws.length = n ∧ noDup (slotsOf ws) = true ∧ callD S as (BoxK.mk : BoxK (kResF (slotsOf ws) δ QF))) := rfl
theorem ev_kresV {is : List Nat} {outs : List Cn} : kRes is δ Q (.v d) outs = Q (.val d) (putOuts is outs δ) := rfl
theorem ev_kresF {is : List Nat} {outs : List Cn} : kRes is δ Q (.f ds) outs = Q (.val (.lst ds)) (putOuts is outs δ) := rfl
theorem ev_kresFF {is : List Nat} {outs : List Cn} : kResF is δ QF (.f ds) outs = QF ds (putOuts is outs δ) := rfl
/-! comprehensions -/
def kFin (vs : List Nat) (Q : List D → DS → Prop) : List D → DS → Prop := fun acc δ2 => okWipe δ2 vs = true ∧ Q acc (dWipe δ2 vs)
def kComp (vs : List Nat) (g : DG) (t : DT) (e : DV) (Q : List D → DS → Prop) : List D → DS → Prop := fun items δ1 => okWipe δ1 vs = true ∧ loopD items (dWipe δ1 vs) (BoxL.mk : BoxL fun items δ => compGo g t e vs (kFin vs Q) items [] δ)
theorem ev_comp : rComp vs ri g t r δ QF = ri δ (kComp vs g t r QF) := rfl
theorem ev_kcomp : kComp vs g t r QF ds δ = (okWipe δ vs = true ∧ loopD ds (dWipe δ vs) (BoxL.mk : BoxL fun items δ => compGo g t r vs (kFin vs QF) items [] δ)) := rfl
theorem ev_kfin : kFin vs QF ds δ = (okWipe δ vs = true ∧ QF ds (dWipe δ vs)) := rfl
theorem ev_yes : rYes δ QB = QB true δ := rfl
/-! slices -/
def kO (Q : Option Int → DS → Prop) : Vw → DS → Prop := fun w δ1 => match w with
  | .val (.int i) => Q (some i) δ1
  | _ => False
theorem ev_oN : oNone δ QO = QO none δ := rfl
theorem ev_oS : oSome r δ QO = r δ (kO QO) := rfl
theorem ev_kO {z : Int} : kO QO (.val (.int z)) δ = QO (some z) δ := rfl
def kSl1 (lo hi : DO) (Q : Vw → DS → Prop) : Vw → DS → Prop := fun w δ1 => lo δ1 fun l δ2 => hi δ2 fun u δ3 => match vget δ3 w with
  | some d => slR d l u fun e => Q (.val e) δ3
  | none => False
def kSl2 (w : Vw) (hi : DO) (Q : Vw → DS → Prop) : Option Int → DS → Prop := fun l δ2 => hi δ2 fun u δ3 => match vget δ3 w with
  | some d => slR d l u fun e => Q (.val e) δ3
  | none => False
def elimSl (o : Option D) (l u : Option Int) {P : D → Prop} (_ : BoxP P) : Prop := match o with
  | some d => slR d l u P
  | none => False
def kSl3 (w : Vw) (l : Option Int) (Q : Vw → DS → Prop) : Option Int → DS → Prop := fun u δ3 => elimSl (vget δ3 w) l u (BoxP.mk : BoxP (kD Q δ3))
theorem ev_sl {lo hi : DO} : rSl r lo hi δ Q = r δ (kSl1 lo hi Q) := rfl
theorem ev_ksl1 {lo hi : DO} : kSl1 lo hi Q w δ = lo δ (kSl2 w hi Q) := rfl
theorem ev_ksl2 {hi : DO} {l : Option Int} : kSl2 w hi Q l δ = hi δ (kSl3 w l Q) := rfl
theorem ev_ksl3 {l u : Option Int} : kSl3 w l Q u δ = elimSl (vget δ w) l u (BoxP.mk : BoxP (kD Q δ)) := rfl
theorem ev_elimSl {l u : Option Int} {z : BoxP P} : elimSl (some d) l u z = slR d l u P := rfl
def kSf1 (lo hi : DO) (Q : List D → DS → Prop) : Vw → DS → Prop := fun w δ1 => lo δ1 fun l δ2 => hi δ2 fun u δ3 => match vget δ3 w with
  | some d => slFR d l u fun e => Q e δ3
  | none => False
def kSf2 (w : Vw) (hi : DO) (Q : List D → DS → Prop) : Option Int → DS → Prop := fun l δ2 => hi δ2 fun u δ3 => match vget δ3 w with
  | some d => slFR d l u fun e => Q e δ3
  | none => False
def elimSf (o : Option D) (l u : Option Int) {P : List D → Prop} (_ : BoxPL P) : Prop := match o with
  | some d => slFR d l u P
  | none => False
def kSf3 (w : Vw) (l : Option Int) (Q : List D → DS → Prop) : Option Int → DS → Prop := fun u δ3 => elimSf (vget δ3 w) l u (BoxPL.mk : BoxPL (kL Q δ3))
theorem ev_sf {lo hi : DO} : rSlF r lo hi δ QF = r δ (kSf1 lo hi QF) := rfl
theorem ev_ksf1 {lo hi : DO} : kSf1 lo hi QF w δ = lo δ (kSf2 w hi QF) := rfl
theorem ev_ksf2 {hi : DO} {l : Option Int} : kSf2 w hi QF l δ = hi δ (kSf3 w l QF) := rfl
theorem ev_ksf3 {l u : Option Int} : kSf3 w l QF u δ = elimSf (vget δ w) l u (BoxPL.mk : BoxPL (kL QF δ)) := rfl
theorem ev_elimSf {l u : Option Int} {z : BoxPL PL} : elimSf (some d) l u z = slFR d l u PL := rfl
/-! operations -/
variable {p q : Int} {s s2 : Str}
theorem ev_add : addR (.int p) (.int q) P = P (.int (p + q)) := rfl
theorem ev_sub : subR (.int p) (.int q) P = P (.int (p - q)) := rfl
theorem ev_mul : mulR (.int p) (.int q) P = (((-(2 ^ 64) < p ∧ p < 2 ^ 64) ∨ (-(2 ^ 64) < q ∧ q < 2 ^ 64)) ∧ P (.int (p * q))) := rfl
theorem ev_div : divR (.int p) (.int q) P = ((0 < q ∧ q < 1073741824) ∧ P (.int (p / q))) := rfl
theorem ev_mod : modR (.int p) (.int q) P = (0 < q ∧ P (.int (p % q))) := rfl
theorem ev_pow : powR (.int p) (.int q) P = ((0 ≤ q ∧ q ≤ 1000000 ∧ p.natAbs < 2 ^ 64) ∧ P (.int (p ^ q.toNat))) := rfl
theorem ev_iadd : iaddR (.int p) (.int q) P = P (.int (p + q)) := rfl
theorem ev_cmp {f : Int → Int → Bool} : cmpR f (.int p) (.int q) P = P (.bl (f p q)) := rfl
theorem ev_adds : addR (.str s) (.str s2) P = (s.length + s2.length ≤ 16777216 ∧ P (.str (s ++ s2))) := rfl
theorem ev_addt : addR (.tup ds) (.tup es) P = (ds.length + es.length ≤ 16777216 ∧ P (.tup (ds ++ es))) := rfl
theorem ev_iadds : iaddR (.str s) (.str s2) P = (s.length + s2.length ≤ 16777216 ∧ P (.str (s ++ s2))) := rfl
theorem ev_isN : isNR d .non P = P (.bl (isNon d)) := rfl
theorem ev_isnN : isnNR d .non P = P (.bl (!isNon d)) := rfl
theorem ev_neg : negR (.int p) P = P (.int (-p)) := rfl
theorem ev_eq_i : eqR (.int p) (.int q) P = P (.bl (decide (p = q))) := rfl
theorem ev_eq_s : eqR (.str s) (.str s2) P = P (.bl (decide (s = s2))) := rfl
theorem ev_eq_b {k2 : Bool} : eqR (.bl k) (.bl k2) P = P (.bl (decide (k = k2))) := rfl
theorem ev_eq_nn : eqR .non .non P = P (.bl true) := rfl
theorem ev_eq_ni : eqR .non (.int p) P = P (.bl false) := rfl
theorem ev_eq_in : eqR (.int p) .non P = P (.bl false) := rfl
theorem ev_eq_ns : eqR .non (.str s) P = P (.bl false) := rfl
theorem ev_eq_sn : eqR (.str s) .non P = P (.bl false) := rfl
theorem ev_eq_nb : eqR .non (.bl k) P = P (.bl false) := rfl
theorem ev_eq_bn : eqR (.bl k) .non P = P (.bl false) := rfl
theorem ev_eq_tt : eqR (.tup ds) (.tup es) P = ((shP (.tup ds) = true ∧ shP (.tup es) = true) ∧ P (.bl (eqP (.tup ds) (.tup es)))) := rfl
theorem ev_eq_ll : eqR (.lst ds) (.lst es) P = ((shP (.lst ds) = true ∧ shP (.lst es) = true) ∧ P (.bl (eqP (.lst ds) (.lst es)))) := rfl
theorem ev_eq_nt : eqR .non (.tup es) P = ((shP .non = true ∧ shP (.tup es) = true) ∧ P (.bl (eqP .non (.tup es)))) := rfl
theorem ev_eq_tn : eqR (.tup ds) .non P = ((shP (.tup ds) = true ∧ shP .non = true) ∧ P (.bl (eqP (.tup ds) .non))) := rfl
theorem ev_ne_i : neR (.int p) (.int q) P = P (.bl (!decide (p = q))) := rfl
theorem ev_ne_s : neR (.str s) (.str s2) P = P (.bl (!decide (s = s2))) := rfl
theorem ev_ne_b {k2 : Bool} : neR (.bl k) (.bl k2) P = P (.bl (!decide (k = k2))) := rfl
theorem ev_ne_nn : neR .non .non P = P (.bl false) := rfl
theorem ev_ne_ni : neR .non (.int p) P = P (.bl true) := rfl
theorem ev_ne_in : neR (.int p) .non P = P (.bl true) := rfl
theorem ev_ne_ns : neR .non (.str s) P = P (.bl true) := rfl
theorem ev_ne_sn : neR (.str s) .non P = P (.bl true) := rfl
theorem ev_ne_nb : neR .non (.bl k) P = P (.bl true) := rfl
theorem ev_ne_bn : neR (.bl k) .non P = P (.bl true) := rfl
theorem ev_ne_tt : neR (.tup ds) (.tup es) P = ((shP (.tup ds) = true ∧ shP (.tup es) = true) ∧ P (.bl (!eqP (.tup ds) (.tup es)))) := rfl
theorem ev_ne_ll : neR (.lst ds) (.lst es) P = ((shP (.lst ds) = true ∧ shP (.lst es) = true) ∧ P (.bl (!eqP (.lst ds) (.lst es)))) := rfl
theorem ev_ne_nt : neR .non (.tup es) P = ((shP .non = true ∧ shP (.tup es) = true) ∧ P (.bl (!eqP .non (.tup es)))) := rfl
theorem ev_ne_tn : neR (.tup ds) .non P = ((shP (.tup ds) = true ∧ shP .non = true) ∧ P (.bl (!eqP (.tup ds) .non))) := rfl
theorem ev_ix_lst : ixR (.lst ds) (.int p) P = optD (atI ds p) (BoxD.mk : BoxD P) := rfl
theorem ev_ix_rol : ixR (.rol ds) (.int p) P = optD (atI ds p) (BoxD.mk : BoxD P) := rfl
theorem ev_ix_tup : ixR (.tup ds) (.int p) P = optD (atI ds p) (BoxD.mk : BoxD P) := rfl
theorem ev_ix_str : ixR (.str s) (.int p) P = (s.length ≤ 16777216 ∧ optD ((atI s.cps.toList p).map sgn1) (BoxD.mk : BoxD P)) := rfl
theorem ev_in_lst {neg : Bool} : inR neg d (.lst ds) P = ((flatD d = true ∧ ds.all flatD = true) ∧ P (.bl (if neg then !inF d ds else inF d ds))) := rfl
theorem ev_in_rol {neg : Bool} : inR neg d (.rol ds) P = ((flatD d = true ∧ ds.all flatD = true) ∧ P (.bl (if neg then !inF d ds else inF d ds))) := rfl
theorem ev_in_tup {neg : Bool} : inR neg d (.tup ds) P = ((flatD d = true ∧ ds.all flatD = true) ∧ P (.bl (if neg then !inF d ds else inF d ds))) := rfl
theorem ev_len_lst : lenR [.lst ds] P = P (.int (ds.length : Nat)) := rfl
theorem ev_len_rol : lenR [.rol ds] P = P (.int (ds.length : Nat)) := rfl
theorem ev_len_tup : lenR [.tup ds] P = P (.int (ds.length : Nat)) := rfl
theorem ev_len_s : lenR [.str s] P = (s.length ≤ 16777216 ∧ P (.int (s.length : Nat))) := rfl
theorem ev_abs : absR [.int p] P = P (.int (if p < 0 then -p else p)) := rfl
theorem ev_int : intR [.int p] P = P (.int p) := rfl
theorem ev_intb : intR [.bl k] P = P (.int (if k then 1 else 0)) := rfl
theorem ev_booli : boolR [.int p] P = P (.bl (p != 0)) := rfl
theorem ev_boolb : boolR [.bl k] P = P (.bl k) := rfl
theorem ev_max2 : max2R [.int p, .int q] P = P (.int (if q > p then q else p)) := rfl
theorem ev_min2 : min2R [.int p, .int q] P = P (.int (if q < p then q else p)) := rfl
theorem ev_list_lst : listR [.lst ds] PL = PL ds := rfl
theorem ev_tuple_lst : tupleR [.lst ds] P = P (.tup ds) := rfl
theorem ev_list_rol : listR [.rol ds] PL = PL ds := rfl
theorem ev_tuple_rol : tupleR [.rol ds] P = P (.tup ds) := rfl
theorem ev_list_tup : listR [.tup ds] PL = PL ds := rfl
theorem ev_tuple_tup : tupleR [.tup ds] P = P (.tup ds) := rfl
def elimSum (o : Option (List Int)) {P : D → Prop} (_ : BoxP P) : Prop := match o with
  | some ns => P (.int ns.sum)
  | none => False
theorem ev_sum : sumR [.lst ds] P = elimSum (intsD ds) (BoxP.mk : BoxP P) := rfl
theorem ev_sumT : sumR [.tup ds] P = elimSum (intsD ds) (BoxP.mk : BoxP P) := rfl
theorem ev_elimSum {ns : List Int} {z : BoxP P} : elimSum (some ns) z = P (.int ns.sum) := rfl
theorem ev_cat : catR (.lst ds) (.lst es) PL = (ds.length + es.length ≤ 16777216 ∧ PL (ds ++ es)) := rfl
theorem ev_rep : repR (.lst ds) (.int p) PL = ((-(2 ^ 63) ≤ p ∧ p < 2 ^ 63 ∧ ds.length * p.toNat ≤ 16777216) ∧ PL (List.replicate p.toNat ds).flatten) := rfl
theorem ev_slt {l u : Option Int} : slR (.tup ds) l u P = P (.tup (cutD ds l u)) := rfl
theorem ev_sls {l u : Option Int} : slR (.str s) l u P = (s.length ≤ 16777216 ∧ P (.str (cutS s l u))) := rfl
theorem ev_sfl {l u : Option Int} : slFR (.lst ds) l u PL = PL (cutD ds l u) := rfl
theorem ev_sfr {l u : Option Int} : slFR (.rol ds) l u PL = PL (cutD ds l u) := rfl
theorem ev_isNon_non : isNon .non = true := rfl
theorem ev_isNon_bl : isNon (.bl k) = false := rfl
theorem ev_isNon_int : isNon (.int p) = false := rfl
theorem ev_isNon_str : isNon (.str s) = false := rfl
theorem ev_isNon_tup : isNon (.tup ds) = false := rfl
theorem ev_isNon_lst : isNon (.lst ds) = false := rfl
theorem ev_isNon_rol : isNon (.rol ds) = false := rfl
end
section
variable {α : Type} {a b c d e f g h i : α} {r : List α}
theorem atI_c0 : atI (a :: r) 0 = some a := atI_nat (j := 0) rfl
theorem atI_c1 : atI (a :: b :: r) 1 = some b := atI_nat (j := 1) rfl
theorem atI_c2 : atI (a :: b :: c :: r) 2 = some c := atI_nat (j := 2) rfl
theorem atI_c3 : atI (a :: b :: c :: d :: r) 3 = some d := atI_nat (j := 3) rfl
theorem atI_c4 : atI (a :: b :: c :: d :: e :: r) 4 = some e := atI_nat (j := 4) rfl
theorem atI_c5 : atI (a :: b :: c :: d :: e :: f :: r) 5 = some f := atI_nat (j := 5) rfl
theorem atI_c6 : atI (a :: b :: c :: d :: e :: f :: g :: r) 6 = some g := atI_nat (j := 6) rfl
theorem atI_c7 : atI (a :: b :: c :: d :: e :: f :: g :: h :: r) 7 = some h := atI_nat (j := 7) rfl
theorem atI_c8 : atI (a :: b :: c :: d :: e :: f :: g :: h :: i :: r) 8 = some i := atI_nat (j := 8) rfl
theorem natAbs10 : (Int.natAbs 10 < 2 ^ 64) = True := by decide
theorem natAbs10b : (Int.natAbs 10 < 18446744073709551616) = True := by decide
theorem ixN_of {n j : Nat} (h : j < n) : ixN n (j : Int) = some j := by
  unfold ixN
  rw [if_pos (Int.natCast_nonneg j), if_pos (by omega), Int.toNat_natCast]
theorem ixN_c0 {n : Nat} : ixN (n + 1) 0 = some 0 := ixN_of (j := 0) (by omega)
theorem ixN_c1 {n : Nat} : ixN (n + 1 + 1) 1 = some 1 := ixN_of (j := 1) (by omega)
theorem ixN_c2 {n : Nat} : ixN (n + 1 + 1 + 1) 2 = some 2 := ixN_of (j := 2) (by omega)
theorem ixN_c3 {n : Nat} : ixN (n + 1 + 1 + 1 + 1) 3 = some 3 := ixN_of (j := 3) (by omega)
theorem ixN_c4 {n : Nat} : ixN (n + 1 + 1 + 1 + 1 + 1) 4 = some 4 := ixN_of (j := 4) (by omega)
theorem atI_in {xs : List α} {k : Int} (h0 : 0 ≤ k) (h1 : k < (xs.length : Int)) : ∃ x, atI xs k = some x ∧ x ∈ xs := by
  obtain ⟨j, rfl⟩ := Int.eq_ofNat_of_zero_le h0
  have hj : j < xs.length := by omega
  exact ⟨xs[j], atI_nat (List.getElem?_eq_getElem hj), List.getElem_mem hj⟩
theorem atI_map {β : Type} {fn : α → β} {xs : List α} {k : Int} : atI (xs.map fn) k = (atI xs k).map fn := by
  unfold atI
  rw [List.length_map]
  cases ixN xs.length k with
  | none => rfl
  | some j => simp
end
/-- one turn of a comprehension -/
def kE (K1 : D → DS → Prop) : Vw → DS → Prop := fun w δ3 => match w with
  | .val y => K1 y δ3
  | _ => False
def kS2 (e : DV) (K1 : D → DS → Prop) (K2 : DS → Prop) : Bool → DS → Prop := fun b δ2 => brD (b = true) (bx (A := e δ2 (kE K1)) (B := K2 δ2))
def kS1 (t : DT) (e : DV) (K1 : D → DS → Prop) (K2 : DS → Prop) : DS → Prop := fun δ1 => t δ1 (kS2 e K1 K2)
def stepC (g : DG) (t : DT) (e : DV) (d : D) (δ : DS) (K1 : D → DS → Prop) (K2 : DS → Prop) : Prop := g d δ (kS1 t e K1 K2)
theorem ev_step {g : DG} {t : DT} {e : DV} {d : D} {δ : DS} {K1 : D → DS → Prop} {K2 : DS → Prop} : stepC g t e d δ K1 K2 = g d δ (kS1 t e K1 K2) := rfl
theorem ev_ks1 {t : DT} {e : DV} {δ : DS} {K1 : D → DS → Prop} {K2 : DS → Prop} : kS1 t e K1 K2 δ = t δ (kS2 e K1 K2) := rfl
theorem ev_ks2 {e : DV} {δ : DS} {k : Bool} {K1 : D → DS → Prop} {K2 : DS → Prop} : kS2 e K1 K2 k δ = brD (k = true) (bx (A := e δ (kE K1)) (B := K2 δ)) := rfl
theorem ev_kE {δ : DS} {d : D} {K1 : D → DS → Prop} : kE K1 (.val d) δ = K1 d δ := rfl
/-- a comprehension whose turns leave the state as it is -/
theorem compGo_of {β : Type} {enc : β → D} {p : β → Bool} {f : β → D} {δ : DS} {g : DG} {t : DT} {e : DV} {vs : List Nat} {Q : List D → DS → Prop} : ∀ {xs : List β} {acc : List D},
    (∀ x ∈ xs, ∀ K1 K2, (p x = true → ∀ δ', okWipe δ' vs = true → dWipe δ' vs = δ → K1 (f x) δ') → (p x = false → ∀ δ', okWipe δ' vs = true → dWipe δ' vs = δ → K2 δ') → stepC g t e (enc x) δ K1 K2) →
    acc.length + xs.length ≤ 16777216 → Q (acc ++ (xs.filter p).map f) δ → compGo g t e vs Q (xs.map enc) acc δ
  | [], acc, h, hl, hq => by
    simp only [List.filter_nil, List.map_nil, List.append_nil] at hq
    exact hq
  | x :: xs, acc, h, hl, hq => by
    simp only [List.length_cons] at hl
    refine h x List.mem_cons_self _ _ (fun hp δ' h1 h2 => ⟨by omega, h1, ?_⟩) (fun hp δ' h1 h2 => ⟨h1, ?_⟩)
    · rw [h2]
      refine compGo_of (fun y hy => h y (List.mem_cons_of_mem _ hy)) (by simp only [List.length_append, List.length_cons, List.length_nil]; omega) ?_
      rw [List.filter_cons, if_pos hp, List.map_cons] at hq
      rw [List.append_assoc]
      exact hq
    · rw [h2]
      refine compGo_of (fun y hy => h y (List.mem_cons_of_mem _ hy)) (by omega) ?_
      rw [List.filter_cons, if_neg (by rw [hp]; decide)] at hq
      exact hq
theorem filter_yes {β : Type} (xs : List β) : xs.filter (fun _ => true) = xs := by induction xs <;> simp_all
/-- without a test -/
theorem compGo_map {β : Type} {enc : β → D} {f : β → D} {δ : DS} {g : DG} {t : DT} {e : DV} {vs : List Nat} {Q : List D → DS → Prop} {xs : List β}
    (h : ∀ x ∈ xs, ∀ K1 K2, (∀ δ', okWipe δ' vs = true → dWipe δ' vs = δ → K1 (f x) δ') → stepC g t e (enc x) δ K1 K2) (hl : xs.length ≤ 16777216) (hq : Q (xs.map f) δ) : compGo g t e vs Q (xs.map enc) [] δ :=
  compGo_of (p := fun _ => true) (fun x hx K1 K2 h1 _ => h x hx K1 K2 (h1 rfl)) (by simpa using hl) (by rw [filter_yes]; exact hq)
/-- a loop by what holds with these items left; B: at a break -/
theorem rLoop_inv {β : Type} {enc : β → D} {g : DG} {body : DSt} {E : DE} (st : List β → DS → Prop) (B : DS → Prop)
    (step : ∀ x rest δ, st (x :: rest) δ → ∀ K bk : DS → Prop, (∀ δ', st rest δ' → K δ') → (∀ δ', B δ' → bk δ') → g (enc x) δ (body { nx := K, rt := E.rt, bk := bk, ct := K }))
    (fin : ∀ δ, st [] δ → E.nx δ) (hB : ∀ δ, B δ → E.nx δ) : ∀ {xs : List β} {δ : DS}, st xs δ → rLoop g body E (xs.map enc) δ
  | [], δ, h => fin δ h
  | x :: xs, δ, h => step x xs δ h _ _ (fun δ' h' => rLoop_inv st B step fin hB h') hB
/-- .. without a break -/
theorem loop_by {β : Type} {enc : β → D} {g : DG} {body : DSt} {E : DE} {xs : List β} {δ : DS} (st : List β → DS → Prop) (h0 : st xs δ)
    (step : ∀ x rest δ, st (x :: rest) δ → ∀ K bk : DS → Prop, (∀ δ', st rest δ' → K δ') → g (enc x) δ (body { nx := K, rt := E.rt, bk := bk, ct := K }))
    (fin : ∀ δ, st [] δ → E.nx δ) : loopD (xs.map enc) δ (BoxL.mk : BoxL (rLoop g body E)) :=
  rLoop_inv st (fun _ => False) (fun x rest δ h K bk hk _ => step x rest δ h K bk hk) fin (fun _ h => h.elim) h0
theorem loop_byB {β : Type} {enc : β → D} {g : DG} {body : DSt} {E : DE} {xs : List β} {δ : DS} (st : List β → DS → Prop) (B : DS → Prop) (h0 : st xs δ)
    (step : ∀ x rest δ, st (x :: rest) δ → ∀ K bk : DS → Prop, (∀ δ', st rest δ' → K δ') → (∀ δ', B δ' → bk δ') → g (enc x) δ (body { nx := K, rt := E.rt, bk := bk, ct := K }))
    (fin : ∀ δ, st [] δ → E.nx δ) (hB : ∀ δ, B δ → E.nx δ) : loopD (xs.map enc) δ (BoxL.mk : BoxL (rLoop g body E)) := rLoop_inv st B step fin hB h0
def kW (body : DSt) (E : DE) (nx : DS → Prop) : Bool → DS → Prop := fun k δ1 => brD (k = true) (bx (A := body E δ1) (B := nx δ1))
theorem ev_kW {body : DSt} {E : DE} {nx : DS → Prop} {k : Bool} {δ : DS} : kW body E nx k δ = brD (k = true) (bx (A := body E δ) (B := nx δ)) := rfl
theorem comp_of {β : Type} {enc : β → D} {p : β → Bool} {f : β → D} {δ : DS} {g : DG} {t : DT} {e : DV} {vs : List Nat} {Q : List D → DS → Prop} {xs : List β}
    (h : ∀ x ∈ xs, ∀ K1 K2, (p x = true → ∀ δ', okWipe δ' vs = true → dWipe δ' vs = δ → K1 (f x) δ') → (p x = false → ∀ δ', okWipe δ' vs = true → dWipe δ' vs = δ → K2 δ') → stepC g t e (enc x) δ K1 K2)
    (hl : xs.length ≤ 16777216) (hq : Q ((xs.filter p).map f) δ) : loopD (xs.map enc) δ (BoxL.mk : BoxL fun items δ => compGo g t e vs Q items [] δ) := compGo_of h (by simpa using hl) hq
theorem comp_map {β : Type} {enc : β → D} {f : β → D} {δ : DS} {g : DG} {t : DT} {e : DV} {vs : List Nat} {Q : List D → DS → Prop} {xs : List β}
    (h : ∀ x ∈ xs, ∀ K1 K2, (∀ δ', okWipe δ' vs = true → dWipe δ' vs = δ → K1 (f x) δ') → stepC g t e (enc x) δ K1 K2) (hl : xs.length ≤ 16777216) (hq : Q (xs.map f) δ) :
    loopD (xs.map enc) δ (BoxL.mk : BoxL fun items δ => compGo g t e vs Q items [] δ) := compGo_map h hl hq
/-- a comprehension whose turns change the state: what holds of the list so far and the items left -/
theorem comp_inv {β : Type} {enc : β → D} {g : DG} {t : DT} {e : DV} {vs : List Nat} {Q : List D → DS → Prop} {xs : List β} {δ : DS} (st : List β → List D → DS → Prop) (h0 : st xs [] δ)
    (step : ∀ x rest acc δ, st (x :: rest) acc δ → ∀ K1 K2, (∀ y δ', acc.length < 16777216 → okWipe δ' vs = true → st rest (acc ++ [y]) (dWipe δ' vs) → K1 y δ') → (∀ δ', okWipe δ' vs = true → st rest acc (dWipe δ' vs) → K2 δ') → stepC g t e (enc x) δ K1 K2)
    (fin : ∀ acc δ, st [] acc δ → Q acc δ) : loopD (xs.map enc) δ (BoxL.mk : BoxL fun items δ => compGo g t e vs Q items [] δ) := by
  have go : ∀ (xs : List β) (acc : List D) (δ : DS), st xs acc δ → compGo g t e vs Q (xs.map enc) acc δ := by
    intro xs
    induction xs with
    | nil => exact fun acc δ h => fin acc δ h
    | cons x xs ih => exact fun acc δ h => step x xs acc δ h _ _ (fun y δ' h1 h2 h3 => ⟨h1, h2, ih _ _ h3⟩) (fun δ' h1 h2 => ⟨h1, ih _ _ h2⟩)
  exact go xs [] δ h0
/-- an item of a written list at an open place -/
theorem pick {ds : List D} {k : Int} {f : D → Prop} {b : BoxD f} (p : D → Prop) (h0 : 0 ≤ k) (h1 : k < (ds.length : Int)) (h : ∀ d ∈ ds, p d) (hk : ∀ d, p d → f d) : optD (atI ds k) b := by
  obtain ⟨x, e1, e2⟩ := atI_in h0 h1
  rw [e1]
  exact hk x (h x e2)
theorem pickI {ds : List D} {k : Int} {f : D → Prop} {b : BoxD f} (p : Int → Prop) (h0 : 0 ≤ k) (h1 : k < (ds.length : Int)) (h : ∀ d ∈ ds, ∃ z, d = .int z ∧ p z) (hk : ∀ z, p z → f (.int z)) : optD (atI ds k) b :=
  pick (fun d => ∃ z, d = .int z ∧ p z) h0 h1 h fun d ⟨z, e, hz⟩ => by
    subst e
    exact hk z hz
theorem all_nil {p : D → Prop} : ∀ d ∈ ([] : List D), p d := fun d h => by cases h
theorem all_cons {p : D → Prop} {x : D} {xs : List D} (h : p x) (hs : ∀ d ∈ xs, p d) : ∀ d ∈ x :: xs, p d := fun d hd => by
  rcases List.mem_cons.mp hd with rfl | hd
  · exact h
  · exact hs d hd
end Dl
/-! Dl: laws of data that more than one def uses. -/
namespace Dl
open PySem L2
/-- a list of small numbers as data -/
def nI (i : Nat) : D := .int (i : Int)
theorem nI_eq (i : Nat) : nI i = .int (i : Int) := rfl
theorem flat_nats (l : List Nat) : (l.map nI).all flatD = true := by
  rw [List.all_map, List.all_eq_true]
  exact fun _ _ => rfl
theorem flat_ints (l : List Int) : (l.map D.int).all flatD = true := by
  rw [List.all_map, List.all_eq_true]
  exact fun _ _ => rfl
theorem inF_nats (i : Nat) (l : List Nat) : inF (.int (i : Int)) (l.map nI) = decide (i ∈ l) := by
  unfold inF
  induction l with
  | nil => simp
  | cons j l ih =>
    rw [List.map_cons, List.any_cons, ih]
    show (((j : Int) == (i : Int)) || decide (i ∈ l)) = _
    by_cases h : i = j
    · subst h
      simp
    · have : ¬((j : Int) = (i : Int)) := by omega
      simp [this, h]
theorem inF_ints (i : Int) (l : List Int) : inF (.int i) (l.map D.int) = decide (i ∈ l) := by
  unfold inF
  induction l with
  | nil => simp
  | cons j l ih =>
    rw [List.map_cons, List.any_cons, ih]
    show ((j == i) || decide (i ∈ l)) = _
    by_cases h : i = j
    · subst h
      simp
    · have : ¬(j = i) := fun e => h e.symm
      simp [this, h]
theorem atI_at {α : Type} {xs : List α} {k : Nat} (h : k < xs.length) : atI xs (k : Int) = some xs[k] := atI_nat (List.getElem?_eq_getElem h)
theorem atI_last {α : Type} {xs : List α} {x : α} : atI (xs ++ [x]) (-1) = some x := by
  unfold atI ixN
  rw [if_neg (by decide), if_pos (by simp only [List.length_append, List.length_singleton]; omega)]
  show (xs ++ [x])[(_ : Int).toNat]? = _
  rw [show (-1 + (((xs ++ [x]).length : Nat) : Int)).toNat = xs.length by simp only [List.length_append, List.length_singleton]; omega, List.getElem?_append_right (Nat.le_refl _), Nat.sub_self]
  rfl
theorem rngD_nats (n : Nat) : rngD 0 (n : Int) = (List.range n).map nI := by
  unfold rngD
  rw [show ((n : Int) - 0).toNat = n by omega]
  refine List.map_congr_left fun k _ => ?_
  show D.int _ = D.int _
  rw [Int.zero_add]
theorem cut_take {α : Type} (xs : List α) (n : Nat) : cutD xs none (some (n : Int)) = xs.take n := by
  unfold cutD
  rw [HT.sIx_none, HT.sIx_nat, List.drop_zero, Nat.sub_zero]
  rcases Nat.le_total n xs.length with h | h
  · rw [Nat.min_eq_left h]
  · rw [Nat.min_eq_right h, List.take_of_length_le (Nat.le_refl _), List.take_of_length_le h]
theorem cut_drop {α : Type} (xs : List α) (n : Nat) : cutD xs (some (n : Int)) none = xs.drop n := by
  unfold cutD
  rw [HT.sIx_none, HT.sIx_nat]
  rcases Nat.le_total n xs.length with h | h
  · rw [Nat.min_eq_left h, List.take_of_length_le (by rw [List.length_drop]; omega)]
  · rw [Nat.min_eq_right h, List.drop_of_length_le h, List.drop_of_length_le (Nat.le_refl _), List.take_nil]
theorem cut_drop1 {α : Type} (x : α) (xs : List α) : cutD (x :: xs) (some 1) none = xs := cut_drop (x :: xs) 1
/-- a loop over range(n), by the number of turns -/
theorem loop_rngB {n : Nat} {g : DG} {body : DSt} {E : DE} {δ : DS} (st : Nat → DS → Prop) (B : DS → Prop) (h0 : st 0 δ)
    (step : ∀ i δ, i < n → st i δ → ∀ K bk : DS → Prop, (∀ δ', st (i + 1) δ' → K δ') → (∀ δ', B δ' → bk δ') → g (.int (i : Int)) δ (body { nx := K, rt := E.rt, bk := bk, ct := K }))
    (fin : ∀ δ, st n δ → E.nx δ) (hB : ∀ δ, B δ → E.nx δ) : loopD (rngD 0 (n : Int)) δ (BoxL.mk : BoxL (rLoop g body E)) := by
  rw [rngD_nats]
  refine loop_byB (fun rest δ => ∃ i, i ≤ n ∧ rest = (List.range n).drop i ∧ st i δ) B ⟨0, Nat.zero_le _, rfl, h0⟩ ?_ ?_ hB
  · rintro x rest δ ⟨i, hi, e, h⟩ K bk hk hb
    have hi : i < n := by
      refine Nat.lt_of_le_of_ne hi fun z => ?_
      rw [z, List.drop_of_length_le (by simp)] at e
      cases e
    rw [List.drop_eq_getElem_cons (by simpa using hi), List.getElem_range] at e
    obtain ⟨rfl, rfl⟩ := List.cons.inj e
    exact step x δ hi h K bk (fun δ' h' => hk δ' ⟨x + 1, hi, rfl, h'⟩) hb
  · rintro δ ⟨i, hi, e, h⟩
    have hi : i = n := by
      refine Nat.le_antisymm hi (Nat.not_lt.mp fun z => ?_)
      rw [List.drop_eq_getElem_cons (by simpa using z)] at e
      cases e
    exact fin δ (hi ▸ h)
theorem loop_rng {n : Nat} {g : DG} {body : DSt} {E : DE} {δ : DS} (st : Nat → DS → Prop) (h0 : st 0 δ)
    (step : ∀ i δ, i < n → st i δ → ∀ K bk : DS → Prop, (∀ δ', st (i + 1) δ' → K δ') → g (.int (i : Int)) δ (body { nx := K, rt := E.rt, bk := bk, ct := K }))
    (fin : ∀ δ, st n δ → E.nx δ) : loopD (rngD 0 (n : Int)) δ (BoxL.mk : BoxL (rLoop g body E)) :=
  loop_rngB st (fun _ => False) h0 (fun i δ hi h K bk hk _ => step i δ hi h K bk hk) fin fun _ h => h.elim
end Dl
/-! Dl: more statements and methods. -/
namespace Dl
open PySem L2 PySem.Spec PyProof.Rows
/-! ### x[k] op= e -/
def kAugPut (i : Nat) (k : Int) (E : DE) (δ : DS) : D → Prop := fun z => selSet (sg δ i) i z k δ (BoxE.mk : BoxE E)
def kAug3 (i : Nat) (R : R2D) (k : Int) (old : D) (E : DE) : Vw → DS → Prop := fun w2 δ2 => elim2 (some old) (vget δ2 w2) (BoxR.mk : BoxR R) (BoxP.mk : BoxP (kAugPut i k E δ2))
def kAug2 (i : Nat) (R : R2D) (re : DV) (k : Int) (E : DE) (δ1 : DS) : D → Prop := fun old => re δ1 (kAug3 i R k old E)
def augGo (s : Sl) (i : Nat) (k : Int) (δ1 : DS) {R : R2D} (_ : BoxR R) {re : DV} (_ : BoxDV re) {E : DE} (_ : BoxE E) : Prop := match s with
  | .own _ (.lst ds) => 0 ≤ k ∧ optD (atI ds k) (BoxD.mk : BoxD (kAug2 i R re k E δ1))
  | _ => False
def kAug1 (i : Nat) (R : R2D) (re : DV) (E : DE) : Vw → DS → Prop := fun w δ1 => match w with
  | .val (.int k) => augGo (sg δ1 i) i k δ1 (BoxR.mk : BoxR R) (BoxDV.mk : BoxDV re) (BoxE.mk : BoxE E)
  | _ => False
def sAugI (i : Nat) (R : R2D) (rk re : DV) : DSt := fun E δ => selSet1 (sg δ i) δ (BoxDV.mk : BoxDV rk) (BoxV.mk : BoxV (kAug1 i R re E))
section
variable {i : Nat} {R : R2D} {rk re : DV} {E : DE} {δ : DS} {k : Int} {d old : D} {ds : List D} {io : Bool} {w : Vw}
theorem ev_augI : sAugI i R rk re E δ = selSet1 (sg δ i) δ (BoxDV.mk : BoxDV rk) (BoxV.mk : BoxV (kAug1 i R re E)) := rfl
theorem ev_kaug1 : kAug1 i R re E (.val (.int k)) δ = augGo (sg δ i) i k δ (BoxR.mk : BoxR R) (BoxDV.mk : BoxDV re) (BoxE.mk : BoxE E) := rfl
theorem ev_augGo {z : BoxR R} {z2 : BoxDV re} {z3 : BoxE E} : augGo (.own io (.lst ds)) i k δ z z2 z3 = (0 ≤ k ∧ optD (atI ds k) (BoxD.mk : BoxD (kAug2 i R re k E δ))) := rfl
theorem ev_kaug2 : kAug2 i R re k E δ old = re δ (kAug3 i R k old E) := rfl
theorem ev_kaug3 : kAug3 i R k old E w δ = elim2 (some old) (vget δ w) (BoxR.mk : BoxR R) (BoxP.mk : BoxP (kAugPut i k E δ)) := rfl
theorem ev_kaugPut : kAugPut i k E δ d = selSet (sg δ i) i d k δ (BoxE.mk : BoxE E) := rfl
end
/-! ### x.pop(k) -/
def kPopD (i : Nat) (io : Bool) (ds : List D) (k : Int) (δ1 : DS) (Q : Vw → DS → Prop) : D → Prop := fun d => Q (.val d) (ss δ1 i (.own io (.lst (ds.eraseIdx k.toNat))))
def popGo (s : Sl) (i : Nat) (k : Int) (δ1 : DS) {Q : Vw → DS → Prop} (_ : BoxV Q) : Prop := match s with
  | .own io (.lst ds) => (0 ≤ k ∧ k < 4611686018427387904) ∧ optD (atI ds k) (BoxD.mk : BoxD (kPopD i io ds k δ1 Q))
  | _ => False
def kPop (i : Nat) (Q : Vw → DS → Prop) : Vw → DS → Prop := fun w δ1 => match w with
  | .val (.int k) => popGo (sg δ1 i) i k δ1 (BoxV.mk : BoxV Q)
  | _ => False
def rPopI (i : Nat) (re : DV) : DV := fun δ Q => selSet1 (sg δ i) δ (BoxDV.mk : BoxDV re) (BoxV.mk : BoxV (kPop i Q))
section
variable {i : Nat} {re : DV} {δ : DS} {k : Int} {d : D} {ds : List D} {io : Bool} {Q : Vw → DS → Prop}
theorem ev_popI : rPopI i re δ Q = selSet1 (sg δ i) δ (BoxDV.mk : BoxDV re) (BoxV.mk : BoxV (kPop i Q)) := rfl
theorem ev_kpop : kPop i Q (.val (.int k)) δ = popGo (sg δ i) i k δ (BoxV.mk : BoxV Q) := rfl
theorem ev_popGo {z : BoxV Q} : popGo (.own io (.lst ds)) i k δ z = ((0 ≤ k ∧ k < 4611686018427387904) ∧ optD (atI ds k) (BoxD.mk : BoxD (kPopD i io ds k δ Q))) := rfl
theorem ev_kpopD : kPopD i io ds k δ Q d = Q (.val d) (ss δ i (.own io (.lst (ds.eraseIdx k.toNat)))) := rfl
end
section
variable {X : Cx} {e : Expr} {re : DV} {pos p apos : Pos}
theorem pop_sound {i : Nat} : ∀ σ H R, liftV X.K (rPopI i re) σ H R → tBM X.K "list" rPopAt (tVar i) (tCons (liftV X.K re) tNil) σ H R := fun σ H R ⟨c, F, δ, P, S, h, L⟩ => by
    unfold rPopI selSet1 at h
    cases q : sg δ i with
    | no => simp only [q] at h
    | sto _ => simp only [q] at h
    | frz _ => simp only [q] at h
    | own io0 x0 =>
      cases x0 with
      | dic _ => simp only [q] at h
      | dicT _ => simp only [q] at h
      | lst ds0 =>
        simp only [q] at h
        obtain ⟨l, ho, k1, k2, k3, k4, us0, rfl, k5⟩ := S.own (sg_at q (by intro z; cases z))
        refine ⟨.ref l, k1, Or.inl ⟨rfl, us0, SqL.of k4⟩, c, F, δ, _, S, h, fun w δ1 g v1 F1 H1 e1 S1 r1 => ?_⟩
        cases w with
        | slot j => exact g.elim
        | obj _ => exact g.elim
        | val d =>
          cases d with
          | int kk =>
            replace g : popGo (sg δ1 i) i kk δ1 (BoxV.mk : BoxV P) := g
            unfold popGo at g
            cases q1 : sg δ1 i with
            | no => simp only [q1] at g
            | sto _ => simp only [q1] at g
            | frz _ => simp only [q1] at g
            | own io1 x1 =>
              cases x1 with
              | dic _ => simp only [q1] at g
              | dicT _ => simp only [q1] at g
              | lst ds =>
                simp only [q1] at g
                obtain ⟨⟨g0, g9⟩, g⟩ := g
                have hq1 := sg_at q1 (by intro z; cases z)
                obtain ⟨l1, ho1, m1, m2, m3, m4, us, rfl, m5⟩ := S1.own hq1
                rw [k1] at m1
                cases m1
                cases e9 : atI ds kk with
                | none => rw [e9] at g; exact g.elim
                | some old =>
                  rw [e9] at g
                  replace g : P (.val old) (ss δ1 i (.own io1 (.lst (ds.eraseIdx kk.toNat)))) := g
                  obtain ⟨j, j1, j2, j3, j4, j5⟩ := atI_get e9
                  have hj : kk.toNat = j := by
                    rw [seqIndex_of g0 j5] at j1
                    exact Option.some.inj j1
                  obtain ⟨vo, o1, o2⟩ := m5.get j2
                  rw [ss_eq, hj] at g
                  exact ⟨l, us, kk, j, vo, rfl, by rw [int_of r1], m4, by omega, by omega, by rw [m5.len]; exact j1, o1, L _ _ g vo F1 _ e1 (S1.put hq1 k1 ⟨_, rfl, m5.erase j⟩) o2⟩
          | _ => exact g.elim
end
/-! ### list(range(n)) -/
def kLstRg (QF : List D → DS → Prop) : Vw → DS → Prop := fun w δ1 => match w with
  | .val (.int n) => (0 ≤ n ∧ n ≤ 16777216) ∧ QF (rngD 0 n) δ1
  | _ => False
def rLstRg (ra : DV) : DF := fun δ QF => ra δ (kLstRg QF)
section
variable {ra : DV} {δ : DS} {QF : List D → DS → Prop}
theorem ev_lstRg : rLstRg ra δ QF = ra δ (kLstRg QF) := rfl
theorem ev_klstRg {n : Int} : kLstRg QF (.val (.int n)) δ = ((0 ≤ n ∧ n ≤ 16777216) ∧ QF (rngD 0 n) δ) := rfl
theorem lstRg_sound {X : Cx} : ∀ σ H Q, liftF X.K (rLstRg ra) σ H Q → tLstRg (tRg1 (liftV X.K ra)) σ H Q := fun σ H Q ⟨c, F, δ, P, S, h, k⟩ => ⟨c, F, δ, _, S, h, fun w δ1 h1 v F1 H1 e1 S1 r1 => by
  cases w with
  | slot j => exact h1.elim
  | obj _ => exact h1.elim
  | val d =>
    cases d with
    | int n =>
      replace h1 : (0 ≤ n ∧ n ≤ 16777216) ∧ P (rngD 0 n) δ1 := h1
      refine ⟨n, int_of r1, RgOk.of_le (Int.le_refl _) h1.1.2 (by decide) h1.1.1, fun p hp => ?_⟩
      obtain ⟨S2, fr⟩ := S1.fresh (o := .lst (rgV 0 n)) hp
      refine k _ _ h1.2 p _ F1 _ e1 S2 fr upd_same ?_
      have z := Reps.of_ints (K := X.K) (F := F1) ((List.range (n - 0).toNat).map fun (k : Nat) => (0 : Int) + (k : Int))
      rw [List.map_map, List.map_map] at z
      exact z
    | _ => exact h1.elim⟩
end
end Dl
/-! Dl: texts. -/
namespace Dl
open PySem L2 PySem.Spec PyProof.Rows
/-- a text again and again -/
def repS (z : Str) (n : Nat) : Str := ⟨(List.replicate n z.cps).foldl (· ++ ·) #[]⟩
def repSR : R2D
  | .str z, .int k, P => ((0 ≤ k ∧ k ≤ 1000) ∧ (1 ≤ z.length ∧ z.length ≤ 1000)) ∧ P (.str (repS z k.toNat))
  | _, _, _ => False
theorem ev_repS {z : Str} {k : Int} {P : D → Prop} : repSR (.str z) (.int k) P = (((0 ≤ k ∧ k ≤ 1000) ∧ (1 ≤ z.length ∧ z.length ≤ 1000)) ∧ P (.str (repS z k.toNat))) := rfl
end Dl
/-! Dl: causes, parties: what several defs speak of. -/
namespace Dl
open PySem L2
/-- the words of a cause -/
def Wd (w : Str) : Prop := w = "and" ∨ w = "or" ∨ w = "unless"
/-- a cause -/
inductive Tr where
  | leaf (x : Str) (b : Bool) (m : Int)
  | node (w : Str) (a b : Tr)
def Tr.d : Tr → D
  | .leaf x b m => .tup [.str "issue", .str x, .bl b, .int m]
  | .node w a b => .tup [.str w, a.d, b.d]
def Tr.h : Tr → Nat
  | .leaf _ _ _ => 0
  | .node _ a b => max a.h b.h + 1
def Tr.ok : Tr → Prop
  | .leaf _ _ _ => True
  | .node w a b => Wd w ∧ a.ok ∧ b.ok
def Tr.n : Tr → Nat
  | .leaf _ _ _ => 1
  | .node _ a b => a.n + b.n
end Dl
/-! Dl: methods of texts and lists with one argument; str(n); is with True, False; min, max of a list. -/
namespace Dl
open PySem L2 PySem.Spec PyProof.Rows
def kM1b (R : R2D) (a : Str) (Q : Vw → DS → Prop) : Vw → DS → Prop := fun w2 δ2 => elim2 (some (.str a)) (vget δ2 w2) (BoxR.mk : BoxR R) (BoxP.mk : BoxP (kD Q δ2))
def kM1 (R : R2D) (rb : DV) (Q : Vw → DS → Prop) : Vw → DS → Prop := fun w1 δ1 => match w1 with
  | .val (.str a) => rb δ1 (kM1b R a Q)
  | _ => False
def rM1 (R : R2D) (ra rb : DV) : DV := fun δ Q => ra δ (kM1 R rb Q)
section
variable {δ : DS} {Q : Vw → DS → Prop} {w : Vw} {a : Str} {ra rb : DV} {R : R2D}
theorem ev_m1 : rM1 R ra rb δ Q = ra δ (kM1 R rb Q) := rfl
theorem ev_km1 : kM1 R rb Q (.val (.str a)) δ = rb δ (kM1b R a Q) := rfl
theorem ev_km1b : kM1b R a Q w δ = elim2 (some (.str a)) (vget δ w) (BoxR.mk : BoxR R) (BoxP.mk : BoxP (kD Q δ)) := rfl
end
/-! join -/
def strsD : List D → Option (List Str)
  | [] => some []
  | .str x :: ds => match strsD ds with
    | some xs => some (x :: xs)
    | none => none
  | _ => none
theorem strsD_map : ∀ ns : List Str, strsD (ns.map D.str) = some ns
  | [] => rfl
  | n :: ns => by
    rw [List.map_cons]
    unfold strsD
    rw [strsD_map ns]
def elimJ (o : Option (List Str)) (a : Str) {P : D → Prop} (_ : BoxP P) : Prop := match o with
  | some ys => (ys.map (·.length)).sum + ys.length * a.length ≤ 16777216 ∧ P (.str (Txt.join a ys))
  | none => False
def joinR : R2D
  | .str a, .lst ds, P => elimJ (strsD ds) a (BoxP.mk : BoxP P)
  | .str a, .tup ds, P => elimJ (strsD ds) a (BoxP.mk : BoxP P)
  | _, _, _ => False
section
variable {K : PySem.W.Frag} {P : D → Prop} {a b : Str} {ds : List D} {ys : List Str}
theorem ev_join : joinR (.str a) (.lst ds) P = elimJ (strsD ds) a (BoxP.mk : BoxP P) := rfl
theorem ev_joinT : joinR (.str a) (.tup ds) P = elimJ (strsD ds) a (BoxP.mk : BoxP P) := rfl
theorem ev_elimJ {z : BoxP P} : elimJ (some ys) a z = ((ys.map (·.length)).sum + ys.length * a.length ≤ 16777216 ∧ P (.str (Txt.join a ys))) := rfl
/-! count, index -/
def countR : R2D
  | .str a, .str b, P => P (.int (Txt.count a b))
  | _, _, _ => False
theorem ev_count : countR (.str a) (.str b) P = P (.int (Txt.count a b)) := rfl
def elimX (o : List Nat) {P : D → Prop} (_ : BoxP P) : Prop := match o with
  | i :: _ => P (.int (i : Nat))
  | [] => False
def sindexR : R2D
  | .str a, .str b, P => elimX (Builtin.Str.occurrences a b 0 a.length 1) (BoxP.mk : BoxP P)
  | _, _, _ => False
theorem ev_sindex : sindexR (.str a) (.str b) P = elimX (Builtin.Str.occurrences a b 0 a.length 1) (BoxP.mk : BoxP P) := rfl
theorem ev_elimX {i : Nat} {r : List Nat} {z : BoxP P} : elimX (i :: r) z = P (.int (i : Nat)) := rfl
end
/-! methods of a list or a tuple with one argument -/
def kB1b (R : R2D) (w1 : Vw) (Q : Vw → DS → Prop) : Vw → DS → Prop := fun w2 δ2 => elim2 (vget δ2 w1) (vget δ2 w2) (BoxR.mk : BoxR R) (BoxP.mk : BoxP (kD Q δ2))
def selB1 (o : Option D) (T : String) (δ : DS) {rb : DV} (_ : BoxDV rb) {Q : Vw → DS → Prop} (_ : BoxV Q) : Prop := match o with
  | some d => tyD d = T ∧ rb δ Q
  | none => False
def kB1 (T : String) (R : R2D) (rb : DV) (Q : Vw → DS → Prop) : Vw → DS → Prop := fun w1 δ1 => selB1 (vget δ1 w1) T δ1 (BoxDV.mk : BoxDV rb) (BoxV.mk : BoxV (kB1b R w1 Q))
def rB1 (T : String) (R : R2D) (ra rb : DV) : DV := fun δ Q => ra δ (kB1 T R rb Q)
section
variable {δ : DS} {Q : Vw → DS → Prop} {w w1 : Vw} {d : D} {ra rb : DV} {R : R2D} {T : String}
theorem ev_b1 : rB1 T R ra rb δ Q = ra δ (kB1 T R rb Q) := rfl
theorem ev_kb1 : kB1 T R rb Q w δ = selB1 (vget δ w) T δ (BoxDV.mk : BoxDV rb) (BoxV.mk : BoxV (kB1b R w Q)) := rfl
theorem ev_selB1 {z : BoxDV rb} {z2 : BoxV Q} : selB1 (some d) T δ z z2 = (tyD d = T ∧ rb δ Q) := rfl
theorem ev_kb1b : kB1b R w1 Q w δ = elim2 (vget δ w1) (vget δ w) (BoxR.mk : BoxR R) (BoxP.mk : BoxP (kD Q δ)) := rfl
end
def MB (K : PySem.W.Frag) (r : V → List V → Hp → VK → Prop) (R : R2D) : Prop := ∀ (F H : Hp) (a b : D) (x y : V) (P : D → Prop) (Q : VK), Same F H → RepV K F H a x → RepV K F H b y → R a b P → (∀ d v F' H', P d → Grow F H F' H' → Rep K F' d v → Q v H') → r x [y] H Q
/-- how often a number stands in a list -/
def elimCnt (o : Option (List Int)) (k : Int) {P : D → Prop} (_ : BoxP P) : Prop := match o with
  | some ns => P (.int (ns.count k : Nat))
  | none => False
def lcountR : R2D
  | .lst ds, .int k, P => elimCnt (intsD ds) k (BoxP.mk : BoxP P)
  | _, _, _ => False
/-- the first place of flat data in a list -/
def elimIx (o : Option Nat) {P : D → Prop} (_ : BoxP P) : Prop := match o with
  | some j => P (.int (j : Nat))
  | none => False
def placeD (x : D) (ds : List D) : Option Nat := ds.findIdx? fun y => eqF y x
def lindexR : R2D
  | .lst ds, x, P => (flatD x = true ∧ ds.all flatD = true) ∧ elimIx (placeD x ds) (BoxP.mk : BoxP P)
  | _, _, _ => False
section
variable {K : PySem.W.Frag} {P : D → Prop} {ds : List D} {k : Int} {x : D}
theorem ev_lcount : lcountR (.lst ds) (.int k) P = elimCnt (intsD ds) k (BoxP.mk : BoxP P) := rfl
theorem ev_elimCnt {ns : List Int} {z : BoxP P} : elimCnt (some ns) k z = P (.int (ns.count k : Nat)) := rfl
theorem ev_lindex : lindexR (.lst ds) x P = ((flatD x = true ∧ ds.all flatD = true) ∧ elimIx (placeD x ds) (BoxP.mk : BoxP P)) := rfl
theorem ev_elimIx {j : Nat} {z : BoxP P} : elimIx (some j) z = P (.int (j : Nat)) := rfl
end
/-! str(n) -/
def strI : RND
  | [.int i], P => i.natAbs < 1000000 ∧ P (.str (Str.ofString (toString i)))
  | _, _ => False
theorem ev_strI {i : Int} {P : D → Prop} : strI [.int i] P = (i.natAbs < 1000000 ∧ P (.str (Str.ofString (toString i)))) := rfl
/-! is with True, False -/
def isBR : R2D
  | .bl a, .bl b, P => P (.bl (decide (a = b)))
  | .non, .bl _, P => P (.bl false)
  | _, _, _ => False
theorem ev_isB {a b : Bool} {P : D → Prop} : isBR (.bl a) (.bl b) P = P (.bl (decide (a = b))) := rfl
theorem ev_isBN {b : Bool} {P : D → Prop} : isBR .non (.bl b) P = P (.bl false) := rfl
/-! min, max of a list of numbers -/
def elimMn (o : Option (List Int)) {P : D → Prop} (_ : BoxP P) : Prop := match o with
  | some ns => 0 < ns.length ∧ ∀ m, m ∈ ns → (∀ y ∈ ns, m ≤ y) → P (.int m)
  | none => False
def elimMx (o : Option (List Int)) {P : D → Prop} (_ : BoxP P) : Prop := match o with
  | some ns => 0 < ns.length ∧ ∀ m, m ∈ ns → (∀ y ∈ ns, y ≤ m) → P (.int m)
  | none => False
def minLR : RND
  | [.lst ds], P => elimMn (intsD ds) (BoxP.mk : BoxP P)
  | _, _ => False
def maxLR : RND
  | [.lst ds], P => elimMx (intsD ds) (BoxP.mk : BoxP P)
  | _, _ => False
section
variable {K : PySem.W.Frag} {P : D → Prop} {ds : List D} {ns : List Int}
theorem ev_minL : minLR [.lst ds] P = elimMn (intsD ds) (BoxP.mk : BoxP P) := rfl
theorem ev_maxL : maxLR [.lst ds] P = elimMx (intsD ds) (BoxP.mk : BoxP P) := rfl
theorem ev_elimMn {z : BoxP P} : elimMn (some ns) z = (0 < ns.length ∧ ∀ m, m ∈ ns → (∀ y ∈ ns, m ≤ y) → P (.int m)) := rfl
theorem ev_elimMx {z : BoxP P} : elimMx (some ns) z = (0 < ns.length ∧ ∀ m, m ∈ ns → (∀ y ∈ ns, y ≤ m) → P (.int m)) := rfl
end
/-! a loop over a written list, turn by turn -/
def DE.loop (g : DG) (body : DSt) (E : DE) (ds : List D) : DE := { nx := rLoop g body E ds, rt := E.rt, bk := E.nx, ct := rLoop g body E ds }
def kBody (body : DSt) (E : DE) : DS → Prop := fun δ => body E δ
section
variable {g : DG} {body : DSt} {E : DE} {d : D} {ds : List D} {δ : DS} {z : Ret}
theorem loop_c : loopD (d :: ds) δ (BoxL.mk : BoxL (rLoop g body E)) = g d δ (kBody body (DE.loop g body E ds)) := rfl
theorem loop_n : loopD [] δ (BoxL.mk : BoxL (rLoop g body E)) = E.nx δ := rfl
theorem ev_kbody : kBody body E δ = body E δ := rfl
theorem ev_lnx : (DE.loop g body E ds).nx δ = loopD ds δ (BoxL.mk : BoxL (rLoop g body E)) := rfl
theorem ev_lct : (DE.loop g body E ds).ct δ = loopD ds δ (BoxL.mk : BoxL (rLoop g body E)) := rfl
theorem ev_lbk : (DE.loop g body E ds).bk δ = E.nx δ := rfl
theorem ev_lrt : (DE.loop g body E ds).rt z δ = E.rt z δ := rfl
end
theorem emp_last {α : Type} {xs : List α} {x : α} : (xs ++ [x]).isEmpty = false := by cases xs <;> rfl
/-! what texts are -/
def sgS (c : Nat) : Str := ⟨#[c]⟩
theorem ofStr_eq {a b : String} : (Str.ofString a = Str.ofString b) = (a = b) := propext ⟨fun h => by
  have h1 := congrArg TL.tl h
  rw [TL.tl_ofString, TL.tl_ofString] at h1
  have inj : ∀ l m : List Char, l.map Char.toNat = m.map Char.toNat → l = m := by
    intro l
    induction l with
    | nil => intro m h; cases m with
      | nil => rfl
      | cons _ _ => cases h
    | cons c l ih =>
      intro m h
      cases m with
      | nil => cases h
      | cons d m =>
        simp only [List.map_cons, List.cons.injEq] at h
        rw [ih m h.2, Char.toNat_inj.mp h.1]
  exact String.toList_inj.mp (inj _ _ h1), fun h => by rw [h]⟩
def ofL (l : List Nat) : Str := ⟨l.toArray⟩
section
variable {α : Type} {a b c d e f g h : α} {r : List α}
theorem cut_t1 : cutD (a :: r) none (some 1) = [a] := cut_take _ 1
theorem cut_t2 : cutD (a :: b :: r) none (some 2) = [a, b] := cut_take _ 2
theorem cut_t3 : cutD (a :: b :: c :: r) none (some 3) = [a, b, c] := cut_take _ 3
theorem cut_t4 : cutD (a :: b :: c :: d :: r) none (some 4) = [a, b, c, d] := cut_take _ 4
theorem cut_t5 : cutD (a :: b :: c :: d :: e :: r) none (some 5) = [a, b, c, d, e] := cut_take _ 5
theorem cut_t6 : cutD (a :: b :: c :: d :: e :: f :: r) none (some 6) = [a, b, c, d, e, f] := cut_take _ 6
theorem cut_t7 : cutD (a :: b :: c :: d :: e :: f :: g :: r) none (some 7) = [a, b, c, d, e, f, g] := cut_take _ 7
theorem cut_t8 : cutD (a :: b :: c :: d :: e :: f :: g :: h :: r) none (some 8) = [a, b, c, d, e, f, g, h] := cut_take _ 8
theorem cut_d2 : cutD (a :: b :: r) (some 2) none = r := cut_drop _ 2
theorem cut_d3 : cutD (a :: b :: c :: r) (some 3) none = r := cut_drop _ 3
theorem cut_d4 : cutD (a :: b :: c :: d :: r) (some 4) none = r := cut_drop _ 4
end
end Dl
/-! Dl: sorted of a tuple of pairs; a star in a tuple. -/
namespace Dl
open PySem L2 PySem.Spec PyProof.Rows SrtO
def pairD (p : Int × Int) : D := .tup [.int p.1, .int p.2]
def sortPR : List D → (List D → Prop) → Prop
  | [.tup ds], P => ∃ ps : List (Int × Int), ds = ps.map pairD ∧ ∀ qs : List (Int × Int), qs.Perm ps → qs.Pairwise (fun x y => lexB y x = false) → P (qs.map pairD)
  | _, _ => False
theorem ev_sortP {ds : List D} {P : List D → Prop} : sortPR [.tup ds] P = ∃ ps : List (Int × Int), ds = ps.map pairD ∧ ∀ qs : List (Int × Int), qs.Perm ps → qs.Pairwise (fun x y => lexB y x = false) → P (qs.map pairD) := rfl
/-! a star among the arguments -/
inductive BoxDA (rs : DA) : Type where
  | mk
inductive BoxQA (Q : List Vw → DS → Prop) : Type where
  | mk
def kStar (ds : List D) (Q : List Vw → DS → Prop) : List Vw → DS → Prop := fun ws δ2 => Q (ds.map Vw.val ++ ws) δ2
def selStar (o : Option D) (δ : DS) {rs : DA} (_ : BoxDA rs) {Q : List Vw → DS → Prop} (_ : BoxQA Q) : Prop := match o with
  | some (.tup ds) => rs δ (kStar ds Q)
  | some (.lst ds) => rs δ (kStar ds Q)
  | _ => False
def kStA (rs : DA) (Q : List Vw → DS → Prop) : Vw → DS → Prop := fun w δ1 => selStar (vget δ1 w) δ1 (BoxDA.mk : BoxDA rs) (BoxQA.mk : BoxQA Q)
def rStarA (ra : DV) (rs : DA) : DA := fun δ Q => ra δ (kStA rs Q)
section
variable {δ : DS} {Q : List Vw → DS → Prop} {w : Vw} {ws : List Vw} {ds es : List D} {ra : DV} {rs : DA}
theorem ev_starA : rStarA ra rs δ Q = ra δ (kStA rs Q) := rfl
theorem ev_kstA : kStA rs Q w δ = selStar (vget δ w) δ (BoxDA.mk : BoxDA rs) (BoxQA.mk : BoxQA Q) := rfl
theorem ev_selStarT {z : BoxDA rs} {z2 : BoxQA Q} : selStar (some (.tup ds)) δ z z2 = rs δ (kStar ds Q) := rfl
theorem ev_selStarL {z : BoxDA rs} {z2 : BoxQA Q} : selStar (some (.lst ds)) δ z z2 = rs δ (kStar ds Q) := rfl
theorem ev_kstar : kStar ds Q ws δ = Q (ds.map Vw.val ++ ws) δ := rfl
theorem valsOf_star : valsOf (ds.map Vw.val ++ ws) = (valsOf ws).map (ds ++ ·) := by
  induction ds with
  | nil =>
    cases q : valsOf ws <;> simp [q]
  | cons d ds ih =>
    rw [List.map_cons, List.cons_append]
    show (match valsOf (List.map Vw.val ds ++ ws) with
      | some es => some (d :: es)
      | none => none) = _
    rw [ih]
    cases valsOf ws <;> rfl
theorem valsOf_star1 : valsOf (ds.map Vw.val) = some ds := by
  have := valsOf_star (ds := ds) (ws := [])
  rw [List.append_nil] at this
  rw [this]
  show some (ds ++ []) = _
  rw [List.append_nil]
end
theorem vws_app {K : PySem.W.Frag} {F : Hp} {σ : L2.St} {ds : List D} {vs us : List V} {ws : List Vw} (h1 : Reps K F ds vs) (h2 : VwsRel K F σ ws us) : VwsRel K F σ (ds.map Vw.val ++ ws) (vs ++ us) := by
  induction ds generalizing vs with
  | nil =>
    rw [h1.unnil]
    exact h2
  | cons d ds ih =>
    obtain ⟨v, xs, rfl, g1, g2⟩ := h1.uncons
    exact ⟨v, xs ++ us, rfl, g1, ih g2⟩
theorem a_star {X : Cx} {e : Expr} {es : List Expr} {p : Pos} {ra : DV} {rs : DA} (he : PE X e (liftV X.K ra)) (hr : PA X es (liftA X.K rs)) (hs : starEach (.Starred e p :: es) X.env = (true, eval e X.env) :: starEach es X.env := by rfl) : PA X (.Starred e p :: es) (liftA X.K (rStarA ra rs)) :=
  pa_wk (StX.pa_star he hr hs) fun σ H Q ⟨c, F, δ, P, S, h, k⟩ => ⟨c, F, δ, _, S, h, fun w δ1 h1 v F1 H1 e1 S1 r1 => by
    unfold kStA selStar at h1
    cases q1 : vget δ1 w with
    | none => simp only [q1] at h1
    | some d =>
      simp only [q1] at h1
      have rv := S1.view r1 q1
      cases d with
      | tup ds =>
        obtain ⟨a, vs, rfl, g1, g2⟩ := tup_v rv
        exact ⟨a, vs, rfl, .inl (same_t S1.sub g1), c, F1, δ1, _, S1, h1, fun ws δ2 h2 us F2 H2 e2 S2 r2 => k _ _ h2 _ F2 H2 (e1.trans e2) S2 (vws_app (Reps.mono e2 _ _ g2) r2)⟩
      | lst ds =>
        obtain ⟨a, vs, rfl, g1, g2⟩ := lst_v rv
        exact ⟨a, vs, rfl, .inr (SqL.of g1), c, F1, δ1, _, S1, h1, fun ws δ2 h2 us F2 H2 e2 S2 r2 => k _ _ h2 _ F2 H2 (e1.trans e2) S2 (vws_app (Reps.mono e2 _ _ g2) r2)⟩
      | _ => exact h1.elim⟩
end Dl
/-! Dl: more forms: list of a text. -/
namespace Dl
open PySem L2 PySem.Spec PyProof.Rows
section
variable {X : Cx}
def rListStr : List V → Hp → VK → Prop := fun xs H Q => ∃ a : Str, xs = [.str a] ∧ a.length ≤ sizeLine ∧ ∀ l, H l = none → Q (.ref l) (upd H l (.lst (a.cps.toList.map fun c => V.str (sgS c))))
theorem vals_signs : ∀ (cs : List Nat) (us : List Value), us.length = cs.length → (∀ (j : Nat) (v : Value), us[j]? = some v → ∃ c t, cs[j]? = some c ∧ v = Value.str (sgS c) t) → Vals (cs.map fun c => V.str (sgS c)) us
  | [], [], _, _ => .nil
  | [], u :: us, h, _ => by cases h
  | c :: cs, [], h, _ => by cases h
  | c :: cs, u :: us, h, f => by
    refine .cons ?_ (vals_signs cs us (Nat.succ.inj h) fun j v hv => f (j + 1) v (by simpa using hv))
    obtain ⟨c', t, h1, h2⟩ := f 0 u rfl
    simp at h1
    subst h1
    exact ⟨t, h2⟩
theorem cr_listStr (calm : X.calm = true) : CallR X (.type "list") rListStr := by
  intro pins st σ H xs us Q I r hh
  obtain ⟨a, rfl, hz, fin⟩ := hh
  obtain ⟨u, rfl, t, rfl⟩ := vals1 r
  refine call_list_str (I.ok.hd calm) a t (fun h1 tk acc c1 k1 e1 hacc => ?_) hz
  have hv : Vals (a.cps.toList.map fun c => V.str (sgS c)) acc.toList := vals_signs _ _ (by have := hacc.1; simpa using this) fun j v hv => by
    obtain ⟨c, u, hc, hv⟩ := hacc.2 j v (by simpa using hv)
    exact ⟨c, u, by simpa using hc, hv⟩
  have hlen : (a.cps.toList.map fun c => V.str (sgS c)).length ≤ sizeLine := by
    rw [List.length_map, Array.length_toList]
    exact hz
  exact ⟨.ref st.heap.objs.size, _, I.laid (t' := tk) k1 (Nat.le_refl _) (show ObjOk X.prog X.w _ h1 _ (.lst (a.cps.toList.map fun c => V.str (sgS c))) from ⟨hlen, acc.toList, c1, hv, by simpa using e1⟩), rfl, fin _ (I.hok.fresh (Nat.le_refl _))⟩
end
def listR2 : List D → (List D → Prop) → Prop
  | [.str a], P => a.length ≤ 16777216 ∧ P (a.cps.toList.map sgn1)
  | ds, P => listR ds P
section
variable {K : PySem.W.Frag} {PL : List D → Prop} {ds : List D} {a : Str}
theorem ev_list2S : listR2 [.str a] PL = (a.length ≤ 16777216 ∧ PL (a.cps.toList.map sgn1)) := rfl
theorem ev_list2L : listR2 [.lst ds] PL = PL ds := rfl
theorem ev_list2R : listR2 [.rol ds] PL = PL ds := rfl
theorem ev_list2T : listR2 [.tup ds] PL = PL ds := rfl
theorem cf_list2 : CallF K (fun xs H Q => (∃ p ys, xs = [.ref p] ∧ (SqL K H p ys ∨ SqT K H p ys) ∧ ∀ l, H l = none → Q (.ref l) (upd H l (.lst ys))) ∨ rListStr xs H Q) listR2 := fun F H ds xs P Q e hr h k => by
  unfold listR2 at h
  split at h
  · next a =>
    obtain ⟨v, rfl, rv⟩ := one_v hr
    rw [str_v rv]
    refine Or.inr ⟨a, rfl, line_le h.1, fun l hl => k _ l _ h.2 hl ?_⟩
    have : ∀ cs : List Nat, Reps K F (cs.map sgn1) (cs.map fun c => V.str (sgS c)) := fun cs => by
      induction cs with
      | nil => exact Reps.nil
      | cons c cs ih => exact Reps.cons rS_ ih
    exact this _
  · exact Or.inl (cf_list F H ds xs P Q e hr h k)
end
theorem strsD_sgn : ∀ l : List Nat, strsD (l.map sgn1) = some (l.map sgS)
  | [] => rfl
  | c :: l => by
    rw [List.map_cons, List.map_cons]
    show (match strsD (l.map sgn1) with
      | some xs => some (sgS c :: xs)
      | none => none) = _
    rw [strsD_sgn l]
end Dl
/-! Dl: calendars, at the level of data: the law's own words about business days. -/
namespace Dl
open PySem L2
/-- a calendar: the seven signs of the week, the closed days -/
structure Kal where
  w : List Nat
  cl : List Int
def Kal.d (k : Kal) : D := .tup [.str (ofL k.w), .tup (k.cl.map D.int)]
def Kal.works (k : Kal) (day : Int) : Bool := decide (k.w.getD (day % 7).toNat 0 = 49) && !decide (day ∈ k.cl)
structure Kal.ok (k : Kal) : Prop where
  len : k.w.length = 7
  one : 49 ∈ k.w
  few : k.cl.length ≤ 10
/-- a search upwards -/
def upB (p : Int → Bool) : Nat → Int → Int
  | 0, d => d
  | n + 1, d => if p d then d else upB p n (d + 1)
def Kal.next (k : Kal) (d : Int) : Int := upB k.works 77 d
/-- the days from one on -/
def ups (lo : Int) (n : Nat) : List Int := (List.range n).map fun (i : Nat) => lo + (i : Int)
def oD : Option Int → D
  | none => .non
  | some i => .int i
/-! business days counted -/
end Dl
/-! Dl: stays, terms, at the level of data. -/
namespace Dl
open PySem L2
abbrev Sy := Int × Int
def stD (s : Sy) : D := .tup [.int s.1, .int s.2]
def styd (ss : List Sy) (d : Int) : Bool := ss.any fun s => decide (s.1 ≤ d) && decide (d ≤ s.2)
def okSy (s : Sy) : Prop := 0 ≤ s.1 ∧ s.1 ≤ 400 ∧ 0 ≤ s.2 ∧ s.2 ≤ 400
/-! counting by a test -/
def cntP (p : Int → Bool) (f l : Int) : Nat := ((ups (f + 1) (l - f).toNat).filter p).length
/-! terms -/
def Kal.counts (k : Kal) (ss : List Sy) (b : Bool) (d : Int) : Bool := !styd ss d && (b || k.works d)
def Kal.mayEnd (k : Kal) (ss : List Sy) (d : Int) : Bool := k.works d && !styd ss d
def Kal.term (k : Kal) (ss : List Sy) (b : Bool) (d : Int) (n : Nat) : Int := upB (fun e => decide (n ≤ cntP (k.counts ss b) d e) && k.mayEnd ss e) 900 d
/-! terms one behind another, and with one more stay -/
end Dl
/-! Dl: the normal form of stays. -/
namespace Dl
open PySem L2
/-- ascending, none empty, each at least two days behind the one before -/
def Nf : List Sy → Prop
  | [] => True
  | [s] => s.1 ≤ s.2
  | s :: t :: r => s.1 ≤ s.2 ∧ s.2 + 2 ≤ t.1 ∧ Nf (t :: r)
theorem Nf.tail {s : Sy} {r : List Sy} (h : Nf (s :: r)) : Nf r := by
  cases r with
  | nil => trivial
  | cons t r => exact h.2.2
theorem styd_iff {ss : List Sy} {d : Int} : styd ss d = true ↔ ∃ s ∈ ss, s.1 ≤ d ∧ d ≤ s.2 := by
  unfold styd
  rw [List.any_eq_true]
  simp
/-- the last one is made longer -/
theorem Nf.grow : ∀ {l : List Sy} {x : Sy} {z : Int}, Nf (l ++ [x]) → x.2 ≤ z → Nf (l ++ [(x.1, z)])
  | [], x, z, h, hz => by
    have h' : x.1 ≤ x.2 := h
    show x.1 ≤ z
    omega
  | [s], x, z, h, hz => ⟨h.1, h.2.1, by
    have h' : x.1 ≤ x.2 := h.2.2
    show x.1 ≤ z
    omega⟩
  | s :: t :: l, x, z, h, hz => ⟨h.1, h.2.1, Nf.grow (l := t :: l) h.2.2 hz⟩
theorem alike_of {a b : List Sy} (h : ∀ s ∈ a ++ b, styd a s.1 = styd b s.1 ∧ styd a (s.2 + 1) = styd b (s.2 + 1)) {d : Int} (hd : styd a d = true) : styd b d = true := by
  obtain ⟨s, hs, h1, h2⟩ := styd_iff.mp hd
  obtain ⟨n, hn⟩ := Int.eq_ofNat_of_zero_le (show 0 ≤ d - s.1 by omega)
  have go : ∀ n : Nat, s.1 + n ≤ d → styd b (s.1 + n) = true := by
    intro n
    induction n with
    | zero =>
      intro _
      have := (h s (List.mem_append_left _ hs)).1
      rw [show s.1 + ((0 : Nat) : Int) = s.1 by omega, ← this]
      exact styd_iff.mpr ⟨s, hs, Int.le_refl _, by omega⟩
    | succ n ih =>
      intro hle
      obtain ⟨t, ht, t1, t2⟩ := styd_iff.mp (ih (by omega))
      rcases Int.lt_or_le t.2 (s.1 + ((n + 1 : Nat) : Int)) with q | q
      · have := (h t (List.mem_append_right _ ht)).2
        rw [show t.2 + 1 = s.1 + ((n + 1 : Nat) : Int) by omega] at this
        rw [← this]
        exact styd_iff.mpr ⟨s, hs, by omega, by omega⟩
      · exact styd_iff.mpr ⟨t, ht, by omega, q⟩
  have := go n (by omega)
  rw [show s.1 + (n : Int) = d by omega] at this
  exact this
theorem alike {a b : List Sy} (h : ∀ s ∈ a ++ b, styd a s.1 = styd b s.1 ∧ styd a (s.2 + 1) = styd b (s.2 + 1)) (d : Int) : styd a d = styd b d := by
  rw [Bool.eq_iff_iff]
  exact ⟨alike_of h, alike_of fun s hs => by
    obtain ⟨h1, h2⟩ := h s (by
      rcases List.mem_append.mp hs with hs | hs
      · exact List.mem_append_right _ hs
      · exact List.mem_append_left _ hs)
    exact ⟨h1.symm, h2.symm⟩⟩
end Dl
/-! Dl: service by attempts. -/
namespace Dl
open PySem L2
inductive Mt where
  | hand | post | notice
deriving DecidableEq
def Mt.s : Mt → Str
  | .hand => Str.ofString "hand"
  | .post => Str.ofString "post"
  | .notice => Str.ofString "notice"
structure At where
  d : Int
  m : Mt
  u : Bool
def atD (a : At) : D := .tup [.int a.d, .str a.m.s, .bl a.u]
def okAt (a : At) : Prop := 0 ≤ a.d ∧ a.d ≤ 400
structure Ru where
  k : Kal
  cross : Nat
  stop : Int
  post : Int
  notice : Int
  last : Nat
def Ru.row (r : Ru) (t : List D) : List D := .str (ofL r.k.w) :: .tup (r.k.cl.map D.int) :: .int (r.cross : Int) :: .int r.stop :: .int r.post :: .int r.notice :: .int (r.last : Int) :: t
def Ru.d (r : Ru) : D := .tup (r.row [])
structure Ru.ok (r : Ru) : Prop where
  kal : r.k.ok
  c1 : 1 ≤ r.cross
  c2 : r.cross ≤ 30
  s1 : 1 ≤ r.stop
  s2 : r.stop ≤ 100
  p1 : 0 ≤ r.post
  p2 : r.post ≤ 10
  n1 : 0 ≤ r.notice
  n2 : r.notice ≤ 20
  l1 : 1 ≤ r.last
  l2 : r.last ≤ 30
def Ru.add (r : Ru) : Mt → Int
  | .hand => 0
  | .post => r.post
  | .notice => r.notice
def Ru.eff (r : Ru) (a : At) : Int := r.k.next (a.d + r.add a.m)
def Ru.opt (r : Ru) (a : At) : Option Int := if a.u then none else some (r.eff a)
/-- the least of a list, if any -/
def minO : List Int → Option Int
  | [] => none
  | x :: xs => some (match minO xs with | none => x | some y => if x ≤ y then x else y)
/-- the day of service -/
def minV (v : List (Option Int)) : Option Int := minO (v.filterMap id)
def Ru.days (r : Ru) (as : List At) : List (Option Int) := as.map r.opt
def Ru.served (r : Ru) (as : List At) : Option Int := minV (r.days as)
end Dl
/-! Dl: service, the attempts turned, marked and cut. -/
namespace Dl
open PySem L2
def at0 : At := ⟨0, .hand, false⟩
end Dl
/-! Dl: the periods of an appeal. -/
namespace Dl
open PySem L2
structure Ck where
  j : Int
  ats : List At
  ss : List Sy
  f : Option Int
def Ck.row (c : Ck) (t : List D) : List D := .int c.j :: .tup (c.ats.map atD) :: .tup (c.ss.map stD) :: oD c.f :: t
def Ck.d (c : Ck) : D := .tup (c.row [])
structure Ck.ok (c : Ck) : Prop where
  j0 : 0 ≤ c.j
  al : c.ats.length ≤ 500
  ao : ∀ a ∈ c.ats, okAt a
  sl : c.ss.length ≤ 500
  so : ∀ s ∈ c.ss, okSy s
  fo : ∀ x, c.f = some x → 0 ≤ x ∧ x ≤ 400
def Ru.own (r : Ru) (b : Bool) (n : Nat) (c : Ck) : Int := match r.served c.ats with
  | none => c.j + r.stop
  | some s => r.k.term c.ss b s n
end Dl
/-! Dl: votes. -/
namespace Dl
open PySem L2
end Dl
/-! Dl: agreeing votes. -/
namespace Dl
open PySem L2
def dis (n g j : Nat) : List Nat := (List.range g).map fun p => (j * g + p) % n
end Dl
/-! Dl: courts, chains of courts, review. -/
namespace Dl
open PySem L2
def cD : Option Int → D
  | none => .non
  | some i => .int i
/-- a court, as data: its superior, the rest -/
def supD : Option Nat → D
  | none => .non
  | some j => .int (j : Int)
abbrev Cts := List (Option Nat × List D)
def supOf (cs : Cts) (k : Nat) : Option Nat := (cs[k]?).bind (·.1)
/-- superiors have smaller numbers -/
def Hier (cs : Cts) : Prop := ∀ k j, supOf cs k = some j → j < k
structure Co where
  b : Nat
  f : Nat
  l : Bool
  a : Int
  d : Int
  x : Bool
  y : Int
def Co.rest (q : Co) : List D := [.int (q.b : Int), .int (q.f : Int), .bl q.l, .int q.a, .int q.d, .bl q.x, .int q.y]
structure Co.ok (q : Co) : Prop where
  b1 : 1 ≤ q.b
  b2 : q.b ≤ 9
  f1 : 1 ≤ q.f
  f2 : q.f ≤ 9
  a0 : 0 ≤ q.a
abbrev C2 := Option Nat × Co
def c2D (c : C2) : D := .tup (supD c.1 :: c.2.rest)
def pD : Option (Int × Bool) → D
  | none => .non
  | some (k, b) => .tup [.int k, .bl b]
structure Ma where
  l : Bool
  m : Int
  a : Int
  p : Option (Int × Bool)
def Ma.row (q : Ma) (t : List D) : List D := .bl q.l :: .int q.m :: .int q.a :: pD q.p :: t
def Ma.d (q : Ma) : D := .tup (q.row [])
def Ma.ok (q : Ma) : Prop := 0 ≤ q.m ∧ q.m < 3
end Dl
/-! Dl: events on a clock. -/
namespace Dl
open PySem L2
inductive Ev where
  | att (m : Mt)
  | ret (n : Nat)
  | stay (s : Sy)
def Ck.move (c : Ck) (day : Int) : Ev → Ck
  | .att m => ⟨c.j, c.ats ++ [⟨day, m, false⟩], c.ss, c.f⟩
  | .stay s => ⟨c.j, c.ats, c.ss ++ [s], c.f⟩
  | .ret k => ⟨c.j, c.ats.set k ⟨(c.ats.getD k at0).d, (c.ats.getD k at0).m, true⟩, c.ss, c.f⟩
end Dl
/-! Dl: terms over stays of which one single day may lie late. -/
namespace Dl
open PySem L2
end Dl
/-! Dl: events that change the end of a period. -/
namespace Dl
open PySem L2
end Dl
/-! Dl: values of causes by findings. -/
namespace Dl
open PySem L2
theorem ev_kseqS {QF : List D → DS → Prop} {l : List Nat} {δ : DS} : kSeqI QF (.val (.str (ofL l))) δ = QF (l.map fun c => D.str (sgS c)) δ := rfl
/-- findings: signs 1, 0, ? -/
def Fs (fs : List Nat) : Prop := ∀ c ∈ fs, c = 48 ∨ c = 49 ∨ c = 63
theorem Fs.take {fs : List Nat} (h : Fs fs) (n : Nat) : Fs (fs.take n) := fun c hc => h c (List.mem_of_mem_take hc)
theorem Fs.drop {fs : List Nat} (h : Fs fs) (n : Nat) : Fs (fs.drop n) := fun c hc => h c (List.mem_of_mem_drop hc)
def neg3 (x : Option Bool) : Option Bool := x.map not
def both3 (x y : Option Bool) : Option Bool := if x = some false ∨ y = some false then some false else if x = none ∨ y = none then none else some true
def sgn3 (c : Nat) : Option Bool := if c = 49 then some true else if c = 48 then some false else none
def val3 : Tr → List Nat → Option Bool
  | .leaf _ _ _, fs => sgn3 (fs.headD 63)
  | .node w a b, fs =>
    if w = "and" then both3 (val3 a (fs.take a.n)) (val3 b (fs.drop a.n))
    else if w = "or" then neg3 (both3 (neg3 (val3 a (fs.take a.n))) (neg3 (val3 b (fs.drop a.n))))
    else both3 (val3 a (fs.take a.n)) (neg3 (val3 b (fs.drop a.n)))
/-- the truth of a cause whose issues are all found -/
def tru : Tr → List Nat → Bool
  | .leaf _ _ _, fs => decide (fs.headD 63 = 49)
  | .node w a b, fs =>
    if w = "and" then tru a (fs.take a.n) && tru b (fs.drop a.n)
    else if w = "or" then tru a (fs.take a.n) || tru b (fs.drop a.n)
    else tru a (fs.take a.n) && !tru b (fs.drop a.n)
/-- a row completes findings -/
def Cmp : List Nat → List Nat → Prop
  | [], r => r = []
  | c :: fs, r => ∃ x rs, r = x :: rs ∧ (c = x ∨ (c = 63 ∧ (x = 48 ∨ x = 49))) ∧ (x = 48 ∨ x = 49) ∧ Cmp fs rs
theorem Cmp.len : ∀ {fs r : List Nat}, Cmp fs r → r.length = fs.length
  | [], r, h => by rw [h]
  | c :: fs, r, h => by
    obtain ⟨x, rs, rfl, _, _, h⟩ := h
    rw [List.length_cons, List.length_cons, Cmp.len h]
theorem Cmp.app : ∀ {f1 f2 r1 r2 : List Nat}, Cmp f1 r1 → Cmp f2 r2 → Cmp (f1 ++ f2) (r1 ++ r2)
  | [], f2, r1, r2, h, h2 => by
    rw [h]
    exact h2
  | c :: fs, f2, r1, r2, h, h2 => by
    obtain ⟨x, rs, rfl, e, e2, h⟩ := h
    exact ⟨x, rs ++ r2, rfl, e, e2, Cmp.app h h2⟩
theorem Cmp.take : ∀ {fs r : List Nat} (n : Nat), Cmp fs r → Cmp (fs.take n) (r.take n)
  | _, _, 0, _ => by
    rw [List.take_zero, List.take_zero]
    rfl
  | [], r, n + 1, h => by
    rw [show r = [] from h]
    rfl
  | c :: fs, r, n + 1, h => by
    obtain ⟨x, rs, rfl, e, e2, h⟩ := h
    exact ⟨x, rs.take n, rfl, e, e2, Cmp.take n h⟩
theorem Cmp.drop : ∀ {fs r : List Nat} (n : Nat), Cmp fs r → Cmp (fs.drop n) (r.drop n)
  | _, _, 0, h => h
  | [], r, n + 1, h => by
    rw [show r = [] from h]
    rfl
  | c :: fs, r, n + 1, h => by
    obtain ⟨x, rs, rfl, e, e2, h⟩ := h
    exact Cmp.drop n h
theorem Cmp.any : ∀ {fs : List Nat}, Fs fs → ∃ r, Cmp fs r
  | [], _ => ⟨[], rfl⟩
  | c :: fs, h => by
    obtain ⟨r, hr⟩ := Cmp.any (fs := fs) fun x hx => h x (List.mem_cons_of_mem _ hx)
    rcases h c List.mem_cons_self with q | q | q
    · exact ⟨c :: r, c, r, rfl, .inl rfl, .inl q, hr⟩
    · exact ⟨c :: r, c, r, rfl, .inl rfl, .inr q, hr⟩
    · exact ⟨48 :: r, 48, r, rfl, .inr ⟨q, .inl rfl⟩, .inl rfl, hr⟩
/-- some completion makes the cause so -/
def can (t : Tr) (fs : List Nat) (b : Bool) : Prop := ∃ r, Cmp fs r ∧ tru t r = b
theorem can_some {t : Tr} {fs : List Nat} (h : Fs fs) : can t fs true ∨ can t fs false := by
  obtain ⟨r, hr⟩ := Cmp.any h
  cases e : tru t r
  · exact .inr ⟨r, hr, e⟩
  · exact .inl ⟨r, hr, e⟩
/-- both parts freely -/
theorem can_node {a b : Tr} {fs : List Nat} {x y : Bool} (hl : fs.length = a.n + b.n) : (∃ r, Cmp fs r ∧ tru a (r.take a.n) = x ∧ tru b (r.drop a.n) = y) ↔ (can a (fs.take a.n) x ∧ can b (fs.drop a.n) y) := by
  constructor
  · rintro ⟨r, hr, e1, e2⟩
    exact ⟨⟨_, hr.take a.n, e1⟩, ⟨_, hr.drop a.n, e2⟩⟩
  · rintro ⟨⟨r1, h1, e1⟩, ⟨r2, h2, e2⟩⟩
    have l1 : r1.length = a.n := by rw [h1.len, List.length_take]; omega
    refine ⟨r1 ++ r2, by have := Cmp.app h1 h2; rwa [List.take_append_drop] at this, ?_, ?_⟩
    · rw [← l1, List.take_left]
      exact e1
    · rw [← l1, List.drop_left]
      exact e2
theorem can_and {w : Str} {a b : Tr} {fs : List Nat} (hl : fs.length = a.n + b.n) (z : Bool) : can (.node w a b) fs z ↔ ∃ x y : Bool, can a (fs.take a.n) x ∧ can b (fs.drop a.n) y ∧ (if w = "and" then x && y else if w = "or" then x || y else x && !y) = z := by
  constructor
  · rintro ⟨r, hr, e⟩
    exact ⟨_, _, ⟨_, hr.take a.n, rfl⟩, ⟨_, hr.drop a.n, rfl⟩, by rw [← e]; rfl⟩
  · rintro ⟨x, y, h1, h2, e⟩
    obtain ⟨r, hr, e1, e2⟩ := (can_node hl).mpr ⟨h1, h2⟩
    refine ⟨r, hr, ?_⟩
    rw [← e, ← e1, ← e2]
    rfl
/-- the value: what no completion can turn -/
theorem val_can : ∀ {t : Tr} {fs : List Nat}, Fs fs → fs.length = t.n → (can t fs true ↔ val3 t fs ≠ some false) ∧ (can t fs false ↔ val3 t fs ≠ some true)
  | .leaf x b m, fs, h, hl => by
    match fs, hl with
    | [c], _ =>
      have hc := h c List.mem_cons_self
      have key : ∀ z : Bool, can (.leaf x b m) [c] z ↔ (c = 63 ∨ (c = 49 ∧ z = true) ∨ (c = 48 ∧ z = false)) := fun z => by
        constructor
        · rintro ⟨r, ⟨y, rs, rfl, e, e2, _⟩, e3⟩
          have e3 : decide (y = 49) = z := e3
          rcases e with rfl | ⟨q, _⟩
          · rcases e2 with rfl | rfl
            · exact .inr (.inr ⟨rfl, e3.symm⟩)
            · exact .inr (.inl ⟨rfl, e3.symm⟩)
          · exact .inl q
        · rintro (rfl | ⟨rfl, rfl⟩ | ⟨rfl, rfl⟩)
          · cases z
            · exact ⟨[48], ⟨48, [], rfl, .inr ⟨rfl, .inl rfl⟩, .inl rfl, rfl⟩, rfl⟩
            · exact ⟨[49], ⟨49, [], rfl, .inr ⟨rfl, .inr rfl⟩, .inr rfl, rfl⟩, rfl⟩
          · exact ⟨[49], ⟨49, [], rfl, .inl rfl, .inr rfl, rfl⟩, rfl⟩
          · exact ⟨[48], ⟨48, [], rfl, .inl rfl, .inl rfl, rfl⟩, rfl⟩
      rw [key, key]
      unfold val3 sgn3
      rcases hc with rfl | rfl | rfl <;> decide
  | .node w a b, fs, h, hl => by
    have hl : fs.length = a.n + b.n := hl
    obtain ⟨a1, a2⟩ := val_can (t := a) (fs := fs.take a.n) (h.take _) (by rw [List.length_take]; omega)
    obtain ⟨b1, b2⟩ := val_can (t := b) (fs := fs.drop a.n) (h.drop _) (by rw [List.length_drop]; omega)
    have sa := can_some (t := a) (h.take a.n)
    have sb := can_some (t := b) (h.drop a.n)
    rw [can_and hl, can_and hl]
    unfold val3
    simp only [Bool.exists_bool]
    generalize can a (fs.take a.n) true = A1 at *
    generalize can a (fs.take a.n) false = A2 at *
    generalize can b (fs.drop a.n) true = B1 at *
    generalize can b (fs.drop a.n) false = B2 at *
    generalize val3 a (fs.take a.n) = x at *
    generalize val3 b (fs.drop a.n) = y at *
    rcases x with _ | _ | _ <;> rcases y with _ | _ | _ <;> simp at a1 a2 b1 b2 <;> (split <;> (try split)) <;> simp_all [both3, neg3]
end Dl
/-! Dl: issues that still turn a cause. -/
namespace Dl
open PySem L2
/-! ### completions by number -/
/-! ### what turns -/
theorem Cmp.set : ∀ {fs r : List Nat} {k : Nat}, Cmp fs r → fs[k]? = some 63 → Cmp fs (r.set k 49)
  | [], r, k, h, e => by simp at e
  | c :: fs, r, 0, h, e => by
    obtain ⟨x, rs, rfl, _, _, h⟩ := h
    obtain rfl : c = 63 := by simpa using e
    exact ⟨49, rs, rfl, .inr ⟨rfl, .inr rfl⟩, .inr rfl, h⟩
  | c :: fs, r, k + 1, h, e => by
    obtain ⟨x, rs, rfl, e1, e2, h⟩ := h
    exact ⟨x, rs.set k 49, rfl, e1, e2, Cmp.set h (by simpa using e)⟩
theorem can_not {t : Tr} {fs : List Nat} {b : Bool} (h : Fs fs) (hl : fs.length = t.n) (e : val3 t fs = some b) {r : List Nat} (hr : Cmp fs r) : tru t r = b := by
  obtain ⟨c1, c2⟩ := val_can h hl
  cases b
  · cases q : tru t r
    · rfl
    · exact absurd e (c1.mp ⟨r, hr, q⟩)
  · cases q : tru t r
    · exact absurd e (c2.mp ⟨r, hr, q⟩)
    · rfl
/-- findings that decide more -/
def Ext (f g : List Nat) : Prop := g.length = f.length ∧ ∀ i : Nat, g[i]? = f[i]? ∨ f[i]? = some 63
end Dl
/-! Dl: findings that stall a cause. -/
namespace Dl
open PySem L2
def sgB (b : Bool) : Nat := if b then 49 else 48
theorem sgB_ok (b : Bool) : sgB b = 48 ∨ sgB b = 49 := by cases b <;> simp [sgB]
theorem Fs.set {fs : List Nat} (h : Fs fs) (k : Nat) (b : Bool) : Fs (fs.set k (sgB b)) := fun c hc => by
  rcases List.mem_or_eq_of_mem_set hc with hc | hc
  · exact h c hc
  · rw [hc]
    rcases sgB_ok b with q | q
    · exact .inl q
    · exact .inr (.inl q)
theorem Ext.set {fs : List Nat} {k : Nat} (e : fs[k]? = some 63) (v : Nat) : Ext fs (fs.set k v) := ⟨List.length_set, fun i => by
  by_cases q : k = i
  · subst q
    exact .inr e
  · rw [List.getElem?_set_ne q]
    exact .inl rfl⟩
end Dl
/-! Dl: degrees of values; tuples of numbers compared. -/
namespace Dl
open PySem L2
/-- the degree of a value -/
def vd : Option Bool → Nat
  | some false => 0
  | none => 1
  | some true => 2
end Dl
/-! Dl: findings that favour a side. -/
namespace Dl
open PySem L2
/-- a finding's degree -/
def dg (c : Nat) : Nat := vd (sgn3 c)
def Fav : List Bool → List Nat → List Nat → Prop
  | [], f, g => f = [] ∧ g = []
  | s :: ss, f, g => ∃ c d f' g', f = c :: f' ∧ g = d :: g' ∧ (s = true → dg c ≤ dg d) ∧ (s = false → dg d ≤ dg c) ∧ Fav ss f' g'
theorem Fav.len : ∀ {ss : List Bool} {f g : List Nat}, Fav ss f g → f.length = ss.length ∧ g.length = ss.length
  | [], f, g, h => by
    rw [h.1, h.2]
    exact ⟨rfl, rfl⟩
  | s :: ss, f, g, h => by
    obtain ⟨c, d, f, g, rfl, rfl, _, _, h⟩ := h
    have := h.len
    exact ⟨congrArg (· + 1) this.1, congrArg (· + 1) this.2⟩
theorem Fav.refl : ∀ {ss : List Bool} {f : List Nat}, f.length = ss.length → Fav ss f f
  | [], [], _ => ⟨rfl, rfl⟩
  | s :: ss, c :: f, h => ⟨c, c, f, f, rfl, rfl, fun _ => Nat.le_refl _, fun _ => Nat.le_refl _, Fav.refl (Nat.succ.inj h)⟩
  | [], c :: f, h => by cases h
  | s :: ss, [], h => by cases h
end Dl
/-! Dl: least numbers of rulings. -/
namespace Dl
open PySem L2
/-- a cost: none is infinite -/
def plusO : Option Int → Option Int → Option Int
  | some x, some y => some (x + y)
  | _, _ => none
def pluS : Option Int → Option Int → Option Int
  | some x, some y => some (x + y)
  | _, _ => none
def smalS : Option Int → Option Int → Option Int
  | none, b => b
  | some x, none => some x
  | some x, some y => if y < x then some y else some x
/-! ### helped findings -/
def Hlp : List Nat → List Nat → List Nat → Nat → Prop
  | [], bs, r, m => bs = [] ∧ r = [] ∧ m = 0
  | c :: fs, bs, r, m => ∃ d ds x rs, bs = d :: ds ∧ r = x :: rs ∧ ((x = c ∧ Hlp fs ds rs m) ∨ (c = 63 ∧ x = d ∧ ∃ k, m = k + 1 ∧ Hlp fs ds rs k))
theorem Hlp.len : ∀ {fs bs r : List Nat} {m : Nat}, Hlp fs bs r m → r.length = fs.length ∧ bs.length = fs.length
  | [], bs, r, m, h => by
    rw [h.1, h.2.1]
    exact ⟨rfl, rfl⟩
  | c :: fs, bs, r, m, h => by
    obtain ⟨d, ds, x, rs, rfl, rfl, ⟨_, h⟩ | ⟨_, _, k, _, h⟩⟩ := h
    · exact ⟨congrArg (· + 1) h.len.1, congrArg (· + 1) h.len.2⟩
    · exact ⟨congrArg (· + 1) h.len.1, congrArg (· + 1) h.len.2⟩
theorem Hlp.fs : ∀ {fs bs r : List Nat} {m : Nat}, Fs fs → Fs bs → Hlp fs bs r m → Fs r
  | [], bs, r, m, _, _, h => by
    rw [h.2.1]
    exact nofun
  | c :: fs, bs, r, m, hf, hb, h => by
    obtain ⟨d, ds, x, rs, rfl, rfl, h⟩ := h
    have t1 : Fs fs := fun y hy => hf y (List.mem_cons_of_mem _ hy)
    have t2 : Fs ds := fun y hy => hb y (List.mem_cons_of_mem _ hy)
    intro y hy
    rcases h with ⟨e, h⟩ | ⟨e1, e2, k, rfl, h⟩
    · rcases List.mem_cons.mp hy with rfl | hy
      · rw [e]
        exact hf c List.mem_cons_self
      · exact Hlp.fs t1 t2 h y hy
    · rcases List.mem_cons.mp hy with rfl | hy
      · rw [e2]
        exact hb d List.mem_cons_self
      · exact Hlp.fs t1 t2 h y hy
def rb : Tr → List Nat → Option Int × Option Int
  | .leaf _ _ _, fs => if fs.headD 63 = 49 then (some 0, none) else if fs.headD 63 = 48 then (none, some 0) else (some 1, some 1)
  | .node w a b, fs =>
    let f := rb a (fs.take a.n)
    let g := rb b (fs.drop a.n)
    let s := if w = "unless" then (g.2, g.1) else g
    if w = "or" then (smalS f.1 s.1, pluS f.2 s.2) else (pluS f.1 s.1, smalS f.2 s.2)
end Dl
/-! Dl: enumerate(tuple). -/
namespace Dl
open PySem L2 PySem.Spec PyProof.Rows
/-- enumerate(v): its cells, before they are laid -/
theorem enum_made {v : Value} {ob : Obj} {Hy : Heap → Prop} (Bg : Begins v ob Hy) :
    Meets (Builtin.«enumerate.__new__» ⟨[.type "enumerate", v], []⟩) (fun _ R st => Hy st.heap ∧
      R (.ok (.ret (.ref (st.heap.push ob).objs.size))) { st with heap := (st.heap.push ob).push { cls := .type "enumerate", data := .fields #[.none, .bool false, .ref st.heap.objs.size, rawInt 0, .none, .none] } }) :=
  .of_wp fun pr wd Ar Rr st hyp => by
    rcases st with ⟨hp, gg, dd, tt, oo⟩
    rcases hyp with ⟨hy, hyp⟩
    have subE := sub_enumerate
    have itE : ∀ {Ax : Around} {Ex : Value → Shared → Prop} {Qx : Value → Shared → Prop}, Qx (.ref hp.objs.size) ⟨hp.push ob, gg, dd, tt, oo⟩ → wpAny (model pr wd) Ax (pyIter v) Qx Ex ⟨hp, gg, dd, tt, oo⟩ := fun q => Bg.iter pr wd _ _ ⟨hp, gg, dd, tt, oo⟩ _ hy q
    wp_walk using itE
    refine wpAny_stack_any fun _ => wpAny_pure ?_
    split
    · rename_i cc _ _ _ _ _
      cases (cc == Value.type "enumerate")
      all_goals
        wp_walk using itE
        exact ⟨_, rfl, hyp⟩
    · wp_walk using itE
      exact ⟨_, rfl, hyp⟩
section
variable {pr : Program} {wd : World} {Ar : Around} {Ex : Value → Shared → Prop} {st : Shared}
theorem enum_call {t : Addr} {items : Array Value} {Q : Value → Shared → Prop} (hT : st.heap.IsTuple t items)
    (after : ∀ h2, IsEnum h2 (st.heap.objs.size + 1) st.heap.objs.size 0 .none → h2.IsTupleIter st.heap.objs.size t 0 → (∀ b o, st.heap.get? b = some o → h2.get? b = some o) → Q (.ref (st.heap.objs.size + 1)) { st with heap := h2 }) :
    wpAny (model pr wd) Ar (call (.type "enumerate") [.ref t]) Q Ex st := by
  refine callType_new F.called_enumerate (by decide) (F.typeCall_enumerate_1 _) (F.newCall_enumerate_1 _) (fun obj => F.args_object_init_2 obj _) F.entry_enumerate_new (enum_made (begins_tuple t items)) ⟨hT, ?_⟩
  have sz : (st.heap.push { cls := .type "tuple_iterator", data := .fields #[.ref t, .int 0 0] }).objs.size = st.heap.objs.size + 1 := Heap.size_push _ _
  show _ ∧ _
  rw [sz]
  obtain ⟨h1, eh1⟩ : ∃ h1 : Heap, h1 = st.heap.push { cls := .type "tuple_iterator", data := .fields #[.ref t, .int 0 0] } := ⟨_, rfl⟩
  rw [← eh1] at sz ⊢
  have g1 : h1.get? st.heap.objs.size = some { cls := .type "tuple_iterator", data := .fields #[.ref t, .int 0 0] } := by
    rw [eh1]
    exact Heap.get?_push_size _ rfl
  have up1 : ∀ b o, st.heap.get? b = some o → h1.get? b = some o := fun b o e => by
    rw [eh1]
    exact Heap.get?_push_of_some _ e
  have g2 : (h1.push { cls := .type "enumerate", data := .fields #[.none, .bool false, .ref st.heap.objs.size, rawInt 0, .none, .none] }).get? (st.heap.objs.size + 1) = some { cls := .type "enumerate", data := .fields #[.none, .bool false, .ref st.heap.objs.size, rawInt 0, .none, .none] } := by
    rw [← sz]
    exact Heap.get?_push_size _ rfl
  refine ⟨⟨_, g2, rfl⟩, after _ g2 ⟨_, Heap.get?_push_of_some _ g1, rfl, rfl⟩ fun b o e => Heap.get?_push_of_some _ (up1 b o e)⟩
end
/-- a tuple's items, each in a new pair behind its number -/
def ItE (K : PySem.W.Frag) (a : Addr) : It :=
  ⟨fun i H => ∃ (xs : List V) (x : V), SqT K H a xs ∧ xs[i]? = some x,
   fun i H v H' => ∃ T x, v = .ref T ∧ H T = none ∧ H' = upd H T (.tup [.int (i : Nat), x]) ∧ ∀ ys, SqT K H a ys → ys[i]? = some x,
   fun i H => ∃ ys : List V, SqT K H a ys ∧ ys.length ≤ i⟩
theorem turn_enu {P : Program} {w : World} {K : PySem.W.Frag} {elts : List Expr} {kk : Nat} {tpos : Pos} (a e it : Addr) :
    Turn P w K (.Tuple elts kk tpos) (ItE K a) [e, it] e (fun i h => (∃ old, IsEnum h e it ((i : Nat) : Int) old) ∧ h.IsTupleIter it a i ∧ e ≠ it ∧ a ≠ e ∧ a ≠ it) where
  mem := List.mem_cons_self
  obj := fun i h q b hb => by
    obtain ⟨⟨old, he⟩, ⟨o, ho, hc, hd⟩, _⟩ := q
    rcases List.mem_cons.mp hb with rfl | hb
    · exact ⟨_, he, nofun⟩
    · rw [List.mem_singleton.mp hb]
      exact ⟨o, ho, fun v z => by rw [hd] at z; cases z⟩
  keep := fun i h h2 q k => by
    obtain ⟨⟨old, he⟩, hit, hne⟩ := q
    exact ⟨⟨old, k e List.mem_cons_self _ he⟩, hit.at fun o z => k it (List.mem_cons_of_mem _ List.mem_cons_self) o z, hne⟩
  item := by
    rintro X rfl rfl rfl hc i pins s σ H E I hf ⟨⟨old, he⟩, hit, hne, hae, hai⟩ ⟨xs, x, hq, hx⟩
    obtain ⟨its, rv, p, hz⟩ := I.tuple hq
    obtain ⟨u, hu, ru⟩ := rv.get hx
    have hel : e < s.heap.objs.size := Heap.lt_size he
    have hil : it < s.heap.objs.size := by
      obtain ⟨_, z, _⟩ := hit
      exact Heap.lt_size z
    have hlt : i < its.toArray.size := by
      have := (List.getElem?_eq_some_iff.mp hu).1
      simpa using this
    refine wpAny_pyNext_enum_itemD (Draws.tuple (A := X.A.in1) (I.ok.hd hc) it a hai its.toArray) he ⟨hit, p⟩ hlt hne (by
      intro z
      rcases List.mem_cons.mp z with z | z
      · exact hne z
      · exact hae (List.mem_singleton.mp z).symm) fun u2 h2 tk hP ho hst hT hsz hk => ?_
    have eu : u2 = u := by
      have : its.toArray[i]? = some u := by simpa using hu
      rw [this] at hP
      exact (Option.some.inj hP).symm
    subst eu
    refine ⟨_, rfl, wpAny_letOwnedTupleGo_enum (s := { s with heap := h2, toks := tk + 1 }) ho fun h3 he3 sb => ?_⟩
    have hT3 : h3.get? s.heap.objs.size = some { cls := .type "tuple", data := .seq #[.int i tk, u2] } := (sb.2 _ (Nat.ne_of_gt hel)).trans hT
    have fresh : ObjOk X.prog X.w (upd H s.heap.objs.size (.tup [.int (i : Nat), x])) h3 s.heap.objs.size (.tup [.int (i : Nat), x]) :=
      ⟨(show 2 ≤ sizeLine by decide), [.int i tk, u2], .cons ⟨_, rfl⟩ (.cons ru .nil), ⟨_, hT3, rfl, _, rfl⟩⟩
    have I1 : Inv X pins σ (upd H s.heap.objs.size (.tup [.int (i : Nat), x])) { s with heap := h3, toks := tk + 1 } :=
      I.turnedNew (ch := [e, it]) (fun b ob hb q => (sb.2 b fun z => hb (by rw [z]; exact List.mem_cons_self)).trans (hk b ob (fun z => hb (by rw [z]; exact List.mem_cons_self)) (fun z => hb (by rw [z]; exact List.mem_cons_of_mem _ List.mem_cons_self)) q)) hf (Nat.le_refl _) fresh
    have e1 : ((i + 1 : Nat) : Int) = (i : Int) + 1 := rfl
    refine ⟨.ref s.heap.objs.size, _, I1, rfl, ⟨_, x, rfl, I.hok.fresh (Nat.le_refl _), rfl, fun ys hy => by rw [I.tuple_inj hy hq]; exact hx⟩, ⟨⟨u2, ?_⟩, hst.1.at fun o q => (sb.2 it (Ne.symm hne)).trans q, hne, hae, hai⟩, fun b hb => ?_⟩
    · rw [e1]
      exact he3
    · have hlb : b < s.heap.objs.size := by
        rcases List.mem_cons.mp hb with z | z
        · rw [z]
          exact hel
        · rw [List.mem_singleton.mp z]
          exact hil
      rw [upd_ne (Nat.ne_of_lt hlb)]
      exact (hf b hb).1
  done := by
    rintro X rfl rfl rfl hc i pins s σ H E I hf ⟨⟨old, he⟩, hit, hne, hae, hai⟩ ⟨xs, hq, hx⟩
    obtain ⟨its, rv, p, hz⟩ := I.tuple hq
    obtain ⟨f0, f1, f2, f3, f4, f5⟩ := hf it (List.mem_cons_of_mem _ List.mem_cons_self)
    have hl := rv.length
    have none : its.toArray[i]? = none := by
      simp
      omega
    have D : Draws X.prog X.w X.A.in1 it [it, a] i (fun _ _ => False) (fun j h => j = i ∧ h.IsTupleIter it a i ∧ h.IsTuple a its.toArray) := {
      live := fun j h q => by
        obtain ⟨_, ⟨o, ho, _⟩, _⟩ := q
        exact ⟨o, ho⟩
      frame := fun j h h2 q k => ⟨q.1, q.2.1.at fun o z => k it List.mem_cons_self o z, q.2.2.at fun o z => k a (List.mem_cons_of_mem _ List.mem_cons_self) o z⟩
      item := fun j s Q E hj q _ => by
        have := q.1
        omega
      done := fun s Q E q hE => wpAny_nextOf_tuple_end (I.ok.hd hc) q.2.1 q.2.2 none hE }
    exact wpAny_pyNext_enum_endD D he ⟨rfl, hit, p⟩ fun h2 eb => ⟨rfl, I.turned (t' := s.toks) eb f0 f1 f3 f4 f5⟩
  self := fun A i s Q E q h => by
    obtain ⟨⟨_, he⟩, _⟩ := q
    exact wpAny_pyIter_enum he h
def iEnuA (K : PySem.W.Frag) (ta : TA) : TI := fun σ H R => ta σ H fun vs H1 => ∃ a xs, vs = [.ref a] ∧ SqT K H1 a xs ∧ R (ItE K a) H1
theorem pi_enu {X : Cx} {e : Expr} {ta : TA} {p pos tpos : Pos} {elts : List Expr} {kk : Nat} (hg : Gl X "enumerate") (hm : X.mg "enumerate" = none) (ha : PA X [e] ta) (hs : starEach [e] X.env = [(false, eval e X.env)] := by rfl) :
    PI X (.Tuple elts kk tpos) (.Call (.Name "enumerate" p) [e] [] pos) (iEnuA X.K ta) := ⟨fun pins s σ H R I hyp => by
  refine Call_ (ld_blt I hg hm boot_enumerate (PyProof.Rows.callWith_type1 (thn (ha.run pos pins s σ H _ I hyp) fun us s1 res => ?_) hs rfl))
  obtain ⟨vs, H1, I1, r1, a, xs, rfl, hq, go⟩ := res
  cases r1 with
  | cons r rr =>
    cases rr
    cases r
    obtain ⟨its, rv, p2, _⟩ := I1.tuple hq
    obtain ⟨oa, hoa, _⟩ := id p2
    have la : a < s1.heap.objs.size := Heap.lt_size hoa
    refine enum_call p2 fun h2 he hit hk => wpAny_pyIter_enum he ?_
    refine ⟨s1.heap.objs.size + 1, [s1.heap.objs.size + 1, s1.heap.objs.size], _, _, H1, rfl, I1.kept (t' := s1.toks) hk, turn_enu a (s1.heap.objs.size + 1) s1.heap.objs.size, ⟨⟨.none, he⟩, hit, Nat.succ_ne_self _, Nat.ne_of_lt (Nat.lt_succ_of_lt la), Nat.ne_of_lt la⟩, fun b hb => ?_, go⟩
    have hle : s1.heap.objs.size ≤ b := by
      rcases List.mem_cons.mp hb with z | z
      · rw [z]
        exact Nat.le_succ _
      · rw [List.mem_singleton.mp z]
        exact Nat.le_refl _
    exact I1.fpOk hle (I1.hok.fresh hle)⟩
/-- the numbers and the items -/
def numD (k : Nat) : List D → List D
  | [] => []
  | d :: ds => .tup [.int (k : Int), d] :: numD (k + 1) ds
theorem numD_at : ∀ (ds : List D) (k i : Nat), (numD k ds)[i]? = (ds[i]?).map fun d => .tup [.int ((k + i : Nat) : Int), d]
  | [], _, i => by simp [numD]
  | d :: ds, k, 0 => rfl
  | d :: ds, k, i + 1 => by
    show (numD (k + 1) ds)[i]? = _
    rw [numD_at ds (k + 1) i, List.getElem?_cons_succ, show k + 1 + i = k + (i + 1) by omega]
theorem numD_len : ∀ (ds : List D) (k : Nat), (numD k ds).length = ds.length
  | [], _ => rfl
  | d :: ds, k => congrArg (· + 1) (numD_len ds (k + 1))
theorem src_enu {K : PySem.W.Frag} {c : Ct} {a : Addr} {F0 : Hp} {ds : List D} {vs : List V} (h : SqT K F0 a vs) (r : Reps K F0 ds vs) : SrcOk K c (ItE K a) F0 (numD 0 ds) := by
  have at' : ∀ {F σ H δ}, Same F0 F → StOk K c F σ H δ → SqT K H a vs := fun e S => same_t S.sub (same_t e h)
  have ln := numD_len ds 0
  refine ⟨fun F σ H δ e S => ⟨vs, at' e S, by rw [r.len, ln]; exact Nat.le_refl _⟩, fun i F σ H δ hi e S => ?_, fun i d F σ H δ x H' hi e S y => ?_⟩
  · have hi' : i < vs.length := by rw [r.len, ← ln]; exact hi
    exact ⟨vs, vs[i], at' e S, List.getElem?_eq_getElem hi'⟩
  · obtain ⟨T, x0, rfl, hT, rfl, hall⟩ := y
    rw [numD_at, Nat.zero_add] at hi
    have hi2 : i < ds.length := by
      rw [← ln]
      have := congrArg Option.isSome (numD_at ds 0 i)
      cases q : ds[i]? with
      | none =>
        rw [q] at hi
        cases hi
      | some d0 =>
        rw [ln]
        exact (List.getElem?_eq_some_iff.mp q).1
    obtain ⟨v0, h1, h2⟩ := r.get (List.getElem?_eq_getElem hi2)
    have h3 := hall vs (at' e S)
    rw [h1] at h3
    obtain rfl := Option.some.inj h3
    rw [List.getElem?_eq_getElem hi2] at hi
    obtain rfl := Option.some.inj hi
    obtain ⟨sF, S2⟩ := S.alloc (o := .tup [.int (i : Nat), v0]) hT
    refine ⟨_, sF, S2, ?_, fun p o f hp => ?_⟩
    · simp only [Rep]
      refine ⟨T, _, rfl, SqT.of upd_same, ?_⟩
      simp only [Reps]
      exact ⟨_, _, rfl, by simp only [Rep], _, _, rfl, Rep.mono (e.trans sF) _ _ h2, rfl⟩
    · have ne : p ≠ T := fun z => by
        rw [z, hT] at hp
        cases hp
      refine ⟨⟨?_, f.z, f.o, f.s⟩, ?_⟩
      · rw [upd_ne ne]
        exact f.f
      · rw [upd_ne ne]
        exact hp
def iEnuD (r : DA) : DI := fun δ Q => r δ fun ws δ1 => match ws with
  | [.val (.tup ds)] => Q (numD 0 ds) δ1
  | _ => False
theorem i_enu {X : Cx} {e : Expr} {rs : DA} {p pos tpos : Pos} {elts : List Expr} {kk : Nat} (hg : Gl X "enumerate") (hm : X.mg "enumerate" = none) (ha : PA X [e] (liftA X.K rs)) (hs : starEach [e] X.env = [(false, eval e X.env)] := by rfl) :
    PI X (.Tuple elts kk tpos) (.Call (.Name "enumerate" p) [e] [] pos) (liftI X.K (iEnuD rs)) := pi_wk (pi_enu hg hm ha hs) fun σ H R ⟨c, F, δ, P, S, h, k⟩ => ⟨c, F, δ, _, S, h, fun ws δ1 h1 vs F1 H1 e1 S1 r1 => by
  match ws, h1, r1 with
  | [.val (.tup ds)], h1, r1 =>
    obtain ⟨v, us, rfl, g1, g2⟩ := r1
    have e2 : us = [] := g2
    subst e2
    have r : Rep X.K F1 (.tup ds) v := g1
    simp only [Rep] at r
    obtain ⟨a, xs, rfl, q1, q2⟩ := r
    exact ⟨a, xs, rfl, same_t S1.sub q1, k _ _ h1 _ F1 H1 e1 S1 (fun _ => src_enu q1 q2)⟩⟩
def kEnu (Q : List D → DS → Prop) : List Vw → DS → Prop := fun ws δ1 => match ws with
  | [.val (.tup ds)] => Q (numD 0 ds) δ1
  | _ => False
theorem ev_enu {r : DA} {δ : DS} {Q : List D → DS → Prop} : iEnuD r δ Q = r δ (kEnu Q) := rfl
theorem ev_kenu {ds : List D} {δ : DS} {Q : List D → DS → Prop} : kEnu Q [.val (.tup ds)] δ = Q (numD 0 ds) δ := rfl
/-- numbered items -/
def numL {β : Type} (k : Nat) : List β → List (Nat × β)
  | [] => []
  | x :: xs => (k, x) :: numL (k + 1) xs
theorem numD_map {β : Type} {enc : β → D} : ∀ (xs : List β) (k : Nat), numD k (xs.map enc) = (numL k xs).map fun p => .tup [.int (p.1 : Int), enc p.2]
  | [], _ => rfl
  | x :: xs, k => by
    rw [List.map_cons]
    show .tup [.int (k : Int), enc x] :: numD (k + 1) (xs.map enc) = _
    rw [numD_map xs (k + 1)]
    rfl
end Dl
/-! Dl: tuples of ints compared. -/
namespace Dl
open PySem L2 PySem.Spec PyProof.Rows
theorem eqP_ints (a b : List Int) : eqP (.tup (a.map D.int)) (.tup (b.map D.int)) = decide (a = b) := by
  have key : ∀ a b : List Int, PyData.eqvAll (toPys (a.map D.int)) (toPys (b.map D.int)) = decide (a = b) := fun a => by
    induction a with
    | nil =>
      intro b
      cases b <;> rfl
    | cons x xs ih =>
      intro b
      cases b with
      | nil => rfl
      | cons y ys =>
        show (PyData.eqv (.int x) (.int y) && PyData.eqvAll (toPys (xs.map D.int)) (toPys (ys.map D.int))) = _
        rw [ih]
        show ((x == y) && decide (xs = ys)) = _
        by_cases h : x = y <;> simp [h]
  exact key a b
end Dl
/-! Dl: rules of jurisdiction. -/
namespace Dl
open PySem L2
structure Jr where
  cs : List Nat
  lo : Int
  hi : Option Int
  co : Int
def Jr.ok (r : Jr) : Prop := 0 ≤ r.lo ∧ r.lo ≤ 100000 ∧ ∀ h, r.hi = some h → 0 ≤ h ∧ h ≤ 100000
theorem sorted_ints {l : List Int} {P : List D → Prop} (h : ∀ ms : List Int, ms.Perm l → ms.Pairwise (· ≤ ·) → P (ms.map D.int)) : sortedR [.lst (l.map D.int)] P := by
  show (match intsD (l.map D.int) with
    | some ns => ∀ ms : List Int, ms.Perm ns → ms.Pairwise (· ≤ ·) → P (ms.map D.int)
    | none => False)
  rw [intsD_map]
  exact h
end Dl
/-! Dl: the least sum of votes over all sequences of rulings. -/
namespace Dl
open PySem L2
def oLe (o : Option Int) (v : Int) : Prop := ∃ x, o = some x ∧ x ≤ v
def lsO : Option Int → Option Int → Bool
  | none, _ => false
  | some _, none => true
  | some x, some y => decide (x < y)
end Dl
/-! Dl: the cheapest rulings. -/
namespace Dl
open PySem L2
def ctl (c : C2) : Option Nat × List D := (c.1, c.2.rest)
end Dl
/-! Dl: prices of assignments; the least one. -/
namespace Dl
open PySem L2
abbrev Pr := Option Int × Option Int
def reqC (p : Pr) (c : Nat) : Option Int := if c = 63 then some 0 else if c = 48 then p.2 else p.1
def priL : List Pr → List Nat → Option Int
  | p :: ps, c :: r => pluS (reqC p c) (priL ps r)
  | _, _ => some 0
theorem plu_zero (a : Option Int) : pluS a (some 0) = a := by
  cases a with
  | none => rfl
  | some x => show some (x + 0) = some x; rw [Int.add_zero]
theorem plu_assoc (a b c : Option Int) : pluS (pluS a b) c = pluS a (pluS b c) := by
  cases a with
  | none => cases b <;> cases c <;> rfl
  | some x =>
    cases b with
    | none => cases c <;> rfl
    | some y =>
      cases c with
      | none => rfl
      | some z =>
        show some (x + y + z) = some (x + (y + z))
        rw [Int.add_assoc]
def PrOk (p : Pr) : Prop := (∀ x, p.1 = some x → 0 ≤ x) ∧ ∀ x, p.2 = some x → 0 ≤ x
end Dl
/-! Dl: costs that stand for findings, raised costs. -/
namespace Dl
open PySem L2
/-- what an issue costs by its finding: nothing to keep it -/
def StdOk (p : Pr) (c : Nat) : Prop := (c = 63 ∧ p = (some 0, some 0)) ∨ (c = 49 ∧ p.1 = some 0 ∧ ∀ x, p.2 = some x → 1 ≤ x) ∨ (c = 48 ∧ p.2 = some 0 ∧ ∀ x, p.1 = some x → 1 ≤ x)
def StdL : List Pr → List Nat → Prop
  | [], [] => True
  | p :: ps, c :: r => StdOk p c ∧ StdL ps r
  | _, _ => False
theorem StdL.take : ∀ {ps : List Pr} {r : List Nat} (n : Nat), StdL ps r → StdL (ps.take n) (r.take n)
  | [], [], n, _ => by rw [List.take_nil, List.take_nil]; trivial
  | p :: ps, c :: r, 0, _ => trivial
  | p :: ps, c :: r, n + 1, h => ⟨h.1, h.2.take n⟩
theorem StdL.drop : ∀ {ps : List Pr} {r : List Nat} (n : Nat), StdL ps r → StdL (ps.drop n) (r.drop n)
  | [], [], n, _ => by rw [List.drop_nil, List.drop_nil]; trivial
  | p :: ps, c :: r, 0, h => h
  | p :: ps, c :: r, n + 1, h => h.2.drop n
theorem StdL.len : ∀ {ps : List Pr} {r : List Nat}, StdL ps r → ps.length = r.length
  | [], [], _ => rfl
  | p :: ps, c :: r, h => congrArg (· + 1) h.2.len
theorem StdL.ok : ∀ {ps : List Pr} {r : List Nat}, StdL ps r → ∀ p ∈ ps, PrOk p
  | [], [], _, p, hp => by cases hp
  | q :: ps, c :: r, h, p, hp => by
    rcases List.mem_cons.mp hp with rfl | hp
    · rcases h.1 with ⟨_, rfl⟩ | ⟨_, h1, h2⟩ | ⟨_, h1, h2⟩
      · exact ⟨fun x e => by cases e; exact Int.le_refl _, fun x e => by cases e; exact Int.le_refl _⟩
      · exact ⟨fun x e => by rw [h1] at e; cases e; exact Int.le_refl _, fun x e => by have := h2 x e; omega⟩
      · exact ⟨fun x e => by have := h2 x e; omega, fun x e => by rw [h1] at e; cases e; exact Int.le_refl _⟩
    · exact h.2.ok p hp
/-- raised costs, by so much in all -/
def upO (a b : Option Int) (k : Int) : Prop := (a = none ∧ b = none) ∨ ∃ x y, a = some x ∧ b = some y ∧ x ≤ y ∧ y ≤ x + k
def Rsd : List Pr → List Pr → Int → Prop
  | [], [], k => 0 ≤ k
  | p :: ps, q :: qs, k => ∃ m, 0 ≤ m ∧ upO p.1 q.1 m ∧ upO p.2 q.2 m ∧ Rsd ps qs (k - m)
  | _, _, _ => False
theorem Rsd.len : ∀ {ps qs : List Pr} {k : Int}, Rsd ps qs k → ps.length = qs.length
  | [], [], _, _ => rfl
  | p :: ps, q :: qs, k, ⟨_, _, _, _, h⟩ => congrArg (· + 1) h.len
theorem Rsd.nn : ∀ {ps qs : List Pr} {k : Int}, Rsd ps qs k → 0 ≤ k
  | [], [], _, h => h
  | p :: ps, q :: qs, k, ⟨m, h0, _, _, h⟩ => by
    have := h.nn
    omega
end Dl
/-! Dl: sorted(range(n), key=lambda at: (-xs[at], at)): the lambda is made (its code object stands in the def's table), called for each item, the new list is sorted. -/
namespace Dl
open PySem L2 PySem.Spec PyProof.Rows PySem.W
section
variable {X : Cx} {pins : List (Addr × Obj)} {σ : L2.St} {H : Hp} {s : Shared}
/-- the places in the order of the sort -/
def ordIx (rs : List Int) : List Nat := (List.range rs.length).mergeSort fun p q => decide (-(rs.getD p 0) < -(rs.getD q 0) ∨ (-(rs.getD p 0) = -(rs.getD q 0) ∧ (p : Int) ≤ (q : Int)))
end
/-! ### at the level of data -/
def kSortLam (i : Nat) (Q : List D → DS → Prop) : Vw → DS → Prop := fun w δ1 => match w, sg δ1 i with
  | .val (.int n), .own _ (.lst ds) => ∃ rs : List Int, ds = rs.map D.int ∧ n = (rs.length : Int) ∧ rs.length ≤ 16777216 ∧ Q ((ordIx rs).map fun (k : Nat) => D.int (k : Int)) δ1
  | _, _ => False
def rSortLam (i : Nat) (ra : DV) : DF := fun δ Q => ra δ (kSortLam i Q)
section
variable {X : Cx} {ra : DV} {i : Nat}
theorem ev_sortLam {δ : DS} {Q : List D → DS → Prop} : rSortLam i ra δ Q = ra δ (kSortLam i Q) := rfl
end
end Dl
/-! Dl: shares of a total by the largest remainders; plain mathematics. -/
namespace Dl
open PySem L2
/-! ### the order -/
/-! ### one more for some -/
/-! ### the shares -/
end Dl
/-! Dl: order of data that are alike: <, <=, >, >=, sorted, min, max. -/
namespace Dl
open PySem L2 PySem.Spec PyProof.Rows PySem.W
/-- a < b -/
def ltD (a b : D) : Bool := dataLt (toPy a) (toPy b)
def leD (a b : D) : Bool := !dataLt (toPy b) (toPy a)
/-- they may be compared -/
def cmpOk (a b : D) : Bool := PySem.W.alike (toPy a) (toPy b) && decide ((toPy a).depth ≤ 40) && (match a with | .non => false | _ => true) && (PySem.W.alike (toPy a) (toPy a) && PySem.W.alike (toPy b) (toPy b))
/-! ### the operators -/
def ordR (f : PyData → PyData → Bool) : R2D := fun a b P => cmpOk a b = true ∧ P (.bl (f (toPy a) (toPy b)))
theorem ev_ord {f : PyData → PyData → Bool} {a b : D} {P : D → Prop} : ordR f a b P = (cmpOk a b = true ∧ P (.bl (f (toPy a) (toPy b)))) := rfl
/-! ### sorted(list) -/
/-- at the level of data -/
def sortOk (ds : List D) : Prop := (∀ a ∈ ds, ∀ b ∈ ds, PySem.W.alike (toPy a) (toPy b) = true) ∧ Sortable (ds.map toPy) ∧ ∀ a ∈ ds, (toPy a).depth ≤ 40
def sortOR : List D → (List D → Prop) → Prop
  | [.lst ds], P => sortOk ds ∧ P (ds.mergeSort leD)
  | [.rol ds], P => sortOk ds ∧ P (ds.mergeSort leD)
  | _, _ => False
/-! ### the order's laws -/
/-! tuples of whole numbers -/
/-! ### min, max -/
/-- at the level of data -/
def minOk (ds : List D) : Prop := ds ≠ [] ∧ (∀ a ∈ ds, ∀ b ∈ ds, PySem.W.alike (toPy a) (toPy b) = true) ∧ (∀ a ∈ ds, toPy a ≠ .none) ∧ PyData.depthAll (toPys ds) ≤ 40
def minOR : RND
  | [.lst ds], P => minOk ds ∧ ∀ e ∈ ds, (∀ y ∈ ds, ltD y e = false) → P e
  | [.rol ds], P => minOk ds ∧ ∀ e ∈ ds, (∀ y ∈ ds, ltD y e = false) → P e
  | [.tup ds], P => minOk ds ∧ ∀ e ∈ ds, (∀ y ∈ ds, ltD y e = false) → P e
  | _, _ => False
section
variable {ds : List D} {P : D → Prop} {PL : List D → Prop}
theorem ev_minOl : minOR [.lst ds] P = (minOk ds ∧ ∀ e ∈ ds, (∀ y ∈ ds, ltD y e = false) → P e) := rfl
theorem ev_minOr : minOR [.rol ds] P = (minOk ds ∧ ∀ e ∈ ds, (∀ y ∈ ds, ltD y e = false) → P e) := rfl
theorem ev_minOt : minOR [.tup ds] P = (minOk ds ∧ ∀ e ∈ ds, (∀ y ∈ ds, ltD y e = false) → P e) := rfl
theorem ev_sortOl : sortOR [.lst ds] PL = (sortOk ds ∧ PL (ds.mergeSort leD)) := rfl
theorem ev_sortOr : sortOR [.rol ds] PL = (sortOk ds ∧ PL (ds.mergeSort leD)) := rfl
end
end Dl
/-! Dl: x in l, x not in l, for data of any depth in a list. -/
namespace Dl
open PySem L2 PySem.Spec PyProof.Rows
def inP (x : D) (xs : List D) : Bool := xs.any fun y => eqP y x
def inDR (neg : Bool) : R2D
  | x, .lst ds, P => (shP x = true ∧ shP (.lst ds) = true) ∧ P (.bl (if neg then !inP x ds else inP x ds))
  | x, .rol ds, P => (shP x = true ∧ shP (.lst ds) = true) ∧ P (.bl (if neg then !inP x ds else inP x ds))
  | _, _, _ => False
theorem ev_inDl {neg : Bool} {d : D} {ds : List D} {P : D → Prop} : inDR neg d (.lst ds) P = ((shP d = true ∧ shP (.lst ds) = true) ∧ P (.bl (if neg then !inP d ds else inP d ds))) := rfl
theorem ev_inDr {neg : Bool} {d : D} {ds : List D} {P : D → Prop} : inDR neg d (.rol ds) P = ((shP d = true ∧ shP (.lst ds) = true) ∧ P (.bl (if neg then !inP d ds else inP d ds))) := rfl
end Dl
/-! Dl: the intake queue. The stamps accepted so far, in order; the watermarks; what is processed. -/
namespace Dl
open PySem L2
abbrev St3 := Int × Int × Int
/-! a sorted list cut by a downward closed mark -/
/-! the accepted stamps -/
structure VA (k : Nat) (A : List St3) : Prop where
  day : ∀ s ∈ A, 0 ≤ s.1
  off : ∀ s ∈ A, 0 ≤ s.2.1 ∧ s.2.1 < (k : Int)
  num : ∀ s ∈ A, 1 ≤ s.2.2
  key : ∀ s ∈ A, ∀ t ∈ A, s.2.1 = t.2.1 → s.2.2 = t.2.2 → s = t
  mono : ∀ s ∈ A, ∀ t ∈ A, s.2.1 = t.2.1 → s.2.2 < t.2.2 → s.1 ≤ t.1
  nodup : A.Nodup
theorem VA.nil {k : Nat} : VA k [] := ⟨nofun, nofun, nofun, nofun, nofun, .nil⟩
theorem VA.sub {k : Nat} {A B : List St3} (h : VA k A) (hs : ∀ s ∈ B, s ∈ A) (hn : B.Nodup) : VA k B := ⟨fun s q => h.day s (hs s q), fun s q => h.off s (hs s q), fun s q => h.num s (hs s q), fun s q t p => h.key s (hs s q) t (hs t p), fun s q t p => h.mono s (hs s q) t (hs t p), hn⟩
/-! the numbers without a hole, taken one behind another -/
/-! the least stamps that may still come; what is ready -/
/-! the queue -/
/-! the reasons -/
end Dl
/-! Dl: packings. -/
namespace Dl
open PySem L2
/-- a member of a packing -/
abbrev Pk := List Nat × Option Int
def pkOk (m : Nat) (p : Pk) : Prop := Fs p.1 ∧ p.1.length = m
def totP (ps : List Pk) : Option Int := (ps.map (·.2)).foldl plusO (some 0)
def smW (a b : Option Int) : Option Int := if lsO b a then b else a
theorem plusO_S80 (a b : Option Int) : plusO a b = pluS a b := by rcases a with _ | a <;> rcases b with _ | b <;> rfl
/-- weights above 0 -/
def posW (o : Option Int) : Prop := ∀ x, o = some x → 0 < x
end Dl
/-! Dl: grounds, and the packing of a cause. -/
namespace Dl
open PySem L2
/-! the grounds, in order -/
/-! numbers of grounds -/
/-! packings merged, whatever the parts make together -/
/-- at most -/
def leW (a b : Option Int) : Prop := lsO b a = false
theorem leW_refl (a : Option Int) : leW a a := by
  rcases a with _ | x
  · rfl
  · exact decide_eq_false (by omega)
theorem leW_none (a : Option Int) : leW a none := rfl
theorem leW_some {x y : Int} : leW (some x) (some y) ↔ x ≤ y := by
  show decide (y < x) = false ↔ _
  rw [decide_eq_false_iff_not]
  omega
theorem leW_no {y : Int} : ¬ leW none (some y) := fun h => by cases h
theorem leW_trans {a b c : Option Int} (h : leW a b) (g : leW b c) : leW a c := by
  rcases c with _ | z
  · rfl
  · rcases b with _ | y
    · exact absurd g leW_no
    · rcases a with _ | x
      · exact absurd h leW_no
      · rw [leW_some] at *
        omega
theorem leW_plu {a b c d : Option Int} (h : leW a b) (g : leW c d) : leW (pluS a c) (pluS b d) := by
  rcases b with _ | y
  · exact leW_none _
  rcases d with _ | w
  · exact leW_none _
  rcases a with _ | x
  · exact absurd h leW_no
  rcases c with _ | z
  · exact absurd g leW_no
  rw [leW_some] at h g
  exact leW_some.mpr (by omega)
def nnW (o : Option Int) : Prop := leW (some 0) o
theorem posW.nn {o : Option Int} (h : posW o) : nnW o := by
  rcases o with _ | x
  · exact leW_none _
  · exact leW_some.mpr (Int.le_of_lt (h x rfl))
end Dl
/-! Dl: the packing of a cause by the rules. -/
namespace Dl
open PySem L2
/-! texts in lists of texts -/
end Dl
/-! Dl: a store of lists that change: made, read, written, behind pointers. -/
namespace Dl
open PySem L2 PySem.Spec PyProof.Rows
def stp (T : Sto) (a : Addr) (nd : Nd) : Sto := fun b => if b = a then some nd else T b
theorem stp_same {T : Sto} {a : Addr} {nd : Nd} : stp T a nd a = some nd := by unfold stp; rw [if_pos rfl]
theorem stp_ne {T : Sto} {a b : Addr} {nd : Nd} (h : b ≠ a) : stp T a nd b = T b := by unfold stp; rw [if_neg h]
section
variable {K : PySem.W.Frag} {c : Ct} {F H : Hp} {σ : L2.St} {δ : DS}
theorem LenOk.sto (L : LenOk σ δ) {i : Nat} {T0 T : Sto} : LenOk σ (δ.set i (.sto T)) :=
  ⟨by rw [List.length_set]; exact L.le, fun j s hj h => by
    rcases getset h with ⟨_, e⟩ | ⟨_, h⟩
    · exact ⟨_, e⟩
    · exact L.hid j s hj h⟩
end
/-! ### a pointer looked behind -/
def kObj (Q : Vw → DS → Prop) : Vw → DS → Prop := fun w δ => match w with
  | .val (.ptr a) => Q (.obj a) δ
  | _ => False
def rObj (r : DV) : DV := fun δ Q => r δ (kObj Q)
/-- a new list, a pointer to it -/
def newD (T : Sto) (ds : List D) (δ : DS) (Q : Vw → DS → Prop) : Prop := ∀ p, T p = none → Q (.val (.ptr p)) (stSet δ (stp T p (.lst ds)))
def selNew (o : Option Sto) (ds : List D) (δ : DS) {Q : Vw → DS → Prop} (_ : BoxV Q) : Prop := match o with
  | some T => newD T ds δ Q
  | none => False
def kNew (Q : Vw → DS → Prop) : List D → DS → Prop := fun ds δ => selNew (stoOf δ) ds δ (BoxV.mk : BoxV Q)
def rNew (r : DF) : DV := fun δ Q => r δ (kNew Q)
/-- x[k] = e behind a pointer -/
def stoGo (E : DE) (T : Sto) (a : Addr) (k : Int) (d : D) (δ : DS) : Prop := ∃ ds j, T a = some (.lst ds) ∧ ixN ds.length k = some j ∧ E.nx (stSet δ (stp T a (.lst (ds.set j d))))
inductive BoxS0 (E : DE) : Type where
  | mk
def selSetS (o : Option Sto) (a : Addr) (k : Int) (d : D) (δ : DS) {E : DE} (_ : BoxS0 E) : Prop := match o with
  | some T => stoGo E T a k d δ
  | none => False
def kSetS3 (E : DE) (d : D) (a : Addr) : Vw → DS → Prop := fun w δ => match w with
  | .val (.int k) => selSetS (stoOf δ) a k d δ (BoxS0.mk : BoxS0 E)
  | _ => False
def kSetS2 (ri : DV) (E : DE) (d : D) : Vw → DS → Prop := fun w δ => match w with
  | .val (.ptr a) => ri δ (kSetS3 E d a)
  | _ => False
def kSetS1 (rx ri : DV) (E : DE) : Vw → DS → Prop := fun w δ => match w with
  | .val d => rx δ (kSetS2 ri E d)
  | _ => False
def sSetS (rv rx ri : DV) : DSt := fun E δ => rv δ (kSetS1 rx ri E)
/-- x.append(e) behind a pointer -/
def appGo (E : DE) (T : Sto) (a : Addr) (d : D) (δ : DS) : Prop := ∃ ds, T a = some (.lst ds) ∧ ds.length < 16777216 ∧ E.nx (stSet δ (stp T a (.lst (ds ++ [d]))))
def selAppS (o : Option Sto) (a : Addr) (d : D) (δ : DS) {E : DE} (_ : BoxS0 E) : Prop := match o with
  | some T => appGo E T a d δ
  | none => False
def kAppS2 (E : DE) (a : Addr) : Vw → DS → Prop := fun w δ => match w with
  | .val d => selAppS (stoOf δ) a d δ (BoxS0.mk : BoxS0 E)
  | _ => False
def isLstN : Option Nd → Prop
  | some (.lst _) => True
  | _ => False
def kAppS1 (ra : DV) (E : DE) : Vw → DS → Prop := fun w δ => match w with
  | .val (.ptr a) => (∃ T, stoOf δ = some T ∧ isLstN (T a)) ∧ ra δ (kAppS2 E a)
  | _ => False
def sAppS (rx ra : DV) : DSt := fun E δ => rx δ (kAppS1 ra E)
section
variable {δ : DS} {Q : Vw → DS → Prop} {QF : List D → DS → Prop} {E : DE} {ra rb rc : DV} {r : DF} {d : D} {a : Addr} {k : Int} {T : Sto} {ds : List D}
theorem ev_obj : rObj ra δ Q = ra δ (kObj Q) := rfl
theorem ev_kobj : kObj Q (.val (.ptr a)) δ = Q (.obj a) δ := rfl
theorem ev_new : rNew r δ Q = r δ (kNew Q) := rfl
theorem ev_knew : kNew Q ds δ = selNew (stoOf δ) ds δ (BoxV.mk : BoxV Q) := rfl
theorem ev_selNew {z : BoxV Q} : selNew (some T) ds δ z = newD T ds δ Q := rfl
theorem ev_setS : sSetS ra rb rc E δ = ra δ (kSetS1 rb rc E) := rfl
theorem ev_kset1S : kSetS1 rb rc E (.val d) δ = rb δ (kSetS2 rc E d) := rfl
theorem ev_kset2S : kSetS2 rc E d (.val (.ptr a)) δ = rc δ (kSetS3 E d a) := rfl
theorem ev_kset3S : kSetS3 E d a (.val (.int k)) δ = selSetS (stoOf δ) a k d δ (BoxS0.mk : BoxS0 E) := rfl
theorem ev_selSetS {z : BoxS0 E} : selSetS (some T) a k d δ z = stoGo E T a k d δ := rfl
theorem ev_appS : sAppS rb ra E δ = rb δ (kAppS1 ra E) := rfl
theorem ev_kapp1S : kAppS1 ra E (.val (.ptr a)) δ = ((∃ T, stoOf δ = some T ∧ isLstN (T a)) ∧ ra δ (kAppS2 E a)) := rfl
theorem ev_kapp2S : kAppS2 E a (.val d) δ = selAppS (stoOf δ) a d δ (BoxS0.mk : BoxS0 E) := rfl
theorem ev_selAppS {z : BoxS0 E} : selAppS (some T) a d δ z = appGo E T a d δ := rfl
theorem ev_vobj : vget δ (.obj a) = (stoOf δ).bind fun T => ndD (T a) := rfl
theorem ev_ndl : ndD (some (.lst ds)) = some (.lst ds) := rfl
theorem ev_so1 : stoOf [.sto T] = some T := rfl
theorem ev_so2 {s : List Sl} : stoOf (.no :: s) = stoOf s := rfl
theorem ev_so3 {s : List Sl} : stoOf (.frz d :: s) = stoOf s := rfl
theorem ev_so4 {s : List Sl} {io : Bool} {x : Cn} : stoOf (.own io x :: s) = stoOf s := rfl
theorem ev_ss1 {s : List Sl} {T' : Sto} : stSet (.sto T' :: s) T = .sto T :: s := rfl
theorem ev_ss2 {s : List Sl} : stSet (.no :: s) T = .no :: stSet s T := rfl
theorem ev_ss3 {s : List Sl} : stSet (.frz d :: s) T = .frz d :: stSet s T := rfl
theorem ev_ss4 {s : List Sl} {io : Bool} {x : Cn} : stSet (.own io x :: s) T = .own io x :: stSet s T := rfl
theorem ev_bind {f : Sto → Option D} : (some T).bind f = f T := rfl
end
/-! ### a def whose lists stay within it -/
section
variable {P : Program} {w : World} {mg : Str → Option Value} {K : PySem.W.Frag} {base : Heap}
def sto0 : DS := [.sto fun _ => none]
end
end Dl
/-! Dl: grounds taken one behind another, each as far as the capacities go. -/
namespace Dl
open PySem L2
section
variable {X Y Z α β γ : Type}
def under (v : Int) (o : Option Int) : Prop := 0 ≤ v ∧ ∀ u, o = some u → v ≤ u
variable {m : X → α → Option Int} {s : X → α → Int → α} {I : α → Prop} {ok : X → Prop} {m2 : Y → β → Option Int} {s2 : Y → β → Int → β} {J : β → Prop} {ok2 : Y → Prop}
/-! side by side -/
end
/-! one against another -/
theorem smW_none {a : Option Int} : smW a none = a := by cases a <;> rfl
theorem none_smW {a : Option Int} : smW none a = a := by cases a <;> rfl
section
variable {α β γ : Type} {m : List Nat → α → Option Int} {s : List Nat → α → Int → α} {I : α → Prop} {ok : List Nat → Prop} {m2 : List Nat → β → Option Int} {s2 : List Nat → β → Int → β} {J : β → Prop} {ok2 : List Nat → Prop}
  {mP : List Nat → γ → Option Int} {sP : List Nat → γ → Int → γ} {g : α → β → γ} {f : List Nat → List Nat → List Nat}
theorem smW_two {a b : Option Int} (h : smW a b = none) : a = none ∧ b = none := by
  rcases a with _ | x
  · rw [none_smW] at h
    exact ⟨rfl, h⟩
  · rcases b with _ | y
    · rw [smW_none] at h
      cases h
    · unfold smW at h
      split at h <;> cases h
end
/-! ### the capacities of a cause's issues -/
def elC (p : Pr) (r : Nat) (c : Pr) : Option Int := if r = 63 then none else if reqC p r = some 0 then reqC c r else some 0
def sbC (r : Nat) (w : Int) (c : Pr) : Pr := if r = 63 then c else if r = 48 then (c.1, c.2.map (· - w)) else (c.1.map (· - w), c.2)
def mL : List Pr → List Nat → List Pr → Option Int
  | p :: ps, r :: rs, c :: cs => smW (elC p r c) (mL ps rs cs)
  | _, _, _ => none
def sL (w : Int) : List Nat → List Pr → List Pr
  | r :: rs, c :: cs => sbC r w c :: sL w rs cs
  | _, cs => cs
def nn2 (c : Pr) : Prop := (∀ u, c.1 = some u → 0 ≤ u) ∧ ∀ u, c.2 = some u → 0 ≤ u
theorem map_sub0 (o : Option Int) : o.map (· - 0) = o := by
  cases o with
  | none => rfl
  | some x => show some (x - 0) = some x; rw [Int.sub_zero]
theorem sb_0 (r : Nat) (c : Pr) : sbC r 0 c = c := by
  unfold sbC
  split
  · rfl
  · split
    · rw [map_sub0]
    · rw [map_sub0]
theorem sm_under {a b : Option Int} {v : Int} (h : under v (smW a b)) : under v a ∧ under v b := by
  refine ⟨⟨h.1, fun u hu => ?_⟩, ⟨h.1, fun u hu => ?_⟩⟩
  · subst hu
    rcases b with _ | y
    · exact h.2 u smW_none
    · by_cases q : y < u
      · have := h.2 y (by unfold smW; rw [if_pos (show lsO (some y) (some u) = true from decide_eq_true q)])
        omega
      · exact h.2 u (by unfold smW; rw [if_neg (show ¬ lsO (some y) (some u) = true from fun z => q (of_decide_eq_true z))])
  · subst hu
    rcases a with _ | x
    · exact h.2 u none_smW
    · by_cases q : u < x
      · exact h.2 u (by unfold smW; rw [if_pos (show lsO (some u) (some x) = true from decide_eq_true q)])
      · have := h.2 x (by unfold smW; rw [if_neg (show ¬ lsO (some u) (some x) = true from fun z => q (of_decide_eq_true z))])
        omega
/-- what is not free holds nothing -/
theorem el_under {p : Pr} {r : Nat} {c : Pr} {v : Int} (h : under v (elC p r c)) (hr : r ≠ 63) : (reqC p r = some 0 ∧ under v (reqC c r)) ∨ v = 0 := by
  unfold elC at h
  rw [if_neg hr] at h
  by_cases g : reqC p r = some 0
  · rw [if_pos g] at h
    exact Or.inl ⟨g, h⟩
  · rw [if_neg g] at h
    have h1 := h.1
    have h2 := h.2 0 rfl
    exact Or.inr (by omega)
theorem sb_nn {p : Pr} {r : Nat} {c : Pr} {v : Int} (h : nn2 c) (u : under v (elC p r c)) : nn2 (sbC r v c) := by
  by_cases hr : r = 63
  · unfold sbC
    rw [if_pos hr]
    exact h
  · rcases el_under u hr with ⟨_, u⟩ | rfl
    · unfold sbC
      rw [if_neg hr]
      unfold reqC at u
      rw [if_neg hr] at u
      by_cases g : r = 48
      · rw [if_pos g] at u ⊢
        refine ⟨h.1, fun w hw => ?_⟩
        obtain ⟨y, hy, rfl⟩ := Option.map_eq_some_iff.mp hw
        have := u.2 y hy
        omega
      · rw [if_neg g] at u ⊢
        refine ⟨fun w hw => ?_, h.2⟩
        obtain ⟨y, hy, rfl⟩ := Option.map_eq_some_iff.mp hw
        have := u.2 y hy
        omega
    · rw [sb_0]
      exact h
theorem sL_len : ∀ (w : Int) (x : List Nat) (c : List Pr), (sL w x c).length = c.length
  | w, [], c => rfl
  | w, r :: rs, [] => rfl
  | w, r :: rs, c :: cs => by rw [sL, List.length_cons, List.length_cons, sL_len w rs cs]
theorem sL_nn {v : Int} : ∀ (ps : List Pr) (x : List Nat) (c : List Pr), x.length = ps.length → c.length = ps.length → (∀ q ∈ c, nn2 q) → under v (mL ps x c) → ∀ q ∈ sL v x c, nn2 q
  | p :: ps, r :: rs, c :: cs, h1, h2, h, u => by
    rw [mL] at u
    obtain ⟨u1, u2⟩ := sm_under u
    rw [sL]
    intro q hq
    rcases List.mem_cons.mp hq with rfl | hq
    · exact sb_nn (h c List.mem_cons_self) u1
    · exact sL_nn ps rs cs (Nat.succ.inj h1) (Nat.succ.inj h2) (fun q hq => h q (List.mem_cons_of_mem _ hq)) u2 q hq
  | [], [], c, _, _, h, _ => h
  | p :: ps, r :: rs, [], _, _, h, _ => h
  | [], _ :: _, _, h1, _, _, _ => by simp at h1
  | _ :: _, [], _, h1, _, _, _ => by simp at h1
/-- the capacities at first -/
def cap0 (p : Pr) : Pr := (p.2, p.1)
end Dl
/-! Dl: what is left of the capacities, lists of two behind pointers. -/
namespace Dl
open PySem L2
abbrev prN : Pr := (none, none)
structure Lft (T : Sto) (a : Addr) (bs : List Addr) (c : List Pr) : Prop where
  hd : T a = some (.lst (bs.map D.ptr))
  len : bs.length = c.length
  nd : bs.Nodup
  ni : a ∉ bs
  nod : ∀ (k : Nat) (b : Addr) (q : Pr), bs[k]? = some b → c[k]? = some q → T b = some (.lst [cD q.1, cD q.2])
theorem Lft.at {T : Sto} {a : Addr} {bs : List Addr} {c : List Pr} (L : Lft T a bs c) {k : Nat} (hk : k < c.length) : ∃ b, atI (bs.map D.ptr) (k : Int) = some (.ptr b) ∧ bs[k]? = some b ∧ T b = some (.lst [cD (c.getD k prN).1, cD (c.getD k prN).2]) := by
  have hk2 : k < bs.length := by rw [L.len]; exact hk
  refine ⟨bs[k], ?_, List.getElem?_eq_getElem hk2, L.nod k _ _ (List.getElem?_eq_getElem hk2) ?_⟩
  · rw [atI_map, atI_at hk2]
    rfl
  · rw [List.getD_eq_getElem?_getD, List.getElem?_eq_getElem hk]
    rfl
theorem Lft.put {T : Sto} {a b : Addr} {bs : List Addr} {c : List Pr} {q : Pr} (L : Lft T a bs c) {k : Nat} (hb : bs[k]? = some b) : Lft (stp T b (.lst [cD q.1, cD q.2])) a bs (c.set k q) := by
  have mb : b ∈ bs := List.mem_of_getElem? hb
  have hk : k < bs.length := (List.getElem?_eq_some_iff.mp hb).1
  refine ⟨by rw [stp_ne fun e => L.ni (by rw [e]; exact mb)]; exact L.hd, by rw [List.length_set]; exact L.len, L.nd, L.ni, fun j b' q' h1 h2 => ?_⟩
  rcases getset h2 with ⟨rfl, rfl⟩ | ⟨n, h2⟩
  · rw [hb] at h1
    cases h1
    exact stp_same
  · rw [stp_ne fun e => n ?_]
    · exact L.nod j b' q' h1 h2
    · subst e
      have hj := (List.getElem?_eq_some_iff.mp h1).1
      have e1 := (List.getElem?_eq_some_iff.mp h1).2
      have e2 := (List.getElem?_eq_some_iff.mp hb).2
      have nd := List.pairwise_iff_getElem.mp L.nd
      rcases Nat.lt_trichotomy j k with g | g | g
      · exact absurd (e1.trans e2.symm) (nd j k hj hk g)
      · exact g
      · exact absurd (e2.trans e1.symm) (nd k j hk hj g)
/-- made one behind another -/
structure Mk (T : Sto) (bs : List Addr) (c : List Pr) : Prop where
  len : bs.length = c.length
  nd : bs.Nodup
  nod : ∀ (k : Nat) (b : Addr) (q : Pr), bs[k]? = some b → c[k]? = some q → T b = some (.lst [cD q.1, cD q.2])
  is : ∀ b ∈ bs, T b ≠ none
theorem Mk.nil {T : Sto} : Mk T [] [] := ⟨rfl, .nil, fun k b q h => by simp at h, fun b h => by cases h⟩
/-! signs -/
def sF (w : Int) (x : List Nat) (c : List Pr) (k : Nat) : List Pr := c.set k (sbC (x.getD k 63) w (c.getD k prN))
end Dl
/-! Dl: whoever packs: no packing weighs more than an assignment of the other side costs. -/
namespace Dl
open PySem L2
def Cfl (x y : List Nat) : Prop := ∃ k : Nat, (x[k]? = some 49 ∧ y[k]? = some 48) ∨ (x[k]? = some 48 ∧ y[k]? = some 49)
theorem cfl_join : ∀ {x y : List Nat}, Fs x → Fs y → x.length = y.length → ¬ Cfl x y → ∃ r, Cmp x r ∧ Cmp y r
  | [], [], _, _, _, _ => ⟨[], rfl, rfl⟩
  | a :: x, b :: y, fx, fy, h, n => by
    obtain ⟨r, r1, r2⟩ := cfl_join (x := x) (y := y) (fun c hc => fx c (List.mem_cons_of_mem _ hc)) (fun c hc => fy c (List.mem_cons_of_mem _ hc)) (Nat.succ.inj h) fun ⟨k, hk⟩ => n ⟨k + 1, hk⟩
    have n0 : ¬ (a = 49 ∧ b = 48) ∧ ¬ (a = 48 ∧ b = 49) := ⟨fun q => n ⟨0, .inl ⟨by rw [q.1]; rfl, by rw [q.2]; rfl⟩⟩, fun q => n ⟨0, .inr ⟨by rw [q.1]; rfl, by rw [q.2]; rfl⟩⟩⟩
    have ha := fx a List.mem_cons_self
    have hb := fy b List.mem_cons_self
    have go : ∀ v, (v = 48 ∨ v = 49) → (a = v ∨ a = 63) → (b = v ∨ b = 63) → ∃ r, Cmp (a :: x) r ∧ Cmp (b :: y) r := fun v hv h1 h2 => ⟨v :: r, ⟨v, r, rfl, h1.imp id fun q => ⟨q, hv⟩, hv, r1⟩, ⟨v, r, rfl, h2.imp id fun q => ⟨q, hv⟩, hv, r2⟩⟩
    rcases ha with rfl | rfl | rfl
    · exact go 48 (.inl rfl) (.inl rfl) (by omega)
    · exact go 49 (.inr rfl) (.inl rfl) (by omega)
    · rcases hb with rfl | rfl | rfl
      · exact go 48 (.inl rfl) (.inr rfl) (.inl rfl)
      · exact go 49 (.inr rfl) (.inr rfl) (.inl rfl)
      · exact go 48 (.inl rfl) (.inr rfl) (.inr rfl)
  | [], _ :: _, _, _, h, _ => by simp at h
  | _ :: _, [], _, _, h, _ => by simp at h
theorem cfl_of {t : Tr} {x y : List Nat} {z : Bool} (fx : Fs x) (fy : Fs y) (lx : x.length = t.n) (ly : y.length = t.n) (vx : val3 t x = some z) (vy : val3 t y = some (!z)) : Cfl x y := by
  refine Classical.byContradiction fun n => ?_
  obtain ⟨r, r1, r2⟩ := cfl_join fx fy (by omega) n
  have h1 := can_not fx lx vx r1
  have h2 := can_not fy ly vy r2
  rw [h1] at h2
  cases z <;> cases h2
def flp (r : Nat) : Nat := if r = 63 then 63 else if r = 48 then 49 else 48
/-- prices that are all free -/
def fr0 (n : Nat) : List Pr := List.replicate n (some 0, some 0)
theorem el_fr {r : Nat} {c : Pr} : elC (some 0, some 0) r c = if r = 63 then none else reqC c r := by
  unfold elC
  by_cases h : r = 63
  · rw [if_pos h, if_pos h]
  · rw [if_neg h, if_neg h, if_pos]
    unfold reqC
    rw [if_neg h]
    split <;> rfl
theorem map_le {o : Option Int} {w : Int} (h : 0 ≤ w) : leW (o.map (· - w)) o := by
  rcases o with _ | x
  · exact leW_none _
  · exact leW_some.mpr (show x - w ≤ x by omega)
theorem req_sb {r q : Nat} {w : Int} {c : Pr} (h : 0 ≤ w) : leW (reqC (sbC r w c) q) (reqC c q) := by
  unfold reqC sbC
  by_cases hq : q = 63
  · rw [if_pos hq, if_pos hq]
    exact leW_refl _
  · rw [if_neg hq, if_neg hq]
    by_cases hr : r = 63
    · rw [if_pos hr]
      exact leW_refl _
    · rw [if_neg hr]
      by_cases r48 : r = 48 <;> by_cases q48 : q = 48
      · rw [if_pos r48, if_pos q48, if_pos q48]
        exact map_le h
      · rw [if_pos r48, if_neg q48, if_neg q48]
        exact leW_refl _
      · rw [if_neg r48, if_pos q48, if_pos q48]
        exact leW_refl _
      · rw [if_neg r48, if_neg q48, if_neg q48]
        exact map_le h
theorem plu_map (o : Option Int) (w : Int) : pluS (some w) (o.map (· - w)) = o := by
  rcases o with _ | x
  · rfl
  · show some (w + (x - w)) = some x
    congr 1
    omega
theorem req_same {r : Nat} {w : Int} {c : Pr} (h : r = 48 ∨ r = 49) : reqC (sbC r w c) r = (reqC c r).map (· - w) := by
  rcases h with rfl | rfl <;> rfl
theorem pri_sb {w : Int} (h : 0 ≤ w) : ∀ (x : List Nat) (c : List Pr) (q : List Nat), leW (priL (sL w x c) q) (priL c q)
  | [], c, q => leW_refl _
  | r :: x, [], q => leW_refl _
  | r :: x, c :: cs, [] => leW_refl _
  | r :: x, c :: cs, k :: q => leW_plu (req_sb h) (pri_sb h x cs q)
theorem plu_comm (a b : Option Int) : pluS a b = pluS b a := by
  rcases a with _ | x <;> rcases b with _ | y
  · rfl
  · rfl
  · rfl
  · show some (x + y) = some (y + x)
    congr 1
    omega
/-- a step takes its weight off what the other side's assignment costs -/
theorem pri_step {w : Int} (h : 0 ≤ w) : ∀ (x y : List Nat) (c : List Pr), x.length = c.length → Cfl x y → leW (pluS (some w) (priL (sL w x c) (y.map flp))) (priL c (y.map flp))
  | r :: x, q :: y, c :: cs, hl, ⟨k, hk⟩ => by
    show leW (pluS (some w) (pluS (reqC (sbC r w c) (flp q)) (priL (sL w x cs) (y.map flp)))) (pluS (reqC c (flp q)) (priL cs (y.map flp)))
    cases k with
    | zero =>
      have e : flp q = r ∧ (r = 48 ∨ r = 49) := by
        rcases hk with ⟨h1, h2⟩ | ⟨h1, h2⟩ <;> · cases h1; cases h2; exact ⟨rfl, by omega⟩
      rw [e.1, req_same e.2, ← plu_assoc, plu_map]
      exact leW_plu (leW_refl _) (pri_sb h x cs _)
    | succ k =>
      rw [← plu_assoc, plu_comm (some w), plu_assoc]
      exact leW_plu (req_sb h) (pri_step h x y cs (Nat.succ.inj hl) ⟨k, hk⟩)
  | [], y, c, _, ⟨k, hk⟩ => by simp at hk
  | _ :: _, [], c, _, ⟨k, hk⟩ => by simp at hk
  | _ :: _, _ :: _, [], h, _ => by simp at h
theorem pri_inf : ∀ (x y : List Nat) (c : List Pr), x.length = c.length → mL (fr0 c.length) x c = none → Cfl x y → priL c (y.map flp) = none
  | r :: x, q :: y, c :: cs, hl, hm, ⟨k, hk⟩ => by
    have hm : smW (elC (some 0, some 0) r c) (mL (fr0 cs.length) x cs) = none := hm
    obtain ⟨m1, m2⟩ := smW_two hm
    show pluS (reqC c (flp q)) (priL cs (y.map flp)) = none
    cases k with
    | zero =>
      have e : flp q = r ∧ (r = 48 ∨ r = 49) := by
        rcases hk with ⟨h1, h2⟩ | ⟨h1, h2⟩ <;> · cases h1; cases h2; exact ⟨rfl, by omega⟩
      rw [el_fr, if_neg (by omega)] at m1
      rw [e.1, m1]
      rfl
    | succ k =>
      rw [pri_inf x y cs (Nat.succ.inj hl) m2 ⟨k, hk⟩, plu_comm]
      rfl
  | [], y, c, _, _, ⟨k, hk⟩ => by simp at hk
  | _ :: _, [], c, _, _, ⟨k, hk⟩ => by simp at hk
  | _ :: _, _ :: _, [], h, _, _ => by simp at h
theorem inf_at : ∀ (x : List Nat) (c : List Pr) (k : Nat), x.length = c.length → mL (fr0 c.length) x c = none → x.getD k 63 ≠ 63 → reqC (c.getD k prN) (x.getD k 63) = none
  | r :: x, c :: cs, k, hl, hm, hk => by
    have hm : smW (elC (some 0, some 0) r c) (mL (fr0 cs.length) x cs) = none := hm
    obtain ⟨m1, m2⟩ := smW_two hm
    cases k with
    | zero =>
      have hk : r ≠ 63 := hk
      rw [el_fr, if_neg hk] at m1
      exact m1
    | succ k => exact inf_at x cs k (Nat.succ.inj hl) m2 hk
  | [], c, k, _, _, hk => absurd (by cases k <;> rfl) hk
  | _ :: _, [], _, h, _, _ => by simp at h
theorem sL_at {w : Int} : ∀ (x : List Nat) (c : List Pr) (k : Nat), k < c.length → x.length = c.length → (sL w x c).getD k prN = sbC (x.getD k 63) w (c.getD k prN)
  | r :: x, c :: cs, 0, _, _ => rfl
  | r :: x, c :: cs, k + 1, h, hl => sL_at x cs k (Nat.lt_of_succ_lt_succ h) (Nat.succ.inj hl)
  | [], c :: cs, _, _, h => by simp at h
  | _, [], _, h, _ => by simp at h
def ldQ (ps : List Pk) (k c : Nat) : Option Int := totP (ps.filter fun p => decide (p.1.getD k 63 = c))
theorem totP_snoc (ps : List Pk) (p : Pk) : totP (ps ++ [p]) = pluS (totP ps) p.2 := by
  unfold totP
  rw [List.map_append, List.foldl_append, ← plusO_S80]
  rfl
theorem ldQ_snoc (ps : List Pk) (p : Pk) (k r : Nat) : ldQ (ps ++ [p]) k r = if p.1.getD k 63 = r then pluS (ldQ ps k r) p.2 else ldQ ps k r := by
  unfold ldQ
  rw [List.filter_append, List.filter_cons]
  by_cases h : p.1.getD k 63 = r
  · rw [if_pos (decide_eq_true h), if_pos h]
    exact totP_snoc _ _
  · rw [if_neg (by simpa using h), if_neg h]
    show totP (_ ++ []) = _
    rw [List.append_nil]
structure PkI (t : Tr) (cs : List Pr) (z : Bool) (ps : List Pk) (c : List Pr) : Prop where
  ok : ∀ p ∈ ps, pkOk t.n p ∧ val3 t p.1 = some z
  len : c.length = t.n
  nn : ∀ q ∈ c, nn2 q
  up : ∀ q ∈ c, (∀ x, q.1 = some x → x ≤ 100) ∧ ∀ x, q.2 = some x → x ≤ 100
  cap : ∀ k r, k < t.n → (r = 48 ∨ r = 49) → pluS (ldQ ps k r) (reqC (c.getD k prN) r) = reqC ((cs.map cap0).getD k prN) r
  dua : ∀ y, Fs y → y.length = t.n → val3 t y = some (!z) → leW (pluS (totP ps) (priL c (y.map flp))) (priL cs y)
theorem up_sL {w : Int} (h : 0 ≤ w) : ∀ (x : List Nat) (c : List Pr), (∀ q ∈ c, (∀ x, q.1 = some x → x ≤ 100) ∧ ∀ x, q.2 = some x → x ≤ 100) → ∀ q ∈ sL w x c, (∀ x, q.1 = some x → x ≤ 100) ∧ ∀ x, q.2 = some x → x ≤ 100
  | [], c, hc => hc
  | r :: x, [], hc => hc
  | r :: x, c :: cs, hc => fun q hq => by
    rw [sL] at hq
    rcases List.mem_cons.mp hq with rfl | hq
    · have h0 := hc c List.mem_cons_self
      unfold sbC
      split
      · exact h0
      · split
        · refine ⟨h0.1, fun v hv => ?_⟩
          obtain ⟨u, hu, rfl⟩ := Option.map_eq_some_iff.mp hv
          have := h0.2 u hu
          omega
        · refine ⟨fun v hv => ?_, h0.2⟩
          obtain ⟨u, hu, rfl⟩ := Option.map_eq_some_iff.mp hv
          have := h0.1 u hu
          omega
    · exact up_sL h x cs (fun q hq => hc q (List.mem_cons_of_mem _ hq)) q hq
/-- a weight of at most what is left -/
theorem PkI.some {t : Tr} {cs c : List Pr} {z : Bool} {ps : List Pk} {x : List Nat} {w : Int} (I : PkI t cs z ps c) (fx : Fs x) (lx : x.length = t.n) (vx : val3 t x = some z) (u : under w (mL (fr0 c.length) x c)) : PkI t cs z (ps ++ [(x, .some w)]) (sL w x c) := by
  have hl : x.length = c.length := by rw [lx, I.len]
  have l0 : (fr0 c.length).length = c.length := List.length_replicate
  refine ⟨fun p hp => ?_, by rw [sL_len]; exact I.len, sL_nn (fr0 c.length) x c (by rw [l0]; exact hl) l0.symm I.nn u, up_sL u.1 x c I.up, fun k r hk hr => ?_, fun y fy ly vy => ?_⟩
  · rcases List.mem_append.mp hp with hp | hp
    · exact I.ok p hp
    · rw [List.mem_singleton.mp hp]
      exact ⟨⟨fx, lx⟩, vx⟩
  · rw [ldQ_snoc, sL_at x c k (by rw [I.len]; exact hk) hl, ← I.cap k r hk hr]
    by_cases e : x.getD k 63 = r
    · rw [if_pos e, e, req_same hr, plu_assoc, plu_map]
    · rw [if_neg e]
      congr 1
      have hx := fx (x.getD k 63) (by
        rw [List.getD_eq_getElem?_getD, List.getElem?_eq_getElem (by rw [lx]; exact hk)]
        exact List.getElem_mem _)
      generalize x.getD k 63 = q at *
      generalize c.getD k prN = d at *
      rcases hx with rfl | rfl | rfl <;> rcases hr with rfl | rfl <;> first | rfl | exact absurd rfl e
  · rw [totP_snoc, plu_assoc]
    exact leW_trans (leW_plu (leW_refl _) (pri_step u.1 x y c hl (cfl_of fx fy lx ly vx vy))) (I.dua y fy ly vy)
/-- without an end -/
theorem PkI.none {t : Tr} {cs c : List Pr} {z : Bool} {ps : List Pk} {x : List Nat} (I : PkI t cs z ps c) (fx : Fs x) (lx : x.length = t.n) (vx : val3 t x = .some z) (h : mL (fr0 c.length) x c = .none) : PkI t cs z (ps ++ [(x, .none)]) c := by
  have hl : x.length = c.length := by rw [lx, I.len]
  refine ⟨fun p hp => ?_, I.len, I.nn, I.up, fun k r hk hr => ?_, fun y fy ly vy => ?_⟩
  · rcases List.mem_append.mp hp with hp | hp
    · exact I.ok p hp
    · rw [List.mem_singleton.mp hp]
      exact ⟨⟨fx, lx⟩, vx⟩
  · rw [ldQ_snoc, ← I.cap k r hk hr]
    by_cases e : x.getD k 63 = r
    · rw [if_pos e, ← e, inf_at x c k hl h (by omega), plu_comm, plu_comm (ldQ ps k _)]
      rfl
    · rw [if_neg e]
  · have e := I.dua y fy ly vy
    rw [pri_inf x y c hl h (cfl_of fx fy lx ly vx vy)] at e ⊢
    rw [plu_comm] at e ⊢
    exact e
theorem pri_nn : ∀ (c : List Pr) (q : List Nat), (∀ p ∈ c, nn2 p) → leW (some 0) (priL c q)
  | [], q, _ => by cases q <;> exact leW_refl _
  | p :: c, [], _ => leW_refl _
  | p :: c, r :: q, h => by
    have h1 : leW (some 0) (reqC p r) := by
      unfold reqC
      split
      · exact leW_refl _
      · split
        · rcases e : p.2 with _ | x
          · exact leW_none _
          · exact leW_some.mpr ((h p List.mem_cons_self).2 x e)
        · rcases e : p.1 with _ | x
          · exact leW_none _
          · exact leW_some.mpr ((h p List.mem_cons_self).1 x e)
    have h2 := leW_plu h1 (pri_nn c q fun p hp => h p (List.mem_cons_of_mem _ hp))
    rw [plu_zero] at h2
    exact h2
theorem le_plu {a b : Option Int} (h : leW (some 0) b) : leW a (pluS a b) := by
  have := leW_plu (leW_refl a) h
  rwa [plu_zero] at this
theorem PkI.le {t : Tr} {cs c : List Pr} {z : Bool} {ps : List Pk} (I : PkI t cs z ps c) {y : List Nat} (fy : Fs y) (ly : y.length = t.n) (vy : val3 t y = .some (!z)) : leW (totP ps) (priL cs y) :=
  leW_trans (le_plu (pri_nn _ _ I.nn)) (I.dua y fy ly vy)
end Dl
/-! Dl: a def with one keyword-only parameter whose default is None. -/
namespace Dl
open PySem L2 PySem.Spec PyProof.Rows
/-- arguments, others behind them -/
def kAp2 (m : Nat) (ws : List Vw) (Q : List Vw → DS → Prop) : List Vw → DS → Prop := fun zs δ => zs.length = m ∧ Q (ws ++ zs) δ
def kAp1 (n m : Nat) (rk : DA) (Q : List Vw → DS → Prop) : List Vw → DS → Prop := fun ws δ => ws.length = n ∧ rk δ (kAp2 m ws Q)
def rApA (n m : Nat) (rs rk : DA) : DA := fun δ Q => rs δ (kAp1 n m rk Q)
section
variable {δ : DS} {QA : List Vw → DS → Prop} {rs rk : DA} {n m : Nat} {ws zs : List Vw}
theorem ev_apA : rApA n m rs rk δ QA = rs δ (kAp1 n m rk QA) := rfl
theorem ev_kap1 : kAp1 n m rk QA ws δ = (ws.length = n ∧ rk δ (kAp2 m ws QA)) := rfl
theorem ev_kap2 : kAp2 m ws QA zs δ = (zs.length = m ∧ QA (ws ++ zs) δ) := rfl
end
end Dl
/-! Dl: configurations and cases as data. -/
namespace Dl
open PySem L2
/-- a configuration -/
structure Cf where
  ru : Ru
  lim : Int
  rate : Int
  cs : List C2
  ts : List Tr
  ju : D
def Cf.d (c : Cf) : D := .tup [c.ru.d, .int c.lim, .int c.rate, .tup (c.cs.map c2D), .tup (c.ts.map Tr.d), c.ju]
/-- an issue's kind: of law, the majority -/
def Tr.inf : Tr → List (Bool × Int)
  | .leaf _ b m => [(b, m)]
  | .node _ a b => a.inf ++ b.inf
structure CfOk (c : Cf) : Prop where
  ru : c.ru.ok
  cs : ∀ x ∈ c.cs, x.2.ok
  cd : ∀ x ∈ c.cs, 1 ≤ x.2.d ∧ x.2.d ≤ 60
  cl : c.cs.length ≤ 9
  ts : ∀ t ∈ c.ts, t.ok ∧ t.h ≤ 8 ∧ t.n ≤ 8
  tl : c.ts.length ≤ 9
  mj : ∀ t ∈ c.ts, ∀ x ∈ t.inf, 0 ≤ x.2 ∧ x.2 < 3
  hi : Hier (c.cs.map ctl)
  c1 : 1 ≤ c.cs.length
  t1 : 1 ≤ c.ts.length
/-- an issue's state: the finding, barred, the binding finding, by default -/
structure Iu where
  f : Nat
  b : Bool
  p : Option (Int × Bool)
  e : Bool
def Iu.d (s : Iu) : D := .tup [.str (sgS s.f), .bl s.b, pD s.p, .bl s.e]
/-- a claim -/
structure Kl where
  k : Nat
  a : Int
  acc : D
  us : List Iu
def Kl.d (c : Kl) : D := .tup [.int (c.k : Int), .int c.a, c.acc, .tup (c.us.map Iu.d)]
def Kl.fs (c : Kl) : List Nat := c.us.map (·.f)
abbrev PrN := Nat × Nat
def pnD (p : PrN) : D := .tup [.int (p.1 : Int), .int (p.2 : Int)]
def psD (o : Option (List PrN)) : D := match o with
  | none => .non
  | some l => .tup (l.map pnD)
/-- the stage of a case -/
inductive Stg where
  | del (ps : List PrN)
  | jud (j : Int) (a0 a1 : List At) (n0 n1 : Option (List PrN)) (f : Option Int)
def Stg.d : Stg → D
  | .del ps => .tup [.str (Str.ofString "deliberating"), .tup (ps.map pnD)]
  | .jud j a0 a1 n0 n1 f => .tup [.str (Str.ofString "judged"), .int j, .tup [.tup (a0.map atD), .tup (a1.map atD)], .tup [psD n0, psD n1], oD f]
/-- a case -/
structure Ks where
  h0 : D
  h1 : D
  h2 : D
  h3 : D
  h4 : D
  ch : List Nat
  h6 : D
  h7 : D
  ss : List Sy
  h9 : D
  h10 : D
  cls : List Kl
  lv : Nat
  sg : Stg
def Ks.d (c : Ks) : D := .tup [c.h0, c.h1, c.h2, c.h3, c.h4, .tup (c.ch.map nI), c.h6, c.h7, .tup (c.ss.map stD), c.h9, c.h10, .tup (c.cls.map Kl.d), .int (c.lv : Int), c.sg.d]
structure KlOk (cf : Cf) (c : Kl) : Prop where
  k : c.k < cf.ts.length
  us : ∀ t, cf.ts[c.k]? = some t → c.us.length = t.n
  fs : Fs c.fs
def StgOk : Stg → Prop
  | .del _ => True
  | .jud j a0 a1 _ _ f => 0 ≤ j ∧ (∀ a ∈ a0, okAt a) ∧ (∀ a ∈ a1, okAt a) ∧ a0.length ≤ 9 ∧ a1.length ≤ 9 ∧ ∀ x, f = some x → 0 ≤ x ∧ x ≤ 400
def Cf.won (cf : Cf) (k : Kl) : Option Bool := match cf.ts[k.k]? with
  | some t => val3 t k.fs
  | none => none
/-- a binding finding fits, while it stands above -/
def BiOk (lv : Nat) (u : Iu) : Prop := ∀ (x : Int) (b : Bool), u.p = some (x, b) → (lv : Int) < x → u.f ≠ 63 → b = decide (u.f = 49)
/-- a court has something to deliberate about -/
def DlOk (cf : Cf) (cls : List Kl) : Stg → Prop
  | .jud .. => True
  | .del [] => ∃ k ∈ cls, cf.won k = none
  | .del (p :: ps) => ∀ q ∈ p :: ps, ∃ (k : Kl) (u : Iu), cls[q.1]? = some k ∧ k.us[q.2]? = some u ∧ u.f ≠ 63
structure KsOk (cf : Cf) (c : Ks) : Prop where
  ch : ∀ k ∈ c.ch, k < cf.cs.length
  cl : c.ch.length ≤ 9
  lv : c.lv < c.ch.length
  ss : ∀ s ∈ c.ss, okSy s
  sl : c.ss.length ≤ 9
  cls : ∀ k ∈ c.cls, KlOk cf k
  ll : c.cls.length ≤ 9
  l1 : 1 ≤ c.cls.length
  sg : StgOk c.sg
  nb : ∃ n : Int, c.h0 = .int n
  bi : ∀ k ∈ c.cls, ∀ u ∈ k.us, BiOk c.lv u
  dl : DlOk cf c.cls c.sg
theorem atI_c9 {α : Type} {x0 x1 x2 x3 x4 x5 x6 x7 x8 x9 : α} {xs : List α} : atI (x0 :: x1 :: x2 :: x3 :: x4 :: x5 :: x6 :: x7 :: x8 :: x9 :: xs) 9 = some x9 := atI_nat (j := 9) rfl
theorem atI_c10 {α : Type} {x0 x1 x2 x3 x4 x5 x6 x7 x8 x9 x10 : α} {xs : List α} : atI (x0 :: x1 :: x2 :: x3 :: x4 :: x5 :: x6 :: x7 :: x8 :: x9 :: x10 :: xs) 10 = some x10 := atI_nat (j := 10) rfl
theorem atI_c11 {α : Type} {x0 x1 x2 x3 x4 x5 x6 x7 x8 x9 x10 x11 : α} {xs : List α} : atI (x0 :: x1 :: x2 :: x3 :: x4 :: x5 :: x6 :: x7 :: x8 :: x9 :: x10 :: x11 :: xs) 11 = some x11 := atI_nat (j := 11) rfl
theorem atI_c12 {α : Type} {x0 x1 x2 x3 x4 x5 x6 x7 x8 x9 x10 x11 x12 : α} {xs : List α} : atI (x0 :: x1 :: x2 :: x3 :: x4 :: x5 :: x6 :: x7 :: x8 :: x9 :: x10 :: x11 :: x12 :: xs) 12 = some x12 := atI_nat (j := 12) rfl
theorem atI_c13 {α : Type} {x0 x1 x2 x3 x4 x5 x6 x7 x8 x9 x10 x11 x12 x13 : α} {xs : List α} : atI (x0 :: x1 :: x2 :: x3 :: x4 :: x5 :: x6 :: x7 :: x8 :: x9 :: x10 :: x11 :: x12 :: x13 :: xs) 13 = some x13 := atI_nat (j := 13) rfl
/-- the next court -/
def Cf.next (cf : Cf) (c : Ks) : Option C2 := (c.ch[c.lv + 1]?).bind fun k => cf.cs[k]?
end Dl
/-! Dl: who may still appeal or oppose; first reviews. -/
namespace Dl
open PySem L2
/-- an asking: a configuration, a case, a day, a claim, a side, a maximum level -/
structure Ask where
  cf : Cf
  c : Ks
  day : Int
  at' : Nat
  side : Int
  lim : Option Int
def Ask.d (a : Ask) : D := .tup [a.cf.d, a.c.d, .int a.day, .int (a.at' : Int), .int a.side, cD a.lim]
structure Ask.ok (a : Ask) : Prop where
  o1 : CfOk a.cf
  o2 : KsOk a.cf a.c
  h : a.at' < a.c.cls.length
  s : a.side = 0 ∨ a.side = 1
/-- pairs that there are -/
def VaP (cls : List Kl) (l : List PrN) : Prop := ∀ p ∈ l, ∃ k : Kl, cls[p.1]? = some k ∧ p.2 < k.us.length
theorem VaP.nil {cls : List Kl} : VaP cls [] := nofun
theorem VaP.sub {cls : List Kl} {l l' : List PrN} (h : VaP cls l) (s : ∀ p ∈ l', p ∈ l) : VaP cls l' := fun p hp => h p (s p hp)
end Dl
/-! Dl: what costs of issues say of a claim: what stands is free, costs in order, final by grounds. -/
namespace Dl
open PySem L2
/-! ### costs in order -/
def LeP (p q : Pr) : Prop := (∀ v, oLe p.1 v → oLe q.1 v) ∧ ∀ v, oLe p.2 v → oLe q.2 v
def LeL : List Pr → List Pr → Prop
  | [], [] => True
  | p :: ps, q :: qs => LeP p q ∧ LeL ps qs
  | _, _ => False
theorem LeL.len : ∀ {ps qs : List Pr}, LeL ps qs → ps.length = qs.length
  | [], [], _ => rfl
  | p :: ps, q :: qs, h => congrArg (· + 1) h.2.len
theorem LeL.map {f g : Nat → Pr} : ∀ {l : List Nat}, (∀ j ∈ l, LeP (f j) (g j)) → LeL (l.map f) (l.map g)
  | [], _ => trivial
  | x :: l, h => ⟨h x List.mem_cons_self, LeL.map fun j hj => h j (List.mem_cons_of_mem _ hj)⟩
theorem StdL.map {f : Nat → Pr} {g : Nat → Nat} : ∀ {l : List Nat}, (∀ j ∈ l, StdOk (f j) (g j)) → StdL (l.map f) (l.map g)
  | [], _ => trivial
  | x :: l, h => ⟨h x List.mem_cons_self, StdL.map fun j hj => h j (List.mem_cons_of_mem _ hj)⟩
/-! ### final by grounds -/
theorem getD_some {α : Type} {l : List α} {i : Nat} {x d : α} (h : l[i]? = some x) : l.getD i d = x := by
  rw [List.getD_eq_getElem?_getD, h]
  rfl
end Dl
/-! Dl: the issues that a party can name, by the claims alone; the next filing. -/
namespace Dl
open PySem L2
def DeP (cls : List Kl) (l : List PrN) : Prop := ∀ q ∈ l, ∃ (k : Kl) (u : Iu), cls[q.1]? = some k ∧ k.us[q.2]? = some u ∧ u.f ≠ 63
theorem DeP.nil {cls : List Kl} : DeP cls [] := nofun
theorem DeP.sub {cls : List Kl} {l l' : List PrN} (h : DeP cls l) (s : ∀ p ∈ l', p ∈ l) : DeP cls l' := fun p hp => h p (s p hp)
end Dl
/-! Dl: a tuple whose object is known (ftp): tuple(list) makes one; its index(x); read as a tuple. -/
namespace Dl
open PySem L2 PySem.Spec PyProof.Rows
section
variable {X : Cx}
theorem call_tuple_ftp : CallR X (.type "tuple") (fun xs H Q => ∃ p ys, xs = [.ref p] ∧ SqL X.K H p ys ∧ ∀ l ob, ob.dict = none → H l = none → Q (.ref l) (upd H l (.frz ob (.tup ys)))) := by
  intro pins s σ H xs us Q I r h
  obtain ⟨p, ys, rfl, hq, q⟩ := h
  obtain ⟨u, rfl, rx⟩ := vals1 r
  cases rx
  obtain ⟨its, r', pl, hz⟩ := I.list hq
  have hlen := r'.length
  refine call_tuple_list pl.isList (fun h' kp => ?_) (by simp only [List.size_toArray] <;> omega)
  have I1 : Inv X pins σ H { s with heap := h' } := I.kept (t' := s.toks) kp
  have I2 : Inv X pins σ (upd H h'.objs.size (.frz { cls := .type "tuple", data := .seq its.toArray } (.tup ys))) { s with heap := h'.push { cls := .type "tuple", data := .seq its.toArray } } :=
    I1.laid (t' := s.toks) (fun b o e => Heap.get?_push_of_some _ e) (Nat.le_refl _) (show ObjOk X.prog X.w _ _ _ (.frz _ (.tup ys)) from ⟨Heap.get?_push_size _ rfl, hz, its, r', IsTup.new _ _⟩)
  exact ⟨.ref h'.objs.size, _, I2, rfl, q _ _ rfl (I1.hok.fresh (Nat.le_refl _))⟩
end
def tupleFR : RND
  | [.lst ds], P => P (.ftp ds)
  | [.rol ds], P => P (.ftp ds)
  | _, _ => False
section
variable {K : PySem.W.Frag} {F H : Hp}
theorem ftp_r {a : Addr} {vs : List V} {ds : List D} {ob : Obj} (h : F a = some (.frz ob (.tup vs))) (d : ob.dict = none) (r : Reps K F ds vs) : Rep K F (.ftp ds) (.ref a) := by
  simp only [Rep]
  exact ⟨a, vs, ob, rfl, h, d, r⟩
theorem Grow.ftp {p : Addr} {ob : Obj} {vs : List V} (h : H p = none) : Grow F H (upd F p (.frz ob (.tup vs))) (upd H p (.frz ob (.tup vs))) := Or.inr ⟨p, _, h, rfl, rfl⟩
theorem new_ftp {p : Addr} {ob : Obj} {vs : List V} {ds : List D} (e : Same F H) (h : H p = none) (d : ob.dict = none) (r : Reps K F ds vs) : Rep K (upd F p (.frz ob (.tup vs))) (.ftp ds) (.ref p) :=
  ftp_r upd_same d (Reps.mono (same_upd (e.free h)) _ _ r)
theorem cs_tupleF : CallS K (fun xs H Q => ∃ p ys, xs = [.ref p] ∧ SqL K H p ys ∧ ∀ l ob, ob.dict = none → H l = none → Q (.ref l) (upd H l (.frz ob (.tup ys)))) tupleFR := fun F H ds xs P Q e hr h k => by
  unfold tupleFR at h
  split at h
  · obtain ⟨v, rfl, r⟩ := one_v hr
    obtain ⟨p, vs, rfl, h1, h2⟩ := lst_v r
    exact ⟨p, vs, rfl, SqL.of h1, fun l ob d hl => k _ _ _ _ h (Grow.ftp hl) (new_ftp e hl d h2)⟩
  · obtain ⟨v, rfl, r⟩ := one_v hr
    obtain ⟨p, vs, rfl, h1, h2⟩ := rol_v r
    exact ⟨p, vs, rfl, same_l e h1, fun l ob d hl => k _ _ _ _ h (Grow.ftp hl) (new_ftp e hl d h2)⟩
  · exact h.elim
end
section
variable {P : D → Prop} {ds : List D}
theorem ev_tupleF_lst : tupleFR [.lst ds] P = P (.ftp ds) := rfl
theorem ev_tupleF_rol : tupleFR [.rol ds] P = P (.ftp ds) := rfl
end
/-! ### t.index(x) -/
def rIndexT (K : PySem.W.Frag) : V → List V → Hp → VK → Prop := fun x xs H Q => ∃ (a : Addr) (ys : List V) (y : V) (j : Nat) (z : V), x = V.ref a ∧ xs = [y] ∧ SqT K H a ys ∧ flatV y = true ∧ ys.all flatV = true ∧ ys[j]? = some z ∧ eqV z y = true ∧
  (∀ (m : Nat) (z' : V), m < j → ys[m]? = some z' → eqV z' y = false) ∧ Q (.int (j : Nat)) H
section
variable {X : Cx}
theorem mt_indexT : MtR X "tuple.index" (rIndexT X.K) := by
  intro pins s σ H x xs v us Q I rx rxs h
  obtain ⟨a, ys, y, j, z, rfl, rfl, hs, fy, fys, hz, hzj, hno, q⟩ := h
  cases rx
  cases rxs with
  | cons ry rt =>
    rename_i uy ut
    cases rt
    obtain ⟨its, rv, pl, hlen⟩ := I.tuple hs
    obtain ⟨⟨cls, dd, data, sl⟩, ho, hc, n, hd⟩ := pl
    simp only at hc hd
    subst hc hd
    obtain ⟨u, hu, ru⟩ := rv.get hz
    obtain ⟨hjl, hje⟩ := List.getElem?_eq_some_iff.mp hu
    have hvl := rv.length
    have hj : j < its.toArray.size := by simpa using hjl
    refine call_meets PySem.F.slot_tuple_index ⟨_, ho, rfl⟩ PySem.F.entry_tuple_index (PySem.F.args_tuple_index_2 _ _)
      (TI.tuple_indexAt a its.toArray n dd sl uy (eqU y) j hj ?_ ?_) ⟨ho, fun u' hu' => mem_eqAt ry fy rv fys u' (by simpa using hu'), ?_⟩
    · have e1 : its.toArray[j] = u := by simpa using hje
      rw [e1, eqU_of ru (flat_at fys hz)]
      exact hzj
    · intro m hm hmj
      have hml : m < its.length := by simpa using hm
      have hmy : m < ys.length := by omega
      have hy' : ys[m]? = some ys[m] := List.getElem?_eq_getElem hmy
      obtain ⟨u2, hu2, ru2⟩ := rv.get hy'
      obtain ⟨_, hme⟩ := List.getElem?_eq_some_iff.mp hu2
      have e1 : its.toArray[m] = u2 := by simpa using hme
      rw [e1, eqU_of ru2 (flat_at fys hy')]
      exact hno m _ hmj hy'
    · exact ⟨.int (j : Nat), H, I.tok _, ⟨_, rfl⟩, q⟩
def tIxF (K : PySem.W.Frag) (r : V → List V → Hp → VK → Prop) (to : TE) (t : TA) : TE := fun σ H Q => to σ H fun x H1 => (∃ a ob ys, x = .ref a ∧ H1 a = some (.frz ob (.tup ys)) ∧ ob.dict = none) ∧ t σ H1 fun xs H2 => r x xs H2 Q
variable {o e : Expr} {to : TE} {es : List Expr} {t : TA} {apos cpos : Pos}
theorem pe_ixF (ho : PE X o to) (ha : PA X (e :: es) t)
    (hbase : attributeBase o "index" X.env (eval o X.env) = eval o X.env := by rfl)
    (hfew : ((backTo cpos (starEach (e :: es) X.env)).all (fun x => !x.1) && (backToKw cpos (keywordEach [] X.env)).all (fun x => x.1.isSome)
      && decide ((e :: es).length + ([] : List Keyword).length + (if ([] : List Keyword).isEmpty then 0 else 1) < 30)) = true := by rfl)
    (hline : (apos.endLine == cpos.line) = true := by rfl) (hs : starEach (e :: es) X.env = (false, eval e X.env) :: starEach es X.env := by rfl) (hplain : (backTo cpos (starEach es X.env)).any (·.1) = false := by rfl) :
    PE X (.Call (.Attribute o "index" apos) (e :: es) [] cpos) (tIxF X.K (rIndexT X.K) to t) := by
  refine ⟨fun pins s σ H Q I h => ?_⟩
  refine wpAny_Call_method_late hbase hfew hline rfl (thn (ho.run pins s σ H _ I h) fun v s1 ⟨x, H1, I1, r1, ty, q1⟩ => ?_)
  obtain ⟨a, ob, ys, rfl, ea, hd⟩ := ty
  cases r1
  obtain ⟨h1, _, _, _, o', e1, c1, _⟩ := (show ObjOk X.prog X.w H1 s1.heap a (.frz ob (.tup ys)) from I1.hok a _ ea)
  rw [h1] at e1
  cases e1
  refine ⟨"tuple", _, PySem.F.plainAttrs_tuple, PySem.F.slot_tuple_index, PySem.F.type_tuple_index, ⟨ob, h1, c1⟩, fun b eb => ?_, ?_⟩
  · cases eb
    exact ⟨ob, h1, hd⟩
  have hA := ha.run cpos pins s1 σ H1 _ I1 q1
  rw [hs] at hA ⊢
  refine Calls.callWith_builtin (by show (false || (backTo cpos (starEach es X.env)).any (·.1)) = false; rw [hplain] <;> rfl) (Calls.evalArgs_plain ?_)
  exact thn hA fun us s2 ⟨vs, H2, I2, r2, q2⟩ => mt_indexT pins s2 σ H2 (.ref a) vs (.ref a) us Q I2 (show RelV (.ref a) (.ref a) from rfl) r2 q2
end
def indexFR : R2D
  | .ftp ds, x, P => (flatD x = true ∧ ds.all flatD = true) ∧ elimIx (placeD x ds) (BoxP.mk : BoxP P)
  | _, _, _ => False
theorem ev_indexF {ds : List D} {x : D} {P : D → Prop} : indexFR (.ftp ds) x P = ((flatD x = true ∧ ds.all flatD = true) ∧ elimIx (placeD x ds) (BoxP.mk : BoxP P)) := rfl
theorem mb_indexF {K : PySem.W.Frag} : MB K (rIndexT K) indexFR := fun F H a b x y P Q e ra rb h k => by
  cases a with
  | ftp ds =>
    replace h : (flatD b = true ∧ ds.all flatD = true) ∧ elimIx (placeD b ds) (BoxP.mk : BoxP P) := h
    obtain ⟨⟨f1, f2⟩, h⟩ := h
    cases q : placeD b ds with
    | none => rw [q] at h; exact h.elim
    | some j =>
      rw [q] at h
      obtain ⟨p, vs, ob, rfl, g1, _, g2⟩ := ftp_v ra
      obtain ⟨fy, hy⟩ := flat_v f1 rb
      have hq := List.findIdx?_eq_some_iff_getElem.mp q
      obtain ⟨hj, hz, hno⟩ := hq
      obtain ⟨v, hv, rv⟩ := g2.get (List.getElem?_eq_getElem hj)
      have fl := flats_v e f1 rb g2 f2
      have fat : ∀ (m : Nat) (hm : m < ds.length), flatD ds[m] = true := fun m hm => List.all_eq_true.mp f2 _ (List.getElem_mem hm)
      have sym : ∀ (d' : D) (v' : V), flatD d' = true → RepV K F H d' v' → eqV v' y = eqF d' b := fun d' v' fd rd => (flat_v fd rd).2 b y f1 rb
      refine ⟨p, vs, y, j, v, rfl, rfl, Or.inl (Or.inr ⟨ob, e _ _ g1⟩), fy, fl.1, hv, ?_, fun m z' hm hz' => ?_, k _ _ F H h (stay (P := True)) rI_⟩
      · rw [sym _ _ (fat j hj) (Rep.view e rv)]
        exact hz
      · have hm' : m < ds.length := by omega
        obtain ⟨v', hv', rv'⟩ := g2.get (List.getElem?_eq_getElem hm')
        rw [hz'] at hv'
        cases hv'
        rw [sym _ _ (fat m hm') (Rep.view e rv')]
        have := hno m hm
        simpa using this
  | _ => exact h.elim
section
variable {X : Cx} {ra rb : DV}
theorem ixF_sound : ∀ σ H Q, liftV X.K (rB1 "ftp" indexFR ra rb) σ H Q → tIxF X.K (rIndexT X.K) (liftV X.K ra) (tCons (liftV X.K rb) tNil) σ H Q := fun σ H Q ⟨c, F, δ, P, S, h, k⟩ =>
  ⟨c, F, δ, _, S, h, fun w1 δ1 h1 x F1 H1 e1 S1 r1 => by
    unfold kB1 selB1 at h1
    cases q1 : vget δ1 w1 with
    | none => simp only [q1] at h1
    | some d =>
      simp only [q1] at h1
      refine ⟨?_, c, F1, δ1, _, S1, h1.2, fun w2 δ2 h2 y F2 H2 e2 S2 r2 => ?_⟩
      · cases d with
        | ftp ds =>
          obtain ⟨p, vs, ob, rfl, g1, g3, g2⟩ := ftp_v (S1.view r1 q1)
          exact ⟨p, ob, vs, rfl, S1.sub _ _ g1, g3⟩
        | _ => exact absurd h1.1 (by simp [tyD])
      · unfold kB1b elim2 at h2
        cases q3 : vget δ2 w1 with
        | none => simp only [q3] at h2
        | some a =>
          cases q2 : vget δ2 w2 with
          | none => simp only [q3, q2] at h2
          | some b =>
            simp only [q3, q2] at h2
            refine mb_indexF F2 H2 a b x y _ _ S2.sub (S2.view (r1.mono e2) q3) (S2.view r2 q2) h2 fun d v F3 H3 hd g rv => ?_
            obtain ⟨e3, S3⟩ := S2.grow g
            exact k _ _ hd v F3 H3 ((e1.trans e2).trans e3) S3 rv⟩
end
/-! ### read as a tuple -/
def selSoft (o : Option D) (δ : DS) {Q : Vw → DS → Prop} (_ : BoxV Q) : Prop := match o with
  | some (.ftp ds) => Q (.val (.tup ds)) δ
  | some (.tup ds) => Q (.val (.tup ds)) δ
  | _ => False
def kSoft (Q : Vw → DS → Prop) : Vw → DS → Prop := fun w δ => selSoft (vget δ w) δ (BoxV.mk : BoxV Q)
def rSoft (ra : DV) : DV := fun δ Q => ra δ (kSoft Q)
section
variable {δ : DS} {Q : Vw → DS → Prop} {w : Vw} {ds : List D} {ra : DV}
theorem ev_soft : rSoft ra δ Q = ra δ (kSoft Q) := rfl
theorem ev_ksoft : kSoft Q w δ = selSoft (vget δ w) δ (BoxV.mk : BoxV Q) := rfl
theorem ev_selSoftT {z : BoxV Q} : selSoft (some (.tup ds)) δ z = Q (.val (.tup ds)) δ := rfl
theorem ev_selSoft {z : BoxV Q} : selSoft (some (.ftp ds)) δ z = Q (.val (.tup ds)) δ := rfl
end
theorem e_soft {X : Cx} {a : Expr} {ra : DV} (h : PE X a (liftV X.K ra)) : PE X a (liftV X.K (rSoft ra)) :=
  pe_wk h fun σ H Q ⟨c, F, δ, P, S, h, k⟩ => ⟨c, F, δ, _, S, h, fun w1 δ1 h1 x F1 H1 e1 S1 r1 => by
    unfold kSoft selSoft at h1
    split at h1
    · next ds q1 =>
      obtain ⟨p, vs, ob, rfl, g1, g3, g2⟩ := ftp_v (S1.view r1 q1)
      exact k _ _ h1 (.ref p) F1 H1 e1 S1 (tup_r (Or.inl (Or.inr ⟨ob, g1⟩)) g2)
    · next ds q1 =>
      obtain ⟨p, vs, rfl, g1, g2⟩ := tup_v (S1.view r1 q1)
      exact k _ _ h1 (.ref p) F1 H1 e1 S1 (tup_r g1 g2)
    · exact h1.elim⟩
end Dl
/-! Dl: precedents. -/
namespace Dl
open PySem L2
structure Pc where
  a : Int
  b : Int
  i : Int
  c : Int
  t : Int
  f : Bool
  g : List Int
def pcD (p : Pc) : D := .tup [.int p.a, .int p.b, .int p.i, .int p.c, .int p.t, .bl p.f, .tup (p.g.map D.int)]
def lackF (p : Pc) (tags : List Int) : List Int := p.g.filter fun x => !decide (x ∈ tags)
def onF (ch : List Int) (p : Pc) (c i : Int) : Bool := decide (p.i = i) && decide (p.c = c) && decide (p.t ∈ ch)
def upC (l : Nat) (f : Bool) : Option (Nat × Bool) → Option (Nat × Bool)
  | none => some (l, f)
  | some (m, h) => if m ≤ l then some (l, f) else some (m, h)
def ctlS (ch : List Int) (c i : Int) (tags : List Int) (o : Option (Nat × Bool)) (p : Pc) : Option (Nat × Bool) :=
  if onF ch p c i = true ∧ lackF p tags = [] then upC (ch.idxOf p.t) p.f o else o
def ctlF (ch : List Int) (ps : List Pc) (c i : Int) (tags : List Int) : Option (Nat × Bool) := ps.foldl (ctlS ch c i tags) none
def ctlD : Option (Nat × Bool) → D
  | none => .non
  | some (l, f) => .tup [.int (l : Int), .bl f]
def apF (ch : List Int) (c i : Int) (tags : List Int) : Nat → List Pc → List D
  | _, [] => []
  | k, p :: ps => (if onF ch p c i = true ∧ lackF p tags ≠ [] then [.tup [.int (k : Int), .tup ((lackF p tags).map D.int)]] else []) ++ apF ch c i tags (k + 1) ps
theorem ap_cons (ch : List Int) (c i : Int) (tags : List Int) (k : Nat) (p : Pc) (ps : List Pc) : apF ch c i tags k (p :: ps) = (if onF ch p c i = true ∧ lackF p tags ≠ [] then [.tup [.int (k : Int), .tup ((lackF p tags).map D.int)]] else []) ++ apF ch c i tags (k + 1) ps := rfl
theorem ap_one (ch : List Int) (c i : Int) (tags : List Int) (k : Nat) (p : Pc) : apF ch c i tags k [p] = if onF ch p c i = true ∧ lackF p tags ≠ [] then [.tup [.int (k : Int), .tup ((lackF p tags).map D.int)]] else [] := by
  rw [ap_cons]
  exact List.append_nil _
theorem lack_len (p : Pc) (tags : List Int) : (lackF p tags).length ≤ p.g.length := List.length_filter_le _ _
theorem place_ints {t : Int} : ∀ {ch : List Int}, t ∈ ch → placeD (.int t) (ch.map D.int) = some (ch.idxOf t)
  | [], h => by cases h
  | x :: ch, h => by
    unfold placeD
    rw [List.map_cons, List.findIdx?_cons]
    show (if (x == t) = true then _ else _) = _
    by_cases e : x = t
    · subst e
      simp
    · have h2 : t ∈ ch := by
        rcases List.mem_cons.mp h with z | z
        · exact absurd z.symm e
        · exact z
      have ih := place_ints h2
      unfold placeD at ih
      rw [if_neg (by simpa using e), ih, List.idxOf_cons, show (x == t) = false by simpa using e]
      rfl
theorem eqP_two (a b c d : Int) : eqP (.tup [.int a, .int b]) (.tup [.int c, .int d]) = (decide (a = c) && decide (b = d)) := by
  have := eqP_ints [a, b] [c, d]
  simp only [List.map_cons, List.map_nil] at this
  rw [this]
  by_cases h : a = c <;> by_cases h2 : b = d <;> simp [h, h2]
theorem ap_len (ch : List Int) (c i : Int) (tags : List Int) : ∀ (k : Nat) (ps : List Pc), (apF ch c i tags k ps).length ≤ ps.length
  | _, [] => Nat.le_refl _
  | k, p :: ps => by
    have := ap_len ch c i tags (k + 1) ps
    unfold apF
    split
    · rw [List.length_append, List.length_singleton, List.length_cons]
      omega
    · rw [List.nil_append, List.length_cons]
      omega
theorem ap_append (ch : List Int) (c i : Int) (tags : List Int) : ∀ (k : Nat) (ps qs : List Pc), apF ch c i tags k (ps ++ qs) = apF ch c i tags k ps ++ apF ch c i tags (k + ps.length) qs
  | k, [], qs => by simp [apF]
  | k, p :: ps, qs => by
    rw [List.cons_append, apF, apF, ap_append ch c i tags (k + 1) ps qs, List.append_assoc, List.length_cons]
    congr 3
    omega
end Dl
/-! Dl: a slice of a tuple whose object is known, with its object known. -/
namespace Dl
open PySem L2 PySem.Spec PyProof.Rows
def rSlP (K : PySem.W.Frag) : V → Option Int → Option Int → Hp → VK → Prop := fun x lo hi H Q => ∃ a xs, x = .ref a ∧ SqT K H a xs ∧
  ((HT.sIx xs.length 0 lo = 0 ∧ HT.sIx xs.length xs.length hi = xs.length) → Q (.ref a) H) ∧
  (¬(HT.sIx xs.length 0 lo = 0 ∧ HT.sIx xs.length xs.length hi = xs.length) → ∀ p ob, ob.dict = none → H p = none → Q (.ref p) (upd H p (.frz ob (.tup (cutV xs lo hi)))))
section
variable {X : Cx}
theorem sl_ftp : SlR X (rSlP X.K) := by
  intro pins s σ H x v vl vu lo hi sl Q I rx hs pl pu h
  obtain ⟨a, xs, rfl, hx, q1, q2⟩ := h
  cases rx
  obtain ⟨its, r, ht, hz⟩ := I.tuple hx
  have hlen : its.toArray.size = xs.length := by rw [List.size_toArray]; exact r.length.symm
  refine ⟨"tuple", _, PyProof.Rows.slot_tuple_getitem.lookup, ht.typeIs, ?_⟩
  by_cases hw : HT.sIx xs.length 0 lo = 0 ∧ HT.sIx xs.length xs.length hi = xs.length
  · exact getItem_tuple_whole ht hs pl pu (by rw [hlen]; exact hw) ⟨.ref a, H, I, rfl, q1 hw⟩
  · refine HT.getItem_tuple_cut ht hs pl pu (by rw [hlen]; exact hw) ?_ (by rw [hlen]; exact hz)
    rw [hlen]
    have fin : ∀ ob : Obj, ob = { cls := .type "tuple", data := .seq (List.take (HT.sIx xs.length xs.length hi - HT.sIx xs.length 0 lo) (List.drop (HT.sIx xs.length 0 lo) its.toArray.toList)).toArray } →
        EP X pins σ Q (.ref s.heap.objs.size) { s with heap := s.heap.push ob } := fun ob e =>
      ⟨.ref s.heap.objs.size, _, I.laid (t' := s.toks) (o := .frz ob (.tup (cutV xs lo hi))) (fun b ob q => Heap.get?_push_of_some _ q) (Nat.le_refl _)
        ⟨Heap.get?_push_size _ (by rw [e]; rfl), Nat.le_trans (cutV_length xs lo hi) hz, _, (r.drop (HT.sIx xs.length 0 lo)).take (HT.sIx xs.length xs.length hi - HT.sIx xs.length 0 lo), by rw [e]; exact IsTup.new _ _⟩, rfl, q2 hw _ ob (by rw [e]) (I.hok.fresh (Nat.le_refl _))⟩
    exact fin _ rfl
end
def slPR (d : D) (lo hi : Option Int) (P : D → Prop) : Prop := match d with
  | .ftp ds => P (.ftp (cutD ds lo hi))
  | _ => False
def elimSlP (o : Option D) (lo hi : Option Int) {P : D → Prop} (_ : BoxP P) : Prop := match o with
  | some d => slPR d lo hi P
  | none => False
def kSlP3 (w : Vw) (l : Option Int) (Q : Vw → DS → Prop) : Option Int → DS → Prop := fun u δ => elimSlP (vget δ w) l u (BoxP.mk : BoxP (kD Q δ))
def kSlP2 (w : Vw) (hi : DO) (Q : Vw → DS → Prop) : Option Int → DS → Prop := fun l δ => hi δ (kSlP3 w l Q)
def kSlP1 (lo hi : DO) (Q : Vw → DS → Prop) : Vw → DS → Prop := fun w δ => lo δ (kSlP2 w hi Q)
def rSlPD (r : DV) (lo hi : DO) : DV := fun δ Q => r δ (kSlP1 lo hi Q)
section
variable {r : DV} {δ : DS} {Q : Vw → DS → Prop} {w : Vw} {ds : List D}
theorem ev_slp {lo hi : DO} : rSlPD r lo hi δ Q = r δ (kSlP1 lo hi Q) := rfl
theorem ev_kslp1 {lo hi : DO} : kSlP1 lo hi Q w δ = lo δ (kSlP2 w hi Q) := rfl
theorem ev_kslp2 {hi : DO} {l : Option Int} : kSlP2 w hi Q l δ = hi δ (kSlP3 w l Q) := rfl
theorem ev_kslp3 {l u : Option Int} : kSlP3 w l Q u δ = elimSlP (vget δ w) l u (BoxP.mk : BoxP (kD Q δ)) := rfl
theorem ev_elimSlP {l u : Option Int} {P : D → Prop} {z : BoxP P} : elimSlP (some (.ftp ds)) l u z = P (.ftp (cutD ds l u)) := rfl
end
theorem e_slp {X : Cx} {e : Expr} {ra : DV} {pos : Pos} {lo hi : Option Expr} {dl dh : DO} {p2 : Pos} (he : PE X e (liftV X.K ra)) (hl : PO X lo (liftO X.K dl)) (hu : PO X hi (liftO X.K dh)) : PE X (.Subscript e (.Slice lo hi none p2) pos) (liftV X.K (rSlPD ra dl dh)) :=
  pe_wk (pe_slice sl_ftp he hl hu) fun σ H Q ⟨c, F, δ, P, S, h, k⟩ => ⟨c, F, δ, _, S, h, fun w δ1 g v F1 H1 e1 S1 r1 => ⟨c, F1, δ1, _, S1, g, fun l δ2 g F2 H2 e2 S2 => ⟨c, F2, δ2, _, S2, g, fun u δ3 g F3 H3 e3 S3 => by
    unfold kSlP3 elimSlP at g
    cases q : vget δ3 w with
    | none => simp only [q] at g
    | some d =>
      simp only [q] at g
      have rv := S3.view (r1.mono (e2.trans e3)) q
      unfold slPR at g
      have e13 := (e1.trans e2).trans e3
      split at g
      · obtain ⟨a, vs, ob, rfl, h1, hd, h2⟩ := ftp_v rv
        refine ⟨a, vs, rfl, Or.inl (Or.inr ⟨ob, S3.sub _ _ h1⟩), fun hw => ?_, fun _ p ob' hd' hp => ?_⟩
        · refine k _ _ g _ F3 H3 e13 S3 (ftp_r h1 hd ?_)
          have : cutV vs l u = vs := by
            unfold cutV
            rw [hw.1, hw.2, List.drop_zero, Nat.sub_zero, List.take_length]
          rw [← this]
          exact h2.cut l u
        · obtain ⟨e4, S4⟩ := S3.alloc (o := .frz ob' (.tup (cutV vs l u))) hp
          exact k _ _ g _ _ _ (e13.trans e4) S4 (new_ftp S3.sub hp hd' (h2.cut l u))
      · exact g.elim⟩⟩⟩
end Dl
/-! Dl: precedents recorded. -/
namespace Dl
open PySem L2
def sameK (q p : Pc) : Bool := decide (q.a = p.a) && (decide (q.b = p.b) && decide (q.i = p.i))
def recF (ps : List Pc) (p : Pc) : List Pc := (ps.filter fun q => !sameK q p) ++ [p]
theorem eqP_three (a b c x y z : Int) : eqP (.tup [.int a, .int b, .int c]) (.tup [.int x, .int y, .int z]) = (decide (a = x) && (decide (b = y) && decide (c = z))) := by
  have := eqP_ints [a, b, c] [x, y, z]
  simp only [List.map_cons, List.map_nil] at this
  rw [this]
  by_cases h : a = x <;> by_cases h2 : b = y <;> by_cases h3 : c = z <;> simp [h, h2, h3]
/-- a claim: its case, its number, its cause -/
structure Cl3 where
  a : Int
  b : Int
  c : Int
def cl3D (x : Cl3) : D := .tup [.int x.a, .int x.b, .int x.c]
end Dl
namespace Dl
open PySem L2
local macro_rules | `(tactic| walk_at "ev") => `(tactic| try simp -implicitDefEqProofs -dsimp only [↓ev_obj, ↓ev_kobj, ↓ev_new, ↓ev_knew, ev_selNew, ↓ev_setS, ↓ev_kset1S, ↓ev_kset2S, ↓ev_kset3S, ev_selSetS, ↓ev_appS, ↓ev_kapp1S, ↓ev_kapp2S, ev_selAppS, ev_vobj, ev_ndl, ev_so1, ev_so2, ev_so3, ev_so4, ev_ss1, ev_ss2, ev_ss3, ev_ss4, ev_bind, sto0, ↓ev_apA, ↓ev_kap1, ↓ev_kap2, ↓ev_m1, ↓ev_km1, ↓ev_km1b, ↓ev_join, ↓ev_joinT, ev_elimJ, ↓ev_count, ↓ev_sindex, ev_elimX, ↓ev_b1, ↓ev_kb1, ev_selB1, ↓ev_kb1b, ↓ev_lcount, ev_elimCnt, ↓ev_lindex, ev_elimIx, ↓ev_strI, ↓ev_isB, ↓ev_isBN, ↓ev_minL, ↓ev_maxL, ev_elimMn, ev_elimMx, strsD_map, strsD_sgn, ↓ev_list2S, ↓ev_list2L, ↓ev_list2R, ↓ev_list2T, ↓ev_sortP, ↓ev_starA, ↓ev_kstA, ev_selStarT, ev_selStarL, ↓ev_kstar, valsOf_star, valsOf_star1, Option.map_some, cut_t1, cut_t2, cut_t3, cut_t4, cut_t5, cut_t6, cut_t7, cut_t8, cut_d2, cut_d3, cut_d4, emp_last, List.map_nil, ofStr_eq, String.reduceEq, ↓ev_kbody, ↓ev_lnx, ↓ev_lct, ↓ev_lbk, ↓ev_lrt, ↓ev_repS, ↓ev_minOl, ↓ev_minOr, ↓ev_minOt, ↓ev_sortOl, ↓ev_sortOr, ↓ev_inDl, ev_inDr, ev_ord, ↓ev_sortLam, ↓ev_lstRg, ↓ev_klstRg, ↓ev_augI, ↓ev_kaug1, ↓ev_augGo, ↓ev_kaug2, ↓ev_kaug3, ↓ev_kaugPut, ↓ev_popI, ↓ev_kpop, ↓ev_popGo, ↓ev_kpopD, ↓ev_seq, ↓ev_nx, ↓ev_rt, ↓ev_bk, ↓ev_ct, ↓ev_next, ↓ev_break, ↓ev_cont, ↓ev_never, ↓ev_retN, ↓ev_drop, ↓ev_kdrop, ↓ev_ret, ↓ev_kret, ↓ev_retF, ↓ev_kretF, ↓ev_retM, ↓ev_selM, ↓ev_if, ↓ev_kif, ↓ev_asg, ↓ev_kasg, ↓ev_asgF, ↓ev_kasgF, ↓ev_app, ↓ev_kapp, ↓ev_set, ↓ev_kset1, ↓ev_kset2, ↓ev_aug, ↓ev_kaug, ↓ev_kaugD, ↓ev_tgt, ↓ev_ktgt, ↓ev_for, ↓ev_kfor, ↓ev_while, ↓ev_dname, ↓ev_dtup, ↓ev_dcons, ↓ev_kdc, ↓ev_dnil, ↓ev_name, ↓ev_c, ↓ev_val, ↓ev_kval, ↓ev_kvalS, ↓ev_fz, ↓ev_kfz, ↓ev_kD, ↓ev_kL, ↓ev_op, ↓ev_kop1, ↓ev_kop2, ↓ev_opF, ↓ev_kopF1, ↓ev_kopF2, ↓ev_un, ↓ev_kun, ↓ev_nilA, ↓ev_consA, ↓ev_kca1, ↓ev_kca2, ↓ev_cb, ↓ev_kcb, ↓ev_cbF, ↓ev_kcbF, ↓ev_tup, ↓ev_ktup, ↓ev_lst, ↓ev_klst, ↓ev_test, ↓ev_ktest, ↓ev_tru, ↓ev_ktru, ↓ev_kB, ↓ev_tru_n, ↓ev_tru_b, ↓ev_tru_i, ↓ev_tru_s, ↓ev_tru_t, ↓ev_tru_l, ↓ev_tru_r, ↓ev_and, ↓ev_or, ↓ev_not, ↓ev_kand, ↓ev_kor, ↓ev_knot, ↓ev_andV, ↓ev_orV, ↓ev_notV, ↓ev_kandV, ↓ev_korV, ↓ev_knotV, ↓ev_ifE, ↓ev_kifE, ↓ev_chain, ↓ev_kch1, ↓ev_kch2, ↓ev_kchD, ↓ev_isi, ↓ev_kisi, ↓ev_iseq, ↓ev_kseqL, ↓ev_kseqR, ↓ev_kseqT, ↓ev_kseqS, ↓ev_enu, ↓ev_kenu, ↓ev_rng1, ↓ev_kr1, ↓ev_rng2, ↓ev_kr2, ↓ev_call, ↓ev_kcall, ↓ev_callF, ↓ev_kcallF, ↓ev_kresV, ↓ev_kresF, ↓ev_kresFF, ↓ev_comp, ↓ev_kcomp, ↓ev_kfin, ↓ev_yes, ↓ev_oN, ↓ev_oS, ↓ev_kO, ↓ev_sl, ↓ev_ksl1, ↓ev_ksl2, ↓ev_ksl3, ↓ev_sf, ↓ev_ksf1, ↓ev_ksf2, ↓ev_ksf3, ↓ev_add, ↓ev_sub, ↓ev_mul, ↓ev_div, ↓ev_mod, ↓ev_pow, ↓ev_iadd, ↓ev_cmp, ↓ev_adds, ↓ev_addt, ↓ev_iadds, ↓ev_isN, ↓ev_isnN, ↓ev_neg, ↓ev_eq_i, ↓ev_eq_s, ↓ev_eq_b, ↓ev_eq_nn, ↓ev_eq_ni, ↓ev_eq_in, ↓ev_eq_ns, ↓ev_eq_sn, ↓ev_eq_nb, ↓ev_eq_bn, ↓ev_eq_tt, ↓ev_eq_ll, ↓ev_eq_nt, ↓ev_eq_tn, ↓ev_ne_i, ↓ev_ne_s, ↓ev_ne_b, ↓ev_ne_nn, ↓ev_ne_ni, ↓ev_ne_in, ↓ev_ne_ns, ↓ev_ne_sn, ↓ev_ne_nb, ↓ev_ne_bn, ↓ev_ne_tt, ↓ev_ne_ll, ↓ev_ne_nt, ↓ev_ne_tn, ↓ev_ix_lst, ↓ev_ix_rol, ↓ev_ix_tup, ↓ev_tupleF_lst, ↓ev_tupleF_rol, ↓ev_indexF, ↓ev_soft, ↓ev_slp, ↓ev_kslp1, ↓ev_kslp2, ↓ev_kslp3, ev_elimSlP, ↓ev_ksoft, ev_selSoft, ev_selSoftT, ↓ev_ix_str, ↓ev_in_lst, ↓ev_in_rol, ↓ev_in_tup, ↓ev_len_lst, ↓ev_len_rol, ↓ev_len_tup, ↓ev_len_s, ↓ev_abs, ↓ev_int, ↓ev_intb, ↓ev_booli, ↓ev_boolb, ↓ev_max2, ↓ev_min2, ↓ev_list_lst, ↓ev_tuple_lst, ↓ev_list_rol, ↓ev_tuple_rol, ↓ev_list_tup, ↓ev_tuple_tup, ↓ev_sum, ↓ev_sumT, ↓ev_cat, ↓ev_rep, ↓ev_slt, ↓ev_sls, ↓ev_sfl, ↓ev_sfr, ↓ev_isNon_non, ↓ev_isNon_bl, ↓ev_isNon_int, ↓ev_isNon_str, ↓ev_isNon_tup, ↓ev_isNon_lst, ↓ev_isNon_rol, ↓ev_step, ↓ev_ks1, ↓ev_ks2, ↓ev_kE, ↓ev_kW, ev_app0, ev_selApp, ev_selSet1, ev_selSet, ev_selSetJ, ev_selAug, ev_selAug2, ev_selF, ev_selO, ev_selVal, ev_elim2, ev_elim2F, ev_elim1, ev_elimN, ev_elimNF, ev_elimT, ev_elimL, ev_elimTru, ev_elimIs, ev_elimC, ev_elimCF, ev_elimSl, ev_elimSf, ev_elimSum, brD_true, brD_false, optD_some, sg, ss, vget, vgets, valsOf, okSet, okS_no, okS_frz, okS_own, okS_io, arsOf, slotsOf, putCn, putOuts, noDup, outsOf, startD, List.replicate, okWipe, dWipe, isiD, notPtr, tyD, flatD, true_and, and_true, if_true, if_false, Bool.false_eq_true, decide_eq_true_eq, Bool.not_eq_true', decide_eq_false_iff_not, List.contains_nil, List.contains_cons, Bool.not_false, Bool.not_true, Bool.and_self, Bool.and_true, Bool.true_and, Bool.or_false, Bool.false_or, Bool.and_false, Bool.or_true, Bool.true_or, Bool.false_and, List.length_cons, List.length_nil, List.cons_append, List.nil_append, Nat.reduceAdd, Nat.reduceLeDiff, Nat.reduceSub, Nat.reduceEqDiff, Nat.reduceBEq, reduceCtorEq, atI_c0, atI_c1, atI_c2, atI_c3, atI_c4, atI_c5, atI_c6, atI_c7, atI_c8, atI_c9, atI_c10, atI_c11, atI_c12, atI_c13, List.set_cons_zero, List.set_cons_succ, ixN_c0, ixN_c1, ixN_c2, ixN_c3, ixN_c4, List.all_cons, List.all_nil, String.reduceBEq, List.length_map, Int.reduceLT, Int.reducePow, Int.reduceToNat, Int.reduceNeg, Int.reduceLE, Int.reduceMul, or_true, true_or, Nat.reducePow, Nat.reduceLT, Nat.reduceGT, natAbs10, natAbs10b, not_true_eq_false, not_false_eq_true, ne_eq, decide_true, decide_false, Int.natCast_eq_zero, List.isEmpty_nil, List.isEmpty_cons, intsD_map, List.append_nil, Bool.not_not, decide_not, flat_nats, flat_ints, inF_nats, inF_ints, atI_last, cut_take, cut_drop, cut_drop1, nI_eq])
local macro_rules | `(tactic| walk_at "sc") => `(tactic| ((repeat' refine And.intro ?_ ?_) <;> first | assumption | decide | omega | skip))
local macro_rules | `(tactic| walk_at "items") => `(tactic| (repeat' (first | exact all_nil | refine all_cons ⟨_, rfl, (by omega), (by omega)⟩ ?_ | refine all_cons ⟨_, rfl, (by omega)⟩ ?_)))
local macro_rules | `(tactic| walk_at "st") => `(tactic| first | rw [brD_pos (by first | assumption | omega)] | rw [brD_neg (by first | assumption | omega)] | (with_reducible refine And.intro ?_ ?_; first | assumption | decide | omega))
local macro_rules | `(tactic| walk_at "go") => `(tactic| (walk_at "ev"; repeat (walk_at "st"; walk_at "ev")))
def r_law_draw : DSt :=
 (sSeq (sIf (rTest (rOp eqR (rOp ixR (rName 0) (rC (.int 2))) (rC (.int 0))))
 (sSeq (sAsg 3 (rOp ixR (rName 0) (rC (.int 1))))
 (sSeq (sAsg 2 (rC (.int 0)))
 (sSeq (sIf (rTest (rOp ltR (rName 3) (rCB lenR (rConsA (rOp ixR (rName 0) (rC (.int 0))) rNilA))))
 (sAsg 2 (rCB absR (rConsA (rCB intR (rConsA (rOp ixR (rOp ixR (rName 0) (rC (.int 0))) (rName 3)) rNilA)) rNilA)))
 (sSeq (sSetI 0 (rOp modR (rCB intR (rConsA (rOp addR (rOp addR (rOp mulR (rOp ixR (rName 0) (rC (.int 3))) (rC (.int 48271))) (rName 3)) (rC (.int 1))) rNilA)) (rC (.int 2147483647))) (rC (.int 3)))
 (sAsg 2 (rOp ixR (rName 0) (rC (.int 3))))))
 (sSeq (sSetI 0 (rOp addR (rName 3) (rC (.int 1))) (rC (.int 1)))
 (sSeq (sIf (rTest (rOp ltR (rName 2) (rOp powR (rC (.int 10)) (rC (.int 18)))))
 (sSeq (sAsg 2 (rOp modR (rCB intR (rConsA (rOp addR (rOp addR (rOp mulR (rName 2) (rC (.int 48271))) (rOp mulR (rName 3) (rC (.int 69621)))) (rC (.int 5))) rNilA)) (rC (.int 2147483647))))
 (sSeq (sAsg 2 (rOp modR (rCB intR (rConsA (rOp mulR (rName 2) (rC (.int 69621))) rNilA)) (rC (.int 2147483629))))
 (sRet (rOp modR (rCB intR (rConsA (rName 2) rNilA)) (rCB max2R (rConsA (rName 1) (rConsA (rC (.int 1)) rNilA)))))))
 sNext)
 (sSetI 0 (rVal (rName 2)) (rC (.int 2))))))))
 sNext)
 (sSeq (sAsg 2 (rOp ixR (rName 0) (rC (.int 2))))
 (sSeq (sSetI 0 (rOp divR (rName 2) (rCB max2R (rConsA (rName 1) (rConsA (rC (.int 2)) rNilA)))) (rC (.int 2)))
 (sRet (rOp modR (rCB intR (rConsA (rName 2) rNilA)) (rCB max2R (rConsA (rName 1) (rConsA (rC (.int 1)) rNilA))))))))
/-- the tape: the script, the next place, what is left of a great number, the seed -/
def tapeC (ns : List Int) (i n t : Int) : Cn := .lst [.lst (ns.map D.int), .int i, .int n, .int t]
def IsTape (c : Cn) : Prop := ∃ ns i n t, c = tapeC ns i n t ∧ 0 ≤ i
@[irreducible] def S_law_draw : DSp := fun as P => ∃ (c : Cn) (many : Int), as = [.io c, .val (.int many)] ∧ IsTape c ∧ many < 1073741824 ∧ ∀ k c', IsTape c' → 0 ≤ k → (1 ≤ many → k < many) → P (.v (.int k)) [c']
theorem isTape {ns : List Int} {i n t : Int} (h : 0 ≤ i) : IsTape (.lst [.lst (ns.map D.int), .int i, .int n, .int t]) := ⟨ns, i, n, t, rfl, h⟩
theorem use_draw {c : Cn} {many : Int} {k : Ret → List Cn → Prop} {b : BoxK k} (hc : IsTape c) (hm : many < 1073741824) (hk : ∀ r c', IsTape c' → 0 ≤ r → (1 ≤ many → r < many) → k (.v (.int r)) [c']) : callD S_law_draw [.io c, .val (.int many)] b := by
  show S_law_draw _ _
  unfold S_law_draw
  exact ⟨c, many, rfl, hc, hm, hk⟩
def r_law_same (S_law_same : DSp) : DSt :=
 (sSeq (sIf (rTest (rOp isNR (rName 1) (rC .non)))
 (sRet (rOp isNR (rName 0) (rC .non)))
 sNext)
 (sSeq (sIf (rTru (rIsiD "tuple" (rName 1)))
 (sSeq (sIf (rOr (rNot (rTru (rIsiD "tuple" (rName 0)))) (rTest (rOp neR (rCB lenR (rConsA (rName 0) rNilA)) (rCB lenR (rConsA (rName 1) rNilA)))))
 (sRet (rC (.bl false)))
 sNext)
 (sRet (rOp eqR (rCB lenR (rConsA (rFz (rComp [2] (iRng1D (rConsA (rCB lenR (rConsA (rName 1) rNilA)) rNilA)) (dName 2) (rNot (rTru (rCall 2 S_law_same (rConsA (rOp ixR (rName 0) (rName 2)) (rConsA (rOp ixR (rName 1) (rName 2)) rNilA))))) (rVal (rName 2)))) rNilA)) (rC (.int 0)))))
 sNext)
 (sSeq (sIf (rTru (rIsiD "str" (rName 1)))
 (sRet (rAndV (rIsiD "str" (rName 0)) (rOp eqR (rName 0) (rName 1))))
 sNext)
 (sRet (rAndV (rIsiD "int" (rName 0)) (rAndV (rOp eqR (rIsiD "bool" (rName 0)) (rIsiD "bool" (rName 1))) (rOp eqR (rName 0) (rName 1))))))))
/-- plain data, so many tuples deep -/
def Pl : Nat → D → Prop
  | _, .non => True
  | _, .bl _ => True
  | _, .int _ => True
  | _, .str _ => True
  | n + 1, .tup ds => ds.length ≤ 1000000 ∧ ∀ d ∈ ds, Pl n d
  | _, _ => False
mutual
/-- the same plain data -/
def sameD : D → D → Bool
  | .non, .non => true
  | .bl a, .bl b => decide (a = b)
  | .int a, .int b => decide (a = b)
  | .str a, .str b => decide (a = b)
  | .tup xs, .tup ys => sameDs xs ys
  | _, _ => false
def sameDs : List D → List D → Bool
  | [], [] => true
  | x :: xs, y :: ys => sameD x y && sameDs xs ys
  | _, _ => false
end
theorem sameDs_len : ∀ {xs ys : List D}, sameDs xs ys = true → xs.length = ys.length
  | [], [], _ => rfl
  | x :: xs, y :: ys, h => by
    unfold sameDs at h
    rw [Bool.and_eq_true] at h
    rw [List.length_cons, List.length_cons, sameDs_len h.2]
  | [], y :: ys, h => by unfold sameDs at h; cases h
  | x :: xs, [], h => by unfold sameDs at h; cases h
theorem sameDs_at : ∀ {xs ys : List D}, xs.length = ys.length → (sameDs xs ys = true ↔ ∀ (i : Nat) (x y : D), xs[i]? = some x → ys[i]? = some y → sameD x y = true)
  | [], [], _ => ⟨fun _ i x y h => by simp at h, fun _ => by unfold sameDs; rfl⟩
  | x :: xs, y :: ys, hl => by
    have ih := sameDs_at (xs := xs) (ys := ys) (Nat.succ.inj hl)
    unfold sameDs
    rw [Bool.and_eq_true, ih]
    constructor
    · rintro ⟨h1, h2⟩ i u v hu hv
      cases i with
      | zero =>
        simp at hu hv
        subst hu hv
        exact h1
      | succ i => exact h2 i u v (by simpa using hu) (by simpa using hv)
    · intro h
      exact ⟨h 0 x y rfl rfl, fun i u v hu hv => h (i + 1) u v (by simpa using hu) (by simpa using hv)⟩
  | [], y :: ys, h => by cases h
  | x :: xs, [], h => by cases h
theorem sameD_refl : ∀ {n : Nat} {d : D}, Pl n d → sameD d d = true
  | n, .non, _ => by unfold sameD; rfl
  | n, .bl b, _ => by unfold sameD; exact decide_eq_true rfl
  | n, .int b, _ => by unfold sameD; exact decide_eq_true rfl
  | n, .str b, _ => by unfold sameD; exact decide_eq_true rfl
  | 0, .tup ds, h => h.elim
  | n + 1, .tup ds, h => by
    unfold sameD
    refine (sameDs_at rfl).mpr fun i x y hx hy => ?_
    rw [hx] at hy
    cases hy
    exact sameD_refl (h.2 x (List.mem_of_getElem? hx))
  | 0, .lst ds, h => h.elim
  | n + 1, .lst ds, h => h.elim
  | 0, .rol ds, h => h.elim
  | n + 1, .rol ds, h => h.elim
  | 0, .ptr _, h => h.elim
  | n + 1, .ptr _, h => h.elim
  | 0, .ftp _, h => h.elim
  | n + 1, .ftp _, h => h.elim
@[irreducible] def Sn_law_same : Nat → DSp
  | 0 => fun _ _ => False
  | n + 1 => fun as P => ∃ (a b : D), as = [.val a, .val b] ∧ (Pl n a) ∧ (Pl n b) ∧ (P (.v (.bl (sameD a b))) [])
abbrev S_law_same : DSp := Sn_law_same 6
theorem use_law_same {n : Nat} {a b : D} {kk : Ret → List Cn → Prop} {bb : BoxK kk} (h1 : Pl n a) (h2 : Pl n b) (hk : kk (.v (.bl (sameD a b))) []) : callD (Sn_law_same (n + 1)) [.val a, .val b] bb := by
  show Sn_law_same (n + 1) _ _
  unfold Sn_law_same
  exact ⟨a, b, rfl, h1, h2, hk⟩
/-- the same data twice: the same -/
theorem use_same {n : Nat} {d : D} {k : Ret → List Cn → Prop} {b : BoxK k} (h : Pl n d) (hk : k (.v (.bl true)) []) : callD (Sn_law_same (n + 1)) [.val d, .val d] b := use_law_same h h (by rw [sameD_refl h]; exact hk)
def r_on_the_issue : DSt :=
 (sRet (rAndV (rOp eqR (rSl (rName 1) (oSome (rC (.int 2))) (oSome (rC (.int 4)))) (rTup (rConsA (rVal (rName 3)) (rConsA (rVal (rName 2)) rNilA)))) (rOp (inR false) (rOp ixR (rName 1) (rC (.int 4))) (rSoft (rName 0)))))
@[irreducible] def S_on_the_issue : DSp := fun as P => ∃ (ch : List Int) (p : Pc) (c i : Int), as = [.val (.ftp (ch.map D.int)), .val (pcD p), .val (.int c), .val (.int i)] ∧ (P (.v (.bl (onF ch p c i))) [])
theorem use_on_the_issue {ch : List Int} {p : Pc} {c i : Int} {kk : Ret → List Cn → Prop} {bb : BoxK kk} (hk : kk (.v (.bl (onF ch p c i))) []) : callD S_on_the_issue [.val (.ftp (ch.map D.int)), .val (pcD p), .val (.int c), .val (.int i)] bb := by
  show S_on_the_issue _ _
  unfold S_on_the_issue
  exact ⟨ch, p, c, i, rfl, hk⟩
def r_missing_tags : DSt :=
 (sRet (rCB tupleR (rConsA (rFz (rComp [2] (iSeqD (rOp ixR (rName 0) (rC (.int 6)))) (dName 2) (rTest (rOp (inR true) (rName 2) (rName 1))) (rVal (rName 2)))) rNilA)))
@[irreducible] def S_missing_tags : DSp := fun as P => ∃ (p : Pc) (ts : List Int), as = [.val (pcD p), .val (.tup (ts.map D.int))] ∧ (p.g.length ≤ 1000) ∧ (P (.v (.tup ((lackF p ts).map D.int))) [])
theorem use_missing_tags {p : Pc} {ts : List Int} {kk : Ret → List Cn → Prop} {bb : BoxK kk} (hg : p.g.length ≤ 1000) (hk : kk (.v (.tup ((lackF p ts).map D.int))) []) : callD S_missing_tags [.val (pcD p), .val (.tup (ts.map D.int))] bb := by
  show S_missing_tags _ _
  unfold S_missing_tags
  exact ⟨p, ts, rfl, hg, hk⟩
def r_controlling_precedent : DSt :=
 (sSeq (sAsg 5 (rC .non))
 (sSeq (sFor (iSeqD (rVal (rName 1))) (dName 6)
 (sIf (rAnd (rTru (rCall 4 S_on_the_issue (rConsA (rVal (rName 0)) (rConsA (rVal (rName 6)) (rConsA (rVal (rName 2)) (rConsA (rVal (rName 3)) rNilA)))))) (rNot (rTru (rCall 2 S_missing_tags (rConsA (rVal (rName 6)) (rConsA (rVal (rName 4)) rNilA))))))
 (sSeq (sAsg 7 (rB1 "ftp" indexFR (rName 0) (rOp ixR (rName 6) (rC (.int 4)))))
 (sIf (rOr (rTest (rOp isNR (rName 5) (rC .non))) (rTest (rOp geR (rName 7) (rOp ixR (rName 5) (rC (.int 0))))))
 (sAsg 5 (rTup (rConsA (rVal (rName 7)) (rConsA (rOp ixR (rName 6) (rC (.int 5))) rNilA))))
 sNext))
 sNext))
 (sRet (rVal (rName 5)))))
@[irreducible] def S_controlling_precedent : DSp := fun as P => ∃ (ch : List Int) (ps : List Pc) (c i : Int) (ts : List Int), as = [.val (.ftp (ch.map D.int)), .val (.tup (ps.map pcD)), .val (.int c), .val (.int i), .val (.tup (ts.map D.int))] ∧ (∀ p ∈ ps, p.g.length ≤ 1000) ∧ (P (.v (ctlD (ctlF ch ps c i ts))) [])
theorem use_controlling_precedent {ch : List Int} {ps : List Pc} {c i : Int} {ts : List Int} {kk : Ret → List Cn → Prop} {bb : BoxK kk} (hg : ∀ p ∈ ps, p.g.length ≤ 1000) (hk : kk (.v (ctlD (ctlF ch ps c i ts))) []) : callD S_controlling_precedent [.val (.ftp (ch.map D.int)), .val (.tup (ps.map pcD)), .val (.int c), .val (.int i), .val (.tup (ts.map D.int))] bb := by
  show S_controlling_precedent _ _
  unfold S_controlling_precedent
  exact ⟨ch, ps, c, i, ts, rfl, hg, hk⟩
def r_law_upper : DSt :=
 (sRet (rTup (rConsA (rOp addR (rOp ixR (rName 1) (rC (.int 0))) (rName 0)) (rConsA (rOp ixR (rName 1) (rC (.int 1))) rNilA))))
@[irreducible] def S_law_upper : DSp := fun as P => ∃ (n : Int) (l : Int) (f : Bool), as = [.val (.int n), .val (.tup [.int l, .bl f])] ∧ (P (.v (.tup [.int (l + n), .bl f])) [])
theorem use_law_upper {n : Int} {l : Int} {f : Bool} {kk : Ret → List Cn → Prop} {bb : BoxK kk} (hk : kk (.v (.tup [.int (l + n), .bl f])) []) : callD S_law_upper [.val (.int n), .val (.tup [.int l, .bl f])] bb := by
  show S_law_upper _ _
  unfold S_law_upper
  exact ⟨n, l, f, rfl, hk⟩
def r_law_tags : DSt :=
 (sSeq (sAsg 1 (rOp ixR (rFz (rLst (rConsA (rC (.int 2)) (rConsA (rC (.int 4)) (rConsA (rC (.int 10)) rNilA))))) (rCall 2 S_law_draw (rConsA (rName 0) (rConsA (rC (.int 3)) rNilA)))))
 (sRet (rCB tupleR (rConsA (rFz (rSlF (rFz (rComp [2] (iRng1D (rConsA (rVal (rName 1)) rNilA)) (dName 2) (rTest (rOp eqR (rCall 2 S_law_draw (rConsA (rName 0) (rConsA (rC (.int 3)) rNilA))) (rC (.int 0)))) (rVal (rName 2)))) oNone (oSome (rC (.int 4))))) rNilA))))
@[irreducible] def S_law_tags : DSp := fun as P => ∃ (c : Cn), as = [.io c] ∧ (IsTape c) ∧ (∀ (ts : List Int) c', IsTape c' → ts.length ≤ 4 → P (.v (.tup (ts.map D.int))) [c'])
theorem use_law_tags {c : Cn} {kk : Ret → List Cn → Prop} {bb : BoxK kk} (hc : IsTape c) (hk : ∀ (ts : List Int) c', IsTape c' → ts.length ≤ 4 → kk (.v (.tup (ts.map D.int))) [c']) : callD S_law_tags [.io c] bb := by
  show S_law_tags _ _
  unfold S_law_tags
  exact ⟨c, rfl, hc, hk⟩
def r_distinguished : DSt :=
 (sSeq (sAsgF 5 (rLst rNilA))
 (sSeq (sFor (iEnuD (rConsA (rVal (rName 1)) rNilA)) (dTup 2 (dCons (dName 6) (dCons (dName 7) dNil)))
 (sSeq (sAsg 8 (rCall 2 S_missing_tags (rConsA (rVal (rName 7)) (rConsA (rVal (rName 4)) rNilA))))
 (sIf (rAnd (rTru (rName 8)) (rTru (rCall 4 S_on_the_issue (rConsA (rVal (rName 0)) (rConsA (rVal (rName 7)) (rConsA (rVal (rName 2)) (rConsA (rVal (rName 3)) rNilA)))))))
 (sApp 5 (rTup (rConsA (rVal (rName 6)) (rConsA (rVal (rName 8)) rNilA))))
 sNext)))
 (sRet (rCB tupleR (rConsA (rName 5) rNilA)))))
@[irreducible] def S_distinguished : DSp := fun as P => ∃ (ch : List Int) (ps : List Pc) (c i : Int) (ts : List Int), as = [.val (.ftp (ch.map D.int)), .val (.tup (ps.map pcD)), .val (.int c), .val (.int i), .val (.tup (ts.map D.int))] ∧ (∀ p ∈ ps, p.g.length ≤ 1000) ∧ (ps.length ≤ 1000) ∧ (P (.v (.tup (apF ch c i ts 0 ps))) [])
theorem use_distinguished {ch : List Int} {ps : List Pc} {c i : Int} {ts : List Int} {kk : Ret → List Cn → Prop} {bb : BoxK kk} (hg : ∀ p ∈ ps, p.g.length ≤ 1000) (hl : ps.length ≤ 1000) (hk : kk (.v (.tup (apF ch c i ts 0 ps))) []) : callD S_distinguished [.val (.ftp (ch.map D.int)), .val (.tup (ps.map pcD)), .val (.int c), .val (.int i), .val (.tup (ts.map D.int))] bb := by
  show S_distinguished _ _
  unfold S_distinguished
  exact ⟨ch, ps, c, i, ts, rfl, hg, hl, hk⟩
def r_law_apart : DSt :=
 (sSeq (sAsgF 5 (rLst rNilA))
 (sSeq (sFor (iRng1D (rConsA (rCB lenR (rConsA (rName 1) rNilA)) rNilA)) (dName 6)
 (sSeq (sAsg 7 (rOp ixR (rName 1) (rName 6)))
 (sSeq (sAsg 8 (rCB tupleR (rConsA (rFz (rComp [9] (iSeqD (rOp ixR (rName 7) (rC (.int 6)))) (dName 9) (rTest (rOp (inR true) (rName 9) (rName 4))) (rVal (rName 9)))) rNilA)))
 (sIf (rAnd (rTest (rOp eqR (rOp ixR (rName 7) (rC (.int 3))) (rName 2))) (rAnd (rTest (rOp eqR (rOp ixR (rName 7) (rC (.int 2))) (rName 3))) (rAnd (rTest (rOp (inR false) (rOp ixR (rName 7) (rC (.int 4))) (rSoft (rName 0)))) (rTru (rName 8)))))
 (sApp 5 (rTup (rConsA (rVal (rName 6)) (rConsA (rVal (rName 8)) rNilA))))
 sNext))))
 (sRet (rCB tupleR (rConsA (rName 5) rNilA)))))
@[irreducible] def S_law_apart : DSp := fun as P => ∃ (ch : List Int) (ps : List Pc) (c i : Int) (ts : List Int), as = [.val (.ftp (ch.map D.int)), .val (.tup (ps.map pcD)), .val (.int c), .val (.int i), .val (.tup (ts.map D.int))] ∧ (∀ p ∈ ps, p.g.length ≤ 1000) ∧ (ps.length ≤ 1000) ∧ (P (.v (.tup (apF ch c i ts 0 ps))) [])
theorem use_law_apart {ch : List Int} {ps : List Pc} {c i : Int} {ts : List Int} {kk : Ret → List Cn → Prop} {bb : BoxK kk} (hg : ∀ p ∈ ps, p.g.length ≤ 1000) (hl : ps.length ≤ 1000) (hk : kk (.v (.tup (apF ch c i ts 0 ps))) []) : callD S_law_apart [.val (.ftp (ch.map D.int)), .val (.tup (ps.map pcD)), .val (.int c), .val (.int i), .val (.tup (ts.map D.int))] bb := by
  show S_law_apart _ _
  unfold S_law_apart
  exact ⟨ch, ps, c, i, ts, rfl, hg, hl, hk⟩
def r_law_control : DSt :=
 (sSeq (sAsg 5 (rC .non))
 (sSeq (sFor (iSeqD (rVal (rName 1))) (dName 6)
 (sIf (rAnd (rTest (rOp eqR (rOp ixR (rName 6) (rC (.int 3))) (rName 2))) (rAnd (rTest (rOp eqR (rOp ixR (rName 6) (rC (.int 2))) (rName 3))) (rTest (rOp (inR false) (rOp ixR (rName 6) (rC (.int 4))) (rSoft (rName 0))))))
 (sIf (rTest (rOp eqR (rCB lenR (rConsA (rFz (rComp [8] (iSeqD (rOp ixR (rName 6) (rC (.int 6)))) (dName 8) (rTest (rOp (inR true) (rName 8) (rName 4))) (rVal (rName 8)))) rNilA)) (rC (.int 0))))
 (sSeq (sAsg 7 (rB1 "ftp" indexFR (rName 0) (rOp ixR (rName 6) (rC (.int 4)))))
 (sIf (rOr (rTest (rOp isNR (rName 5) (rC .non))) (rTest (rOp geR (rName 7) (rOp ixR (rName 5) (rC (.int 0))))))
 (sAsg 5 (rTup (rConsA (rVal (rName 7)) (rConsA (rOp ixR (rName 6) (rC (.int 5))) rNilA))))
 sNext))
 sNext)
 sNext))
 (sRet (rVal (rName 5)))))
@[irreducible] def S_law_control : DSp := fun as P => ∃ (ch : List Int) (ps : List Pc) (c i : Int) (ts : List Int), as = [.val (.ftp (ch.map D.int)), .val (.tup (ps.map pcD)), .val (.int c), .val (.int i), .val (.tup (ts.map D.int))] ∧ (∀ p ∈ ps, p.g.length ≤ 1000) ∧ (P (.v (ctlD (ctlF ch ps c i ts))) [])
theorem use_law_control {ch : List Int} {ps : List Pc} {c i : Int} {ts : List Int} {kk : Ret → List Cn → Prop} {bb : BoxK kk} (hg : ∀ p ∈ ps, p.g.length ≤ 1000) (hk : kk (.v (ctlD (ctlF ch ps c i ts))) []) : callD S_law_control [.val (.ftp (ch.map D.int)), .val (.tup (ps.map pcD)), .val (.int c), .val (.int i), .val (.tup (ts.map D.int))] bb := by
  show S_law_control _ _
  unfold S_law_control
  exact ⟨ch, ps, c, i, ts, rfl, hg, hk⟩
def r_law_looked : DSt :=
 (sSeq (sAsg 5 (rOp ixR (rFz (rLst (rConsA (rCall 1 S_law_tags (rConsA (rName 0) rNilA)) (rConsA (rVal (rName 4)) rNilA)))) (rCall 2 S_law_draw (rConsA (rName 0) (rConsA (rC (.int 2)) rNilA)))))
 (sSeq (sAsg 6 (rCall 5 S_controlling_precedent (rConsA (rVal (rName 1)) (rConsA (rVal (rName 2)) (rConsA (rOp ixR (rName 3) (rC (.int 0))) (rConsA (rOp ixR (rName 3) (rC (.int 1))) (rConsA (rVal (rName 5)) rNilA)))))))
 (sSeq (sIf (rNot (rTru (rCall 2 S_law_same (rConsA (rVal (rName 6)) (rConsA (rCall 5 S_law_control (rConsA (rVal (rName 1)) (rConsA (rVal (rName 2)) (rConsA (rOp ixR (rName 3) (rC (.int 0))) (rConsA (rOp ixR (rName 3) (rC (.int 1))) (rConsA (rVal (rName 5)) rNilA)))))) rNilA)))))
 (sRet (rC (.bl false)))
 sNext)
 (sSeq (sAsg 7 (rCall 5 S_law_apart (rConsA (rVal (rName 1)) (rConsA (rVal (rName 2)) (rConsA (rOp ixR (rName 3) (rC (.int 0))) (rConsA (rOp ixR (rName 3) (rC (.int 1))) (rConsA (rVal (rName 5)) rNilA)))))))
 (sSeq (sIf (rNot (rTru (rCall 2 S_law_same (rConsA (rCall 5 S_distinguished (rConsA (rVal (rName 1)) (rConsA (rVal (rName 2)) (rConsA (rOp ixR (rName 3) (rC (.int 0))) (rConsA (rOp ixR (rName 3) (rC (.int 1))) (rConsA (rVal (rName 5)) rNilA)))))) (rConsA (rVal (rName 7)) rNilA)))))
 (sRet (rC (.bl false)))
 sNext)
 (sSeq (sAsg 8 (rCB tupleR (rConsA (rFz (rSlF (rFz (rCBF sortedR (rConsA (rFz (rOpF catR (rFz (rCBF listR2 (rConsA (rName 5) rNilA))) (rFz (rComp [12] (iSeqD (rCall 1 S_law_tags (rConsA (rName 0) rNilA))) (dName 12) (rTest (rOp (inR true) (rName 12) (rName 5))) (rVal (rName 12)))))) rNilA))) oNone (oSome (rC (.int 4))))) rNilA)))
 (sSeq (sIf (rAnd (rTest (rOp eqR (rCB lenR (rConsA (rFz (rComp [12] (iSeqD (rVal (rName 5))) (dName 12) (rTest (rOp (inR true) (rName 12) (rName 8))) (rVal (rName 12)))) rNilA)) (rC (.int 0)))) (rTest (rOp isnNR (rName 6) (rC .non))))
 (sSeq (sAsg 11 (rCall 5 S_controlling_precedent (rConsA (rVal (rName 1)) (rConsA (rVal (rName 2)) (rConsA (rOp ixR (rName 3) (rC (.int 0))) (rConsA (rOp ixR (rName 3) (rC (.int 1))) (rConsA (rVal (rName 8)) rNilA)))))))
 (sIf (rOr (rTest (rOp isNR (rName 11) (rC .non))) (rTest (rOp ltR (rOp ixR (rName 11) (rC (.int 0))) (rOp ixR (rName 6) (rC (.int 0))))))
 (sRet (rC (.bl false)))
 sNext))
 sNext)
 (sSeq (sAsg 9 (rCall 2 S_law_draw (rConsA (rName 0) (rConsA (rCB lenR (rConsA (rSoft (rName 1)) rNilA)) rNilA))))
 (sSeq (sAsg 10 (rCall 5 S_controlling_precedent (rConsA (rSlPD (rName 1) (oSome (rName 9)) oNone) (rConsA (rVal (rName 2)) (rConsA (rOp ixR (rName 3) (rC (.int 0))) (rConsA (rOp ixR (rName 3) (rC (.int 1))) (rConsA (rVal (rName 5)) rNilA)))))))
 (sSeq (sIf (rTest (rOp isnNR (rName 10) (rC .non)))
 (sRet (rCall 2 S_law_same (rConsA (rVal (rName 6)) (rConsA (rCall 2 S_law_upper (rConsA (rVal (rName 9)) (rConsA (rVal (rName 10)) rNilA))) rNilA))))
 sNext)
 (sSeq (sIf (rTest (rOp eqR (rName 9) (rC (.int 0))))
 (sRet (rOp isNR (rName 6) (rC .non)))
 sNext)
 (sRet (rCall 2 S_law_same (rConsA (rVal (rName 6)) (rConsA (rCall 5 S_controlling_precedent (rConsA (rSlPD (rName 1) oNone (oSome (rName 9))) (rConsA (rVal (rName 2)) (rConsA (rOp ixR (rName 3) (rC (.int 0))) (rConsA (rOp ixR (rName 3) (rC (.int 1))) (rConsA (rVal (rName 5)) rNilA)))))) rNilA)))))))))))))))
@[irreducible] def S_law_looked : DSp := fun as P => ∃ (c : Cn) (ch : List Int) (ps : List Pc) (k i : Int) (rq : List Int), as = [.io c, .val (.ftp (ch.map D.int)), .val (.tup (ps.map pcD)), .val (.tup [.int k, .int i]), .val (.tup (rq.map D.int))] ∧ (IsTape c) ∧ (1 ≤ ch.length) ∧ (ch.length ≤ 10) ∧ (ch.Nodup) ∧ (∀ p ∈ ps, p.g.length ≤ 1000) ∧ (ps.length ≤ 1000) ∧ (rq.length ≤ 4) ∧ (∀ c', IsTape c' → P (.v (.bl true)) [c'])
theorem use_law_looked {c : Cn} {ch : List Int} {ps : List Pc} {k i : Int} {rq : List Int} {kk : Ret → List Cn → Prop} {bb : BoxK kk} (hc : IsTape c) (n1 : 1 ≤ ch.length) (n2 : ch.length ≤ 10) (nd : ch.Nodup) (hg : ∀ p ∈ ps, p.g.length ≤ 1000) (hl : ps.length ≤ 1000) (hr : rq.length ≤ 4) (hk : ∀ c', IsTape c' → kk (.v (.bl true)) [c']) : callD S_law_looked [.io c, .val (.ftp (ch.map D.int)), .val (.tup (ps.map pcD)), .val (.tup [.int k, .int i]), .val (.tup (rq.map D.int))] bb := by
  show S_law_looked _ _
  unfold S_law_looked
  exact ⟨c, ch, ps, k, i, rq, rfl, hc, n1, n2, nd, hg, hl, hr, hk⟩
def r_law_is_bound : DSt :=
 (sSeq (sFor (iRng1D (rConsA (rC (.int 6)) rNilA)) (dName 5)
 (sSeq (sAsg 6 (rCall 5 S_controlling_precedent (rConsA (rVal (rName 0)) (rConsA (rVal (rName 1)) (rConsA (rOp ixR (rOp ixR (rName 2) (rName 5)) (rC (.int 0))) (rConsA (rOp ixR (rOp ixR (rName 2) (rName 5)) (rC (.int 1))) (rConsA (rOp ixR (rName 3) (rC (.int 6))) rNilA)))))))
 (sIf (rTest (rOp neR (rOp ixR (rName 2) (rName 5)) (rTup (rConsA (rOp ixR (rName 3) (rC (.int 3))) (rConsA (rOp ixR (rName 3) (rC (.int 2))) rNilA)))))
 (sIf (rNot (rTru (rCall 2 S_law_same (rConsA (rVal (rName 6)) (rConsA (rOp ixR (rName 4) (rName 5)) rNilA)))))
 (sRet (rC (.bl false)))
 sNext)
 (sIf (rTest (rOp (inR false) (rOp ixR (rName 3) (rC (.int 4))) (rSoft (rName 0))))
 (sSeq (sAsg 7 (rB1 "ftp" indexFR (rName 0) (rOp ixR (rName 3) (rC (.int 4)))))
 (sIf (rOr (rTest (rOp isNR (rName 6) (rC .non))) (rOr (rTest (rOp ltR (rOp ixR (rName 6) (rC (.int 0))) (rName 7))) (rAnd (rTest (rOp eqR (rOp ixR (rName 6) (rC (.int 0))) (rName 7))) (rTest (rOp neR (rOp ixR (rName 6) (rC (.int 1))) (rOp ixR (rName 3) (rC (.int 5))))))))
 (sRet (rC (.bl false)))
 sNext))
 sNext))))
 (sRet (rC (.bl true))))
@[irreducible] def S_law_is_bound : DSp := fun as P => ∃ (ch : List Int) (ps : List Pc) (qs : List (Int × Int)) (p : Pc), as = [.val (.ftp (ch.map D.int)), .val (.tup ((recF ps p).map pcD)), .val (.lst (qs.map fun q => .tup [.int q.1, .int q.2])), .val (pcD p), .val (.lst (qs.map fun q => ctlD (ctlF ch ps q.1 q.2 p.g)))] ∧ (∀ q ∈ recF ps p, q.g.length ≤ 1000) ∧ (ps.length ≤ 1000) ∧ (qs.length = 6) ∧ (∀ q ∈ ps, sameK q p = true → q.c = p.c) ∧ (P (.v (.bl true)) [])
theorem use_law_is_bound {ch : List Int} {ps : List Pc} {qs : List (Int × Int)} {p : Pc} {kk : Ret → List Cn → Prop} {bb : BoxK kk} (hg : ∀ q ∈ recF ps p, q.g.length ≤ 1000) (hl : ps.length ≤ 1000) (hq : qs.length = 6) (hc : ∀ q ∈ ps, sameK q p = true → q.c = p.c) (hk : kk (.v (.bl true)) []) : callD S_law_is_bound [.val (.ftp (ch.map D.int)), .val (.tup ((recF ps p).map pcD)), .val (.lst (qs.map fun q => .tup [.int q.1, .int q.2])), .val (pcD p), .val (.lst (qs.map fun q => ctlD (ctlF ch ps q.1 q.2 p.g)))] bb := by
  show S_law_is_bound _ _
  unfold S_law_is_bound
  exact ⟨ch, ps, qs, p, rfl, hg, hl, hq, hc, hk⟩
def r_record_precedent : DSt :=
 (sRet (rTup (rStarA (rFz (rComp [2] (iSeqD (rVal (rName 0))) (dName 2) (rTest (rOp neR (rSl (rName 2) oNone (oSome (rC (.int 3)))) (rSl (rName 1) oNone (oSome (rC (.int 3)))))) (rVal (rName 2)))) (rConsA (rVal (rName 1)) rNilA))))
@[irreducible] def S_record_precedent : DSp := fun as P => ∃ (ps : List Pc) (p : Pc), as = [.val (.tup (ps.map pcD)), .val (pcD p)] ∧ (ps.length ≤ 1000) ∧ (P (.v (.tup ((recF ps p).map pcD))) [])
theorem use_record_precedent {ps : List Pc} {p : Pc} {kk : Ret → List Cn → Prop} {bb : BoxK kk} (hl : ps.length ≤ 1000) (hk : kk (.v (.tup ((recF ps p).map pcD))) []) : callD S_record_precedent [.val (.tup (ps.map pcD)), .val (pcD p)] bb := by
  show S_record_precedent _ _
  unfold S_record_precedent
  exact ⟨ps, p, rfl, hl, hk⟩
def r_law_recorded : DSt :=
 (sRet (rOp addR (rCB tupleR (rConsA (rFz (rComp [2] (iSeqD (rVal (rName 0))) (dName 2) (rTest (rOp neR (rSl (rName 2) oNone (oSome (rC (.int 3)))) (rSl (rName 1) oNone (oSome (rC (.int 3)))))) (rVal (rName 2)))) rNilA)) (rTup (rConsA (rVal (rName 1)) rNilA))))
@[irreducible] def S_law_recorded : DSp := fun as P => ∃ (ps : List Pc) (p : Pc), as = [.val (.tup (ps.map pcD)), .val (pcD p)] ∧ (ps.length ≤ 1000) ∧ (P (.v (.tup ((recF ps p).map pcD))) [])
theorem use_law_recorded {ps : List Pc} {p : Pc} {kk : Ret → List Cn → Prop} {bb : BoxK kk} (hl : ps.length ≤ 1000) (hk : kk (.v (.tup ((recF ps p).map pcD))) []) : callD S_law_recorded [.val (.tup (ps.map pcD)), .val (pcD p)] bb := by
  show S_law_recorded _ _
  unfold S_law_recorded
  exact ⟨ps, p, rfl, hl, hk⟩
def r_law_ruling : DSt :=
 (sSeq (sAsg 4 (rOp ixR (rName 2) (rCall 2 S_law_draw (rConsA (rName 0) (rConsA (rCB lenR (rConsA (rName 2) rNilA)) rNilA)))))
 (sSeq (sAsg 5 (rOp ixR (rFz (rOpF catR (rFz (rCBF listR2 (rConsA (rSoft (rName 1)) rNilA))) (rFz (rLst (rConsA (rCall 2 S_law_draw (rConsA (rName 0) (rConsA (rC (.int 10)) rNilA))) rNilA))))) (rCall 2 S_law_draw (rConsA (rName 0) (rConsA (rOp addR (rCB lenR (rConsA (rSoft (rName 1)) rNilA)) (rC (.int 1))) rNilA)))))
 (sSeq (sAsg 6 (rTup (rConsA (rOp ixR (rName 4) (rC (.int 0))) (rConsA (rOp ixR (rName 4) (rC (.int 1))) (rConsA (rOp ixR (rName 3) (rCall 2 S_law_draw (rConsA (rName 0) (rConsA (rC (.int 2)) rNilA)))) (rConsA (rOp ixR (rName 4) (rC (.int 2))) (rConsA (rVal (rName 5)) (rConsA (rOp eqR (rCall 2 S_law_draw (rConsA (rName 0) (rConsA (rC (.int 2)) rNilA))) (rC (.int 1))) rNilA))))))))
 (sRet (rOp addR (rName 6) (rTup (rConsA (rCall 1 S_law_tags (rConsA (rName 0) rNilA)) rNilA)))))))
@[irreducible] def S_law_ruling : DSp := fun as P => ∃ (c : Cn) (ch : List Int) (xs : List Cl3) (i1 i2 : Int), as = [.io c, .val (.ftp (ch.map D.int)), .val (.lst (xs.map cl3D)), .val (.lst [.int i1, .int i2])] ∧ (IsTape c) ∧ (1 ≤ ch.length) ∧ (ch.length ≤ 10) ∧ (1 ≤ xs.length) ∧ (xs.length ≤ 32) ∧ (∀ (p : Pc) c', IsTape c' → p.g.length ≤ 4 → (∃ x ∈ xs, p.a = x.a ∧ p.b = x.b ∧ p.c = x.c) → p.i = i1 ∨ p.i = i2 → P (.v (pcD p)) [c'])
theorem use_law_ruling {c : Cn} {ch : List Int} {xs : List Cl3} {i1 i2 : Int} {kk : Ret → List Cn → Prop} {bb : BoxK kk} (hc : IsTape c) (n1 : 1 ≤ ch.length) (n2 : ch.length ≤ 10) (x1 : 1 ≤ xs.length) (x2 : xs.length ≤ 32) (hk : ∀ (p : Pc) c', IsTape c' → p.g.length ≤ 4 → (∃ x ∈ xs, p.a = x.a ∧ p.b = x.b ∧ p.c = x.c) → p.i = i1 ∨ p.i = i2 → kk (.v (pcD p)) [c']) : callD S_law_ruling [.io c, .val (.ftp (ch.map D.int)), .val (.lst (xs.map cl3D)), .val (.lst [.int i1, .int i2])] bb := by
  show S_law_ruling _ _
  unfold S_law_ruling
  exact ⟨c, ch, xs, i1, i2, rfl, hc, n1, n2, x1, x2, hk⟩
def r_law_claims : DSt :=
 (sSeq (sAsg 3 (rCall 2 S_law_draw (rConsA (rName 0) (rConsA (rOp subR (rC (.int 101)) (rName 1)) rNilA))))
 (sSeq (sAsg 4 (rCall 2 S_law_draw (rConsA (rName 0) (rConsA (rC (.int 9)) rNilA))))
 (sSeq (sAsgF 5 (rLst (rConsA (rVal (rName 4)) (rConsA (rOp addR (rOp addR (rName 4) (rC (.int 1))) (rCall 2 S_law_draw (rConsA (rName 0) (rConsA (rOp subR (rC (.int 9)) (rName 4)) rNilA)))) rNilA))))
 (sSeq (sAsgF 6 (rLst rNilA))
 (sSeq (sFor (iRng1D (rConsA (rOp mulR (rC (.int 2)) (rName 1)) rNilA)) (dName 7)
 (sApp 6 (rTup (rConsA (rOp addR (rName 3) (rOp divR (rName 7) (rC (.int 2)))) (rConsA (rOp ixR (rName 5) (rOp modR (rCB intR (rConsA (rName 7) rNilA)) (rC (.int 2)))) (rConsA (rOp ixR (rName 2) (rCall 2 S_law_draw (rConsA (rName 0) (rConsA (rC (.int 3)) rNilA)))) rNilA))))))
 (sRet (rVal (rName 6))))))))
@[irreducible] def S_law_claims : DSp := fun as P => ∃ (c : Cn) (n : Nat) (cs : List Int), as = [.io c, .val (.int (n : Int)), .val (.lst (cs.map D.int))] ∧ (IsTape c) ∧ (1 ≤ n) ∧ (n ≤ 16) ∧ (cs.length = 3) ∧ (∀ (xs : List Cl3) c', IsTape c' → xs.length = 2 * n → (∀ x ∈ xs, x.c ∈ cs) → (∀ x ∈ xs, ∀ y ∈ xs, x.a = y.a → x.b = y.b → x.c = y.c) → P (.v (.lst (xs.map cl3D))) [c'])
theorem use_law_claims {c : Cn} {n : Nat} {cs : List Int} {kk : Ret → List Cn → Prop} {bb : BoxK kk} (hc : IsTape c) (h1 : 1 ≤ n) (h2 : n ≤ 16) (h3 : cs.length = 3) (hk : ∀ (xs : List Cl3) c', IsTape c' → xs.length = 2 * n → (∀ x ∈ xs, x.c ∈ cs) → (∀ x ∈ xs, ∀ y ∈ xs, x.a = y.a → x.b = y.b → x.c = y.c) → kk (.v (.lst (xs.map cl3D))) [c']) : callD S_law_claims [.io c, .val (.int (n : Int)), .val (.lst (cs.map D.int))] bb := by
  show S_law_claims _ _
  unfold S_law_claims
  exact ⟨c, n, cs, rfl, hc, h1, h2, h3, hk⟩
def r_law_order : DSt :=
 (sSeq (sAsgF 2 (rLstRg (rName 1)))
 (sSeq (sAsgF 3 (rLst rNilA))
 (sSeq (sFor (iRng1D (rConsA (rVal (rName 1)) rNilA)) (dName 4)
 (sApp 3 (rPopI 2 (rCall 2 S_law_draw (rConsA (rName 0) (rConsA (rCB lenR (rConsA (rName 2) rNilA)) rNilA))))))
 (sRet (rVal (rName 3))))))
theorem er_perm {α : Type} : ∀ {l : List α} {j : Nat} (h : j < l.length), (l[j] :: l.eraseIdx j).Perm l
  | x :: l, 0, _ => List.Perm.refl _
  | x :: l, j + 1, h => by
    have := er_perm (l := l) (j := j) (by simpa using h)
    show (l[j]'(by simpa using h) :: x :: l.eraseIdx j).Perm (x :: l)
    exact (List.Perm.swap _ _ _).trans (this.cons x)
theorem er_map {α β : Type} (f : α → β) : ∀ (l : List α) (j : Nat), (l.map f).eraseIdx j = (l.eraseIdx j).map f
  | [], _ => rfl
  | _ :: _, 0 => rfl
  | x :: l, j + 1 => by
    show f x :: (l.map f).eraseIdx j = f x :: (l.eraseIdx j).map f
    rw [er_map f l j]
@[irreducible] def S_law_order : DSp := fun as P => ∃ (c : Cn) (m : Nat), as = [.io c, .val (.int (m : Int))] ∧ IsTape c ∧ m ≤ 1000 ∧ ∀ (os : List Int) c', IsTape c' → os.length = m → (∀ o ∈ os, 0 ≤ o ∧ o < (m : Int)) → os.Perm ((List.range m).map fun (k : Nat) => (k : Int)) → P (.v (.lst (os.map D.int))) [c']
theorem use_order {c : Cn} {m : Nat} {kk : Ret → List Cn → Prop} {b : BoxK kk} (hc : IsTape c) (hm : m ≤ 1000) (hk : ∀ (os : List Int) c', IsTape c' → os.length = m → (∀ o ∈ os, 0 ≤ o ∧ o < (m : Int)) → os.Perm ((List.range m).map fun (k : Nat) => (k : Int)) → kk (.v (.lst (os.map D.int))) [c']) : callD S_law_order [.io c, .val (.int (m : Int))] b := by
  show S_law_order _ _
  unfold S_law_order
  exact ⟨c, m, rfl, hc, hm, hk⟩
def r_law_tape : DSt :=
 (sSeq (sAsg 1 (rC (.int 7)))
 (sSeq (sFor (iSeqD (rVal (rName 0))) (dName 2)
 (sAsg 1 (rOp modR (rCB intR (rConsA (rOp addR (rOp mulR (rName 1) (rC (.int 31))) (rCB absR (rConsA (rCB intR (rConsA (rName 2) rNilA)) rNilA))) rNilA)) (rC (.int 2147483647)))))
 (sRetF (rLst (rConsA (rFz (rCBF listR2 (rConsA (rName 0) rNilA))) (rConsA (rC (.int 0)) (rConsA (rC (.int 0)) (rConsA (rVal (rName 1)) rNilA))))))))
@[irreducible] def S_law_tape : DSp := fun as P => ∃ ns : List Int, as = [.val (.rol (ns.map D.int))] ∧ ns.length ≤ 63 ∧ ∀ t : Int, P (.f [.lst (ns.map D.int), .int 0, .int 0, .int t]) []
theorem use_tape {ns : List Int} {k : Ret → List Cn → Prop} {b : BoxK k} (h : ns.length ≤ 63) (hk : ∀ c, IsTape (.lst c) → k (.f c) []) : callD S_law_tape [.val (.rol (ns.map D.int))] b := by
  show S_law_tape _ _
  unfold S_law_tape
  exact ⟨ns, rfl, h, fun t => hk _ (isTape (by decide))⟩
def r_law_k30 : DSt :=
 (sSeq (sAsgF 1 (rCallF 1 S_law_tape (rConsA (rVal (rName 0)) rNilA)))
 (sSeq (sAsg 2 (rCB tupleFR (rConsA (rFz (rSlF (rCall 2 S_law_order (rConsA (rName 1) (rConsA (rC (.int 10)) rNilA))) oNone (oSome (rOp addR (rC (.int 1)) (rCall 2 S_law_draw (rConsA (rName 1) (rConsA (rC (.int 6)) rNilA))))))) rNilA)))
 (sSeq (sAsg 3 (rOp eqR (rCall 2 S_law_draw (rConsA (rName 1) (rConsA (rC (.int 8)) rNilA))) (rC (.int 0))))
 (sSeq (sAsgF 4 (rLst (rConsA (rCall 2 S_law_draw (rConsA (rName 1) (rConsA (rC (.int 2)) rNilA))) (rConsA (rOp addR (rC (.int 2)) (rCall 2 S_law_draw (rConsA (rName 1) (rConsA (rC (.int 4)) rNilA)))) (rConsA (rOp addR (rC (.int 6)) (rCall 2 S_law_draw (rConsA (rName 1) (rConsA (rC (.int 4)) rNilA)))) rNilA)))))
 (sSeq (sAsg 5 (rCall 3 S_law_claims (rConsA (rName 1) (rConsA (rOp ixR (rFz (rLst (rConsA (rC (.int 2)) (rConsA (rC (.int 16)) rNilA)))) (rCB intR (rConsA (rName 3) rNilA))) (rConsA (rVal (rName 4)) rNilA)))))
 (sSeq (sAsgF 6 (rLst (rConsA (rCall 2 S_law_draw (rConsA (rName 1) (rConsA (rC (.int 3)) rNilA))) (rConsA (rOp addR (rC (.int 3)) (rCall 2 S_law_draw (rConsA (rName 1) (rConsA (rC (.int 7)) rNilA)))) rNilA))))
 (sSeq (sAsgF 7 (rLst rNilA))
 (sSeq (sFor (iSeqD (rVal (rName 4))) (dName 8)
 (sAsgF 7 (rOpF catR (rName 7) (rFz (rLst (rConsA (rTup (rConsA (rVal (rName 8)) (rConsA (rOp ixR (rName 6) (rC (.int 0))) rNilA))) (rConsA (rTup (rConsA (rVal (rName 8)) (rConsA (rOp ixR (rName 6) (rC (.int 1))) rNilA))) rNilA)))))))
 (sSeq (sAsg 9 (rTup rNilA))
 (sSeq (sAsg 10 (rTup rNilA))
 (sSeq (sFor (iRng1D (rConsA (rOp ixR (rFz (rLst (rConsA (rOp addR (rC (.int 1)) (rCall 2 S_law_draw (rConsA (rName 1) (rConsA (rC (.int 12)) rNilA)))) (rConsA (rC (.int 30)) rNilA)))) (rCB intR (rConsA (rName 3) rNilA))) rNilA)) (dName 11)
 (sSeq (sAsg 12 (rCall 4 S_law_ruling (rConsA (rName 1) (rConsA (rVal (rName 2)) (rConsA (rVal (rName 5)) (rConsA (rVal (rName 6)) rNilA))))))
 (sSeq (sAsg 13 (rCall 4 S_law_ruling (rConsA (rName 1) (rConsA (rVal (rName 2)) (rConsA (rVal (rName 5)) (rConsA (rVal (rName 6)) rNilA))))))
 (sSeq (sAsg 13 (rOp addR (rOp addR (rSl (rName 13) oNone (oSome (rC (.int 3)))) (rTup (rConsA (rOp ixR (rFz (rLst (rConsA (rOp ixR (rName 13) (rC (.int 3))) (rConsA (rCall 2 S_law_draw (rConsA (rName 1) (rConsA (rC (.int 10)) rNilA))) rNilA)))) (rCall 2 S_law_draw (rConsA (rName 1) (rConsA (rC (.int 2)) rNilA)))) rNilA))) (rSl (rName 13) (oSome (rC (.int 4))) oNone)))
 (sSeq (sAsgF 14 (rComp [15] (iSeqD (rVal (rName 7))) (dName 15) rYes (rCall 5 S_controlling_precedent (rConsA (rVal (rName 2)) (rConsA (rVal (rName 10)) (rConsA (rOp ixR (rName 15) (rC (.int 0))) (rConsA (rOp ixR (rName 15) (rC (.int 1))) (rConsA (rOp ixR (rName 12) (rC (.int 6))) rNilA))))))))
 (sSeq (sFor (iSeqD (rFz (rLst (rConsA (rTup (rConsA (rVal (rName 10)) (rConsA (rVal (rName 12)) rNilA))) (rConsA (rTup (rConsA (rVal (rName 9)) (rConsA (rVal (rName 12)) rNilA))) (rConsA (rTup (rConsA (rVal (rName 10)) (rConsA (rVal (rName 13)) rNilA))) (rConsA (rTup (rConsA (rVal (rName 10)) (rConsA (rVal (rName 12)) rNilA))) rNilA))))))) (dName 15)
 (sIf (rNot (rTru (rCall 2 S_law_same (rConsA (rCall 2 S_record_precedent (rConsA (rOp ixR (rName 15) (rC (.int 0))) (rConsA (rOp ixR (rName 15) (rC (.int 1))) rNilA))) (rConsA (rCall 2 S_law_recorded (rConsA (rOp ixR (rName 15) (rC (.int 0))) (rConsA (rOp ixR (rName 15) (rC (.int 1))) rNilA))) rNilA)))))
 (sRet (rC (.bl false)))
 sNext))
 (sSeq (sAsg 9 (rVal (rName 10)))
 (sSeq (sAsg 10 (rCall 2 S_record_precedent (rConsA (rVal (rName 10)) (rConsA (rVal (rName 12)) rNilA))))
 (sSeq (sIf (rNot (rTru (rCall 5 S_law_is_bound (rConsA (rVal (rName 2)) (rConsA (rVal (rName 10)) (rConsA (rVal (rName 7)) (rConsA (rVal (rName 12)) (rConsA (rVal (rName 14)) rNilA))))))))
 (sRet (rC (.bl false)))
 sNext)
 (sIf (rNot (rTru (rCall 5 S_law_looked (rConsA (rName 1) (rConsA (rVal (rName 2)) (rConsA (rVal (rName 10)) (rConsA (rOp ixR (rName 7) (rCall 2 S_law_draw (rConsA (rName 1) (rConsA (rC (.int 6)) rNilA)))) (rConsA (rOp ixR (rName 12) (rC (.int 6))) rNilA))))))))
 (sRet (rC (.bl false)))
 sNext))))))))))
 (sRet (rC (.bl true))))))))))))))
theorem ok_law_draw : ∀ as P, as.length = 2 → S_law_draw as P → r_law_draw { nx := fun δ => P (.v .non) (outsOf 0 as δ), rt := fun rt δ => P rt (outsOf 0 as δ) } (startD 4 as) := by
  intro as P _ h
  unfold S_law_draw at h
  obtain ⟨c, many, rfl, ⟨ns, i, n, t, rfl, hi⟩, hm, hP⟩ := h
  have fin : ∀ (z : Int) (m : Int), 0 < m → (1 ≤ many → m ≤ many) → 0 ≤ z % m ∧ (1 ≤ many → z % m < many) := fun z m h0 h1 => ⟨Int.emod_nonneg _ (by omega), fun h => Int.lt_of_lt_of_le (Int.emod_lt_of_pos _ h0) (h1 h)⟩
  have tail : ∀ (z : Int) (j t : Int) (v : Sl), 0 ≤ j → (∀ c', IsTape c' → P (.v (.int (z % (if 1 > many then 1 else many)))) [c']) := fun z j t v hj c' hc => by
    obtain ⟨g1, g2⟩ := fin z (if 1 > many then 1 else many) (by split <;> omega) (by intro h; split <;> omega)
    exact hP _ c' hc g1 g2
  have rest : ∀ (z : Int) (j t : Int) (v : Sl), 0 ≤ j → P (.v (.int (z % (if 1 > many then 1 else many)))) [.lst [.lst (ns.map D.int), .int j, .int (z / (if 2 > many then 2 else many)), .int t]] := fun z j t v hj => tail z j t v hj _ (isTape hj)
  unfold r_law_draw tapeC
  walk_at "ev"
  have mn : ∀ m : Int, 0 < m → 0 < if m > many then m else many := fun m h => by split <;> omega
  refine br_i (fun h => ?_) (fun h => ?_)
  · walk_at "ev"
    refine br_i (fun h1 => ?_) (fun h1 => ?_)
    · obtain ⟨x, e1, e2⟩ := atI_in (xs := ns) hi (by simpa using h1)
      have e3 : atI (ns.map D.int) i = some (.int x) := by rw [atI_map, e1]; rfl
      walk_at "ev"
      simp only [e3]
      walk_at "ev"
      refine br_i (fun h2 => ?_) (fun h2 => ?_)
      · walk_at "ev"
        exact ⟨mn 1 (by decide), tail _ 0 0 .no (by omega) _ (isTape (by omega))⟩
      · walk_at "ev"
        exact ⟨⟨mn 2 (by decide), by split <;> omega⟩, mn 1 (by decide), rest _ _ _ .no (by omega)⟩
    · walk_at "ev"
      refine br_i (fun h2 => ?_) (fun h2 => ?_)
      · walk_at "ev"
        exact ⟨mn 1 (by decide), tail _ 0 0 .no (by omega) _ (isTape (by omega))⟩
      · walk_at "ev"
        exact ⟨⟨mn 2 (by decide), by split <;> omega⟩, mn 1 (by decide), rest _ _ _ .no (by omega)⟩
  · walk_at "ev"
    exact ⟨⟨mn 2 (by decide), by split <;> omega⟩, mn 1 (by decide), rest _ _ _ .no hi⟩
theorem ok_law_same : ∀ n as P, as.length = 2 → Sn_law_same (n + 1) as P → r_law_same (Sn_law_same n) { nx := fun δ => P (.v .non) (outsOf 0 as δ), rt := fun rt δ => P rt (outsOf 0 as δ) } (startD 3 as) := by
  intro n as P _ h
  unfold Sn_law_same at h
  obtain ⟨a, b, rfl, h1, h2, hP⟩ := h
  unfold r_law_same
  cases b with
  | non =>
    unfold sameD at hP
    cases a <;> walk_at "go"
    all_goals first | exact hP | (cases n <;> exact h1.elim)
  | bl b =>
    unfold sameD at hP
    cases a <;> walk_at "go"
    all_goals first | exact hP | (cases n <;> exact h1.elim)
  | int b =>
    unfold sameD at hP
    cases a <;> walk_at "go"
    all_goals first | exact hP | (cases n <;> exact h1.elim)
  | str b =>
    unfold sameD at hP
    cases a <;> walk_at "go"
    all_goals first | exact hP | (cases n <;> exact h1.elim)
  | lst ds => cases n <;> exact h2.elim
  | rol ds => cases n <;> exact h2.elim
  | ptr _ => cases n <;> exact h2.elim
  | ftp _ => cases n <;> exact h2.elim
  | tup ys =>
    cases n with
    | zero => exact h2.elim
    | succ n =>
      obtain ⟨hl, hp⟩ := h2
      cases a with
      | tup xs =>
        obtain ⟨hl1, hp1⟩ := h1
        unfold sameD at hP
        walk_at "go"
        refine br_i (fun g => ?_) (fun g => ?_) <;> walk_at "go"
        · have hf : sameDs xs ys = false := by
            rw [← Bool.not_eq_true]
            intro z
            have := sameDs_len z
            omega
          rw [hf] at hP
          exact hP
        · have hxy : xs.length = ys.length := by omega
          rw [rngD_nats]
          refine comp_of (p := fun i => !sameD (xs.getD i .non) (ys.getD i .non)) (f := nI) (fun i hi K1 K2 y1 y2 => ?_) (by rw [List.length_range]; omega) ?_
          · have hi := List.mem_range.mp hi
            have hix : i < xs.length := by omega
            unfold nI
            walk_at "go"
            rw [atI_at hix, optD_some]
            walk_at "go"
            rw [atI_at hi, optD_some]
            walk_at "go"
            have e1 : xs.getD i .non = xs[i] := by rw [List.getD_eq_getElem?_getD, List.getElem?_eq_getElem hix]; rfl
            have e2 : ys.getD i .non = ys[i] := by rw [List.getD_eq_getElem?_getD, List.getElem?_eq_getElem hi]; rfl
            rw [e1, e2] at y1 y2
            refine use_law_same (hp1 _ (List.getElem_mem hix)) (hp _ (List.getElem_mem hi)) ?_
            walk_at "go"
            refine br_i (fun w => ?_) (fun w => ?_) <;> walk_at "go"
            · exact y1 (by simp [w]) _ rfl rfl
            · exact y2 (by simpa using w) _ rfl rfl
          · walk_at "go"
            have key : sameDs xs ys = decide (((List.range ys.length).filter fun i => !sameD (xs.getD i .non) (ys.getD i .non)).length = 0) := by
              rw [Bool.eq_iff_iff, sameDs_at hxy, decide_eq_true_eq]
              constructor
              · intro h
                have : ((List.range ys.length).filter fun i => !sameD (xs.getD i .non) (ys.getD i .non)) = [] := List.filter_eq_nil_iff.mpr fun i hi => by
                  have hi := List.mem_range.mp hi
                  have hix : i < xs.length := by omega
                  rw [List.getD_eq_getElem?_getD, List.getD_eq_getElem?_getD, List.getElem?_eq_getElem hix, List.getElem?_eq_getElem hi]
                  simp only [Option.getD_some]
                  rw [h i _ _ (List.getElem?_eq_getElem hix) (List.getElem?_eq_getElem hi)]
                  decide
                rw [this]
                rfl
              · intro h i x y hx hy
                have h : ((List.range ys.length).filter fun i => !sameD (xs.getD i .non) (ys.getD i .non)) = [] := List.length_eq_zero_iff.mp h
                have hi := (List.getElem?_eq_some_iff.mp hy).1
                have := List.filter_eq_nil_iff.mp h i (List.mem_range.mpr hi)
                rw [List.getD_eq_getElem?_getD, List.getD_eq_getElem?_getD, hx, hy] at this
                simpa using this
            rw [key] at hP
            exact hP
      | non =>
        unfold sameD at hP
        walk_at "go"
        exact hP
      | bl a =>
        unfold sameD at hP
        walk_at "go"
        exact hP
      | int a =>
        unfold sameD at hP
        walk_at "go"
        exact hP
      | str a =>
        unfold sameD at hP
        walk_at "go"
        exact hP
      | lst _ => exact h1.elim
      | rol _ => exact h1.elim
      | ptr _ => exact h1.elim
      | ftp _ => exact h1.elim
theorem ok_on_the_issue : ∀ as P, as.length = 4 → S_on_the_issue as P → r_on_the_issue { nx := fun δ => P (.v .non) (outsOf 0 as δ), rt := fun rt δ => P rt (outsOf 0 as δ) } (startD 4 as) := by
  intro as P _ h
  unfold S_on_the_issue at h
  obtain ⟨ch, p, c, i, rfl, hP⟩ := h
  unfold r_on_the_issue
  unfold pcD
  walk_at "go"
  rw [show cutD [D.int p.a, D.int p.b, D.int p.i, D.int p.c, D.int p.t, D.bl p.f, D.tup (List.map D.int p.g)] (some 2) (some 4) = [D.int p.i, D.int p.c] from rfl, eqP_two]
  refine ⟨⟨by rfl, by rfl⟩, ?_⟩
  unfold onF at hP
  by_cases h1 : p.i = i
  · by_cases h2 : p.c = c
    · rw [brD_pos (by simp [h1, h2])]
      walk_at "go"
      simpa [h1, h2] using hP
    · rw [brD_neg (by simp [h2])]
      walk_at "go"
      simpa [h2] using hP
  · rw [brD_neg (by simp [h1])]
    walk_at "go"
    simpa [h1] using hP
theorem ok_missing_tags : ∀ as P, as.length = 2 → S_missing_tags as P → r_missing_tags { nx := fun δ => P (.v .non) (outsOf 0 as δ), rt := fun rt δ => P rt (outsOf 0 as δ) } (startD 3 as) := by
  intro as P _ h
  unfold S_missing_tags at h
  obtain ⟨p, ts, rfl, hg, hP⟩ := h
  unfold r_missing_tags
  unfold pcD
  walk_at "go"
  refine comp_of (p := fun x => !decide (x ∈ ts)) (f := D.int) (fun x hx K1 K2 y1 y2 => ?_) (by omega) ?_
  · walk_at "go"
    by_cases h : x ∈ ts
    · rw [brD_neg (by simpa using h)]
      exact y2 (by simpa using h) _ rfl rfl
    · rw [brD_pos h]
      walk_at "go"
      exact y1 (by simpa using h) _ rfl rfl
  · walk_at "go"
    exact hP
theorem ok_controlling_precedent : ∀ as P, as.length = 5 → S_controlling_precedent as P → r_controlling_precedent { nx := fun δ => P (.v .non) (outsOf 0 as δ), rt := fun rt δ => P rt (outsOf 0 as δ) } (startD 8 as) := by
  intro as P _ h
  unfold S_controlling_precedent at h
  obtain ⟨ch, ps, c, i, ts, rfl, hg, hP⟩ := h
  unfold r_controlling_precedent
  walk_at "go"
  refine loop_by (fun rest δ => ∃ (o : Option (Nat × Bool)) (s6 s7 : Sl), (∀ p ∈ rest, p.g.length ≤ 1000) ∧ okS s6 = true ∧ okS s7 = true ∧ rest.foldl (ctlS ch c i ts) o = ctlF ch ps c i ts ∧ δ = [.frz (.ftp (ch.map D.int)), .frz (.tup (ps.map pcD)), .frz (.int c), .frz (.int i), .frz (.tup (ts.map D.int)), .frz (ctlD o), s6, s7]) ⟨none, .no, .no, hg, rfl, rfl, rfl, rfl⟩ ?_ ?_
  · rintro p rest δ ⟨o, s6, s7, hr, e6, e7, hf, rfl⟩ K bk hK
    have hr2 : ∀ q ∈ rest, q.g.length ≤ 1000 := fun q hq => hr q (List.mem_cons_of_mem _ hq)
    rw [List.foldl_cons] at hf
    walk_at "go"
    refine use_on_the_issue ?_
    walk_at "go"
    by_cases h1 : onF ch p c i = true
    · rw [brD_pos h1]
      walk_at "go"
      refine use_missing_tags (hr p List.mem_cons_self) ?_
      walk_at "go"
      by_cases h2 : lackF p ts = []
      · have ht : p.t ∈ ch := by
          unfold onF at h1
          simp only [Bool.and_eq_true, decide_eq_true_eq] at h1
          exact h1.2
        have hs : ctlS ch c i ts o p = upC (ch.idxOf p.t) p.f o := if_pos ⟨h1, h2⟩
        rw [hs] at hf
        rw [brD_pos (by simp [h2])]
        unfold pcD
        walk_at "go"
        rw [place_ints ht]
        walk_at "go"
        rcases o with _ | ⟨m, f⟩
        · rw [brD_pos (by rfl)]
          walk_at "go"
          exact hK _ ⟨some (ch.idxOf p.t, p.f), .frz (pcD p), .frz (.int (ch.idxOf p.t : Nat)), hr2, rfl, rfl, hf, rfl⟩
        · rw [brD_neg (by simp [ctlD, isNon])]
          unfold ctlD
          walk_at "go"
          replace hf : rest.foldl (ctlS ch c i ts) (if m ≤ ch.idxOf p.t then some (ch.idxOf p.t, p.f) else some (m, f)) = ctlF ch ps c i ts := hf
          by_cases h3 : m ≤ ch.idxOf p.t
          · rw [if_pos h3] at hf
            rw [brD_pos (by omega)]
            walk_at "go"
            exact hK _ ⟨some (ch.idxOf p.t, p.f), .frz (pcD p), .frz (.int (ch.idxOf p.t : Nat)), hr2, rfl, rfl, hf, rfl⟩
          · rw [if_neg h3] at hf
            rw [brD_neg (by omega)]
            exact hK _ ⟨some (m, f), .frz (pcD p), .frz (.int (ch.idxOf p.t : Nat)), hr2, rfl, rfl, hf, rfl⟩
      · rw [brD_neg (by simp [h2])]
        refine hK _ ⟨o, .frz (pcD p), s7, hr2, rfl, e7, ?_, rfl⟩
        rw [← hf]
        unfold ctlS
        rw [if_neg (fun z => h2 z.2)]
    · rw [brD_neg h1]
      walk_at "go"
      refine hK _ ⟨o, .frz (pcD p), s7, hr2, rfl, e7, ?_, rfl⟩
      rw [← hf]
      unfold ctlS
      rw [if_neg (fun z => h1 z.1)]
  · rintro δ ⟨o, s6, s7, hr, e6, e7, hf, rfl⟩
    replace hf : o = ctlF ch ps c i ts := hf
    subst hf
    walk_at "go"
    exact hP
theorem ok_law_upper : ∀ as P, as.length = 2 → S_law_upper as P → r_law_upper { nx := fun δ => P (.v .non) (outsOf 0 as δ), rt := fun rt δ => P rt (outsOf 0 as δ) } (startD 2 as) := by
  intro as P _ h
  unfold S_law_upper at h
  obtain ⟨n, l, f, rfl, hP⟩ := h
  unfold r_law_upper
  walk_at "go"
  exact hP
theorem ok_law_tags : ∀ as P, as.length = 1 → S_law_tags as P → r_law_tags { nx := fun δ => P (.v .non) (outsOf 0 as δ), rt := fun rt δ => P rt (outsOf 0 as δ) } (startD 3 as) := by
  intro as P _ h
  unfold S_law_tags at h
  obtain ⟨c, rfl, hc, hP⟩ := h
  unfold r_law_tags
  walk_at "go"
  refine use_draw hc (by first | decide | omega) fun a c hc a1 a2 => ?_
  replace a2 := a2 (by first | decide | omega)
  walk_at "go"
  refine pickI (fun z => 0 ≤ z ∧ z ≤ 10) a1 (by show a < 3; omega) (by walk_at "items") fun w hw => ?_
  walk_at "go"
  obtain ⟨w, rfl⟩ := Int.eq_ofNat_of_zero_le hw.1
  rw [rngD_nats]
  refine comp_inv (fun rest acc δ => ∃ (c : Cn) (ts : List Int), IsTape c ∧ ts.length + rest.length ≤ w ∧ acc = ts.map D.int ∧ δ = [.own true c, .frz (.int (w : Int)), .no]) ⟨c, [], hc, by rw [List.length_range]; exact Nat.le_of_eq (Nat.zero_add _), rfl, rfl⟩ ?_ ?_
  · rintro k rest acc δ ⟨c, ts, hc, hw2, rfl, rfl⟩ K1 K2 y1 y2
    rw [List.length_cons] at hw2
    rw [nI_eq]
    walk_at "go"
    refine use_draw hc (by first | decide | omega) fun x c hc x1 x2 => ?_
    replace x2 := x2 (by first | decide | omega)
    walk_at "go"
    refine br_i (fun g => ?_) (fun g => ?_) <;> walk_at "go"
    · exact y1 _ _ (by rw [List.length_map]; omega) rfl ⟨c, ts ++ [(k : Int)], hc, by rw [List.length_append, List.length_singleton]; omega, by rw [List.map_append]; rfl, rfl⟩
    · exact y2 _ rfl ⟨c, ts, hc, by omega, rfl, rfl⟩
  · rintro acc δ ⟨c, ts, hc, hw2, rfl, rfl⟩
    walk_at "go"
    rw [show (4 : Int) = ((4 : Nat) : Int) from rfl, cut_take, ← List.map_take]
    exact hP _ c hc (by rw [List.length_take]; omega)
theorem ok_distinguished : ∀ as P, as.length = 5 → S_distinguished as P → r_distinguished { nx := fun δ => P (.v .non) (outsOf 0 as δ), rt := fun rt δ => P rt (outsOf 0 as δ) } (startD 9 as) := by
  intro as P _ h
  unfold S_distinguished at h
  obtain ⟨ch, ps, c, i, ts, rfl, hg, hl, hP⟩ := h
  unfold r_distinguished
  walk_at "go"
  rw [numD_map]
  refine loop_by (fun rest δ => ∃ (k : Nat) (qs : List Pc) (ac : List D) (s6 s7 s8 : Sl), (∀ p ∈ qs, p.g.length ≤ 1000) ∧ okS s6 = true ∧ okS s7 = true ∧ okS s8 = true ∧ rest = numL k qs ∧ ac.length + qs.length ≤ ps.length ∧ ac ++ apF ch c i ts k qs = apF ch c i ts 0 ps ∧ δ = [.frz (.ftp (ch.map D.int)), .frz (.tup (ps.map pcD)), .frz (.int c), .frz (.int i), .frz (.tup (ts.map D.int)), .own false (.lst ac), s6, s7, s8]) ⟨0, ps, [], .no, .no, .no, hg, rfl, rfl, rfl, rfl, by simp, rfl, rfl⟩ ?_ ?_
  · rintro ⟨k', p⟩ rest δ ⟨k, qs, ac, s6, s7, s8, hr, e6, e7, e8, hq, hw, hf, rfl⟩ K bk hK
    cases qs with
    | nil => cases hq
    | cons q qs =>
      replace hq : (k', p) :: rest = (k, q) :: numL (k + 1) qs := hq
      injection hq with hq1 hq2
      cases hq1
      subst hq2
      have hr2 : ∀ q ∈ qs, q.g.length ≤ 1000 := fun x hx => hr x (List.mem_cons_of_mem _ hx)
      rw [List.length_cons] at hw
      rw [ap_cons] at hf
      have skip : ¬(onF ch p c i = true ∧ lackF p ts ≠ []) → K _ := fun h => hK _ ⟨k' + 1, qs, ac, .frz (.int (k' : Int)), .frz (pcD p), .frz (.tup ((lackF p ts).map D.int)), hr2, rfl, rfl, rfl, rfl, by omega, by rw [if_neg h, List.nil_append] at hf; exact hf, rfl⟩
      walk_at "go"
      refine use_missing_tags (hr p List.mem_cons_self) ?_
      walk_at "go"
      by_cases h1 : lackF p ts = []
      · rw [brD_neg (by simp [h1])]
        walk_at "go"
        exact skip (fun z => z.2 h1)
      · rw [brD_pos (by simp [h1])]
        walk_at "go"
        refine use_on_the_issue ?_
        walk_at "go"
        by_cases h2 : onF ch p c i = true
        · rw [brD_pos h2]
          walk_at "go"
          rw [if_pos ⟨h2, h1⟩] at hf
          refine hK _ ⟨k' + 1, qs, ac ++ [.tup [.int (k' : Int), .tup ((lackF p ts).map D.int)]], .frz (.int (k' : Int)), .frz (pcD p), .frz (.tup ((lackF p ts).map D.int)), hr2, rfl, rfl, rfl, rfl, by rw [List.length_append, List.length_singleton]; omega, by rw [List.append_assoc]; exact hf, rfl⟩
        · rw [brD_neg h2]
          exact skip (fun z => h2 z.1)
  · rintro δ ⟨k, qs, ac, s6, s7, s8, hr, e6, e7, e8, hq, hw, hf, rfl⟩
    cases qs with
    | cons q qs => cases hq
    | nil =>
      rw [show apF ch c i ts k [] = [] from rfl, List.append_nil] at hf
      subst hf
      walk_at "go"
      exact hP
theorem ok_law_apart : ∀ as P, as.length = 5 → S_law_apart as P → r_law_apart { nx := fun δ => P (.v .non) (outsOf 0 as δ), rt := fun rt δ => P rt (outsOf 0 as δ) } (startD 10 as) := by
  intro as P _ h
  unfold S_law_apart at h
  obtain ⟨ch, ps, c, i, ts, rfl, hg, hl, hP⟩ := h
  unfold r_law_apart
  walk_at "go"
  have step : ∀ k (hk : k < ps.length), apF ch c i ts 0 (ps.take (k + 1)) = apF ch c i ts 0 (ps.take k) ++ apF ch c i ts k [ps[k]] := fun k hk => by
    rw [show ps.take (k + 1) = ps.take k ++ [ps[k]] by rw [List.take_succ, List.getElem?_eq_getElem hk]; rfl, ap_append, List.length_take, Nat.min_eq_left (by omega), Nat.zero_add]
  have alen : ∀ k, (apF ch c i ts 0 (ps.take k)).length ≤ ps.length := fun k => Nat.le_trans (ap_len ch c i ts 0 _) (by rw [List.length_take]; omega)
  refine loop_rng (fun k δ => ∃ s6 s7 s8 : Sl, okS s6 = true ∧ okS s7 = true ∧ okS s8 = true ∧ δ = [.frz (.ftp (ch.map D.int)), .frz (.tup (ps.map pcD)), .frz (.int c), .frz (.int i), .frz (.tup (ts.map D.int)), .own false (.lst (apF ch c i ts 0 (ps.take k))), s6, s7, s8, .no]) ⟨.no, .no, .no, rfl, rfl, rfl, rfl⟩ ?_ ?_
  · rintro k δ hk ⟨s6, s7, s8, e6, e7, e8, rfl⟩ K bk hK
    have hp := hg ps[k] (List.getElem_mem _)
    have st := step k hk
    generalize hpk : ps[k] = p at *
    rw [ap_one] at st
    have al := alen k
    generalize hA : apF ch c i ts 0 (ps.take k) = A at *
    have skip : ¬(onF ch p c i = true ∧ lackF p ts ≠ []) → K _ := fun h => hK _ ⟨.frz (.int (k : Int)), .frz (pcD p), .frz (.tup ((lackF p ts).map D.int)), rfl, rfl, rfl, by rw [st, if_neg h, List.append_nil]⟩
    walk_at "go"
    rw [atI_map, atI_at hk, hpk, Option.map_some, optD_some]
    unfold pcD at skip ⊢
    walk_at "go"
    refine comp_of (p := fun x => !decide (x ∈ ts)) (f := D.int) (fun x hx K1 K2 y1 y2 => ?_) (by omega) ?_
    · walk_at "go"
      by_cases h : x ∈ ts
      · rw [brD_neg (by simpa using h)]
        exact y2 (by simpa using h) _ rfl rfl
      · rw [brD_pos h]
        walk_at "go"
        exact y1 (by simpa using h) _ rfl rfl
    walk_at "go"
    by_cases h1 : p.c = c
    · rw [brD_pos h1]
      walk_at "go"
      by_cases h2 : p.i = i
      · rw [brD_pos h2]
        walk_at "go"
        by_cases h3 : p.t ∈ ch
        · rw [brD_pos h3]
          walk_at "go"
          have h4 : onF ch p c i = true := by unfold onF; simp [h1, h2, h3]
          rw [show (p.g.filter fun x => !decide (x ∈ ts)) = lackF p ts from rfl]
          by_cases h5 : lackF p ts = []
          · rw [brD_neg (by simp [h5])]
            exact skip (fun z => z.2 h5)
          · rw [brD_pos (by simp [h5])]
            walk_at "go"
            refine hK _ ⟨.frz (.int (k : Int)), .frz (pcD p), .frz (.tup ((lackF p ts).map D.int)), rfl, rfl, rfl, by rw [st, if_pos ⟨h4, h5⟩]; rfl⟩
        · rw [brD_neg h3]
          walk_at "go"
          exact skip (fun z => by have := z.1; unfold onF at this; simp [h3] at this)
      · rw [brD_neg h2]
        walk_at "go"
        exact skip (fun z => by have := z.1; unfold onF at this; simp [h2] at this)
    · rw [brD_neg h1]
      walk_at "go"
      exact skip (fun z => by have := z.1; unfold onF at this; simp [h1] at this)
  · rintro δ ⟨s6, s7, s8, e6, e7, e8, rfl⟩
    rw [List.take_length]
    walk_at "go"
    exact hP
theorem ok_law_control : ∀ as P, as.length = 5 → S_law_control as P → r_law_control { nx := fun δ => P (.v .non) (outsOf 0 as δ), rt := fun rt δ => P rt (outsOf 0 as δ) } (startD 9 as) := by
  intro as P _ h
  unfold S_law_control at h
  obtain ⟨ch, ps, c, i, ts, rfl, hg, hP⟩ := h
  unfold r_law_control
  walk_at "go"
  refine loop_by (fun rest δ => ∃ (o : Option (Nat × Bool)) (s6 s7 : Sl), (∀ p ∈ rest, p.g.length ≤ 1000) ∧ okS s6 = true ∧ okS s7 = true ∧ rest.foldl (ctlS ch c i ts) o = ctlF ch ps c i ts ∧ δ = [.frz (.ftp (ch.map D.int)), .frz (.tup (ps.map pcD)), .frz (.int c), .frz (.int i), .frz (.tup (ts.map D.int)), .frz (ctlD o), s6, s7, .no]) ⟨none, .no, .no, hg, rfl, rfl, rfl, rfl⟩ ?_ ?_
  · rintro p rest δ ⟨o, s6, s7, hr, e6, e7, hf, rfl⟩ K bk hK
    have hr2 : ∀ q ∈ rest, q.g.length ≤ 1000 := fun q hq => hr q (List.mem_cons_of_mem _ hq)
    rw [List.foldl_cons] at hf
    have same : onF ch p c i ≠ true → K _ := fun h => hK _ ⟨o, .frz (pcD p), s7, hr2, rfl, e7, by rw [← hf]; unfold ctlS; rw [if_neg (fun z => h z.1)], rfl⟩
    unfold pcD at same ⊢
    walk_at "go"
    by_cases h1 : p.c = c
    · rw [brD_pos h1]
      walk_at "go"
      by_cases h2 : p.i = i
      · rw [brD_pos h2]
        walk_at "go"
        by_cases h3 : p.t ∈ ch
        · rw [brD_pos h3]
          walk_at "go"
          have h4 : onF ch p c i = true := by unfold onF; simp [h1, h2, h3]
          refine comp_of (p := fun x => !decide (x ∈ ts)) (f := D.int) (fun x hx K1 K2 y1 y2 => ?_) (by have := hr p List.mem_cons_self; omega) ?_
          · walk_at "go"
            by_cases h : x ∈ ts
            · rw [brD_neg (by simpa using h)]
              exact y2 (by simpa using h) _ rfl rfl
            · rw [brD_pos h]
              walk_at "go"
              exact y1 (by simpa using h) _ rfl rfl
          · walk_at "go"
            rw [show (p.g.filter fun x => !decide (x ∈ ts)) = lackF p ts from rfl]
            by_cases h5 : lackF p ts = []
            · have hs : ctlS ch c i ts o p = upC (ch.idxOf p.t) p.f o := if_pos ⟨h4, h5⟩
              rw [hs] at hf
              rw [brD_pos (show (lackF p ts).length = 0 by rw [h5]; rfl)]
              walk_at "go"
              rw [place_ints h3]
              walk_at "go"
              rcases o with _ | ⟨m, f⟩
              · rw [brD_pos (by rfl)]
                walk_at "go"
                exact hK _ ⟨some (ch.idxOf p.t, p.f), .frz (pcD p), .frz (.int (ch.idxOf p.t : Nat)), hr2, rfl, rfl, hf, rfl⟩
              · rw [brD_neg (by simp [ctlD, isNon])]
                unfold ctlD
                walk_at "go"
                replace hf : rest.foldl (ctlS ch c i ts) (if m ≤ ch.idxOf p.t then some (ch.idxOf p.t, p.f) else some (m, f)) = ctlF ch ps c i ts := hf
                by_cases h6 : m ≤ ch.idxOf p.t
                · rw [if_pos h6] at hf
                  rw [brD_pos (by omega)]
                  walk_at "go"
                  exact hK _ ⟨some (ch.idxOf p.t, p.f), .frz (pcD p), .frz (.int (ch.idxOf p.t : Nat)), hr2, rfl, rfl, hf, rfl⟩
                · rw [if_neg h6] at hf
                  rw [brD_neg (by omega)]
                  exact hK _ ⟨some (m, f), .frz (pcD p), .frz (.int (ch.idxOf p.t : Nat)), hr2, rfl, rfl, hf, rfl⟩
            · rw [brD_neg (show ¬(lackF p ts).length = 0 from fun z => h5 (List.length_eq_zero_iff.mp z))]
              exact hK _ ⟨o, .frz (pcD p), s7, hr2, rfl, e7, by rw [← hf]; unfold ctlS; rw [if_neg (fun z => h5 z.2)], rfl⟩
        · rw [brD_neg h3]
          exact same (by unfold onF; simp [h3])
      · rw [brD_neg h2]
        walk_at "go"
        exact same (by unfold onF; simp [h2])
    · rw [brD_neg h1]
      walk_at "go"
      exact same (by unfold onF; simp [h1])
  · rintro δ ⟨o, s6, s7, hr, e6, e7, hf, rfl⟩
    replace hf : o = ctlF ch ps c i ts := hf
    subst hf
    walk_at "go"
    exact hP
theorem pl_ints3 (n : Nat) (l : List Int) (h : l.length ≤ 1000000) : Pl (n + 1) (.tup (l.map D.int)) := ⟨by rw [List.length_map]; exact h, fun d hd => by
  obtain ⟨z, _, rfl⟩ := List.mem_map.mp hd
  cases n <;> trivial⟩
theorem ap_pl3 (ch : List Int) (c i : Int) (ts : List Int) : ∀ (k : Nat) (ps : List Pc), (∀ p ∈ ps, p.g.length ≤ 1000) → ∀ d ∈ apF ch c i ts k ps, Pl 4 d
  | _, [], _, d, hd => by cases hd
  | k, p :: ps, h, d, hd => by
    rw [ap_cons] at hd
    rcases List.mem_append.mp hd with hd | hd
    · split at hd
      · cases List.mem_singleton.mp hd
        refine ⟨by show 2 ≤ 1000000; decide, fun x hx => ?_⟩
        rcases List.mem_cons.mp hx with rfl | hx
        · trivial
        · cases List.mem_singleton.mp hx
          exact pl_ints3 2 _ (Nat.le_trans (lack_len p ts) (Nat.le_trans (h p List.mem_cons_self) (by decide)))
      · cases hd
    · exact ap_pl3 ch c i ts (k + 1) ps (fun q hq => h q (List.mem_cons_of_mem _ hq)) d hd
theorem ctl_pl3 (o : Option (Nat × Bool)) : Pl 5 (ctlD o) := by
  cases o with
  | none => trivial
  | some p => exact ⟨by show 2 ≤ 1000000; decide, by simp [Pl]⟩
theorem lack_more {p : Pc} {gs mo : List Int} (h : ∀ x ∈ gs, x ∈ mo) (e : lackF p gs = []) : lackF p mo = [] := by
  unfold lackF at e ⊢
  rw [List.filter_eq_nil_iff] at e ⊢
  intro x hx
  have := e x hx
  simp only [Bool.not_eq_true', decide_eq_false_iff_not, Decidable.not_not] at this ⊢
  exact h x this
def leO : Option (Nat × Bool) → Option (Nat × Bool) → Prop
  | none, _ => True
  | some a, some b => a.1 ≤ b.1
  | some _, none => False
theorem up_ge (l : Nat) (f : Bool) (o : Option (Nat × Bool)) : leO o (upC l f o) ∧ ∃ m g, upC l f o = some (m, g) ∧ l ≤ m := by
  cases o with
  | none => exact ⟨trivial, _, _, rfl, Nat.le_refl _⟩
  | some x =>
    obtain ⟨m, g⟩ := x
    by_cases h : m ≤ l
    · rw [show upC l f (some (m, g)) = some (l, f) from if_pos h]
      exact ⟨h, _, _, rfl, Nat.le_refl _⟩
    · rw [show upC l f (some (m, g)) = some (m, g) from if_neg h]
      exact ⟨Nat.le_refl _, _, _, rfl, by omega⟩
theorem leO_trans {a b c : Option (Nat × Bool)} (h : leO a b) (g : leO b c) : leO a c := by
  cases a with
  | none => trivial
  | some a =>
    cases b with
    | none => exact h.elim
    | some b =>
      cases c with
      | none => exact g.elim
      | some c => exact Nat.le_trans h g
theorem up_mono {l : Nat} {f g : Bool} {a b : Option (Nat × Bool)} (h : leO a b) : leO (upC l f a) (upC l g b) := by
  obtain ⟨hb, m, g2, e, hm⟩ := up_ge l g b
  rw [e] at hb ⊢
  cases a with
  | none => exact hm
  | some x =>
    obtain ⟨n, k⟩ := x
    by_cases q : n ≤ l
    · rw [show upC l f (some (n, k)) = some (l, f) from if_pos q]
      exact hm
    · rw [show upC l f (some (n, k)) = some (n, k) from if_neg q]
      exact leO_trans (b := b) h hb
theorem ctl_more {ch : List Int} {c i : Int} {gs mo : List Int} (h : ∀ x ∈ gs, x ∈ mo) : ∀ (ps : List Pc) (a b : Option (Nat × Bool)), leO a b → leO (ps.foldl (ctlS ch c i gs) a) (ps.foldl (ctlS ch c i mo) b)
  | [], _, _, r => r
  | p :: ps, a, b, r => by
    refine ctl_more h ps _ _ ?_
    unfold ctlS
    by_cases h1 : onF ch p c i = true ∧ lackF p gs = []
    · rw [if_pos h1, if_pos ⟨h1.1, lack_more h h1.2⟩]
      exact up_mono r
    · rw [if_neg h1]
      split
      · exact leO_trans r (up_ge _ _ b).1
      · exact r
def joinC (n : Nat) (u w : Option (Nat × Bool)) : Option (Nat × Bool) := match u with
  | some (l, f) => some (l + n, f)
  | none => w
theorem idx_lo {ch : List Int} {n : Nat} {t : Int} (h : t ∈ ch.take n) : ch.idxOf t = (ch.take n).idxOf t ∧ ch.idxOf t < n := by
  have e : ch.idxOf t = (ch.take n).idxOf t := by
    conv => lhs; rw [← List.take_append_drop n ch]
    rw [List.idxOf_append, if_pos h]
  refine ⟨e, ?_⟩
  rw [e]
  have := List.idxOf_lt_length_of_mem h
  rw [List.length_take] at this
  omega
theorem idx_hi {ch : List Int} {n : Nat} {t : Int} (nd : ch.Nodup) (h : t ∈ ch.drop n) : t ∉ ch.take n ∧ ch.idxOf t = (ch.drop n).idxOf t + n := by
  have h1 : t ∉ ch.take n := by
    intro h2
    have nd2 := nd
    rw [← List.take_append_drop n ch, List.nodup_append] at nd2
    exact nd2.2.2 t h2 t h rfl
  refine ⟨h1, ?_⟩
  have hn : n < ch.length := by
    rcases Nat.lt_or_ge n ch.length with g | g
    · exact g
    · rw [List.drop_eq_nil_of_le g] at h
      cases h
  conv => lhs; rw [← List.take_append_drop n ch]
  rw [List.idxOf_append, if_neg h1, List.length_take]
  omega
theorem ctl_split {ch : List Int} {n : Nat} {c i : Int} {gs : List Int} (nd : ch.Nodup) : ∀ (ps : List Pc) (u w : Option (Nat × Bool)), (∀ x, w = some x → x.1 < n) →
    ps.foldl (ctlS ch c i gs) (joinC n u w) = joinC n (ps.foldl (ctlS (ch.drop n) c i gs) u) (ps.foldl (ctlS (ch.take n) c i gs) w)
  | [], _, _, _ => rfl
  | p :: ps, u, w, hw => by
    rw [List.foldl_cons, List.foldl_cons, List.foldl_cons]
    by_cases h0 : p.i = i ∧ p.c = c ∧ lackF p gs = []
    · by_cases h1 : p.t ∈ ch.drop n
      · obtain ⟨h2, e⟩ := idx_hi nd h1
        have e1 : ctlS ch c i gs (joinC n u w) p = joinC n (ctlS (ch.drop n) c i gs u p) w := by
          unfold ctlS onF
          rw [if_pos (by simp [h0, List.mem_of_mem_drop h1]), if_pos (by simp [h0, h1]), e]
          cases u with
          | none =>
            show upC _ _ w = _
            cases w with
            | none => rfl
            | some x =>
              have := hw x rfl
              show (if x.1 ≤ _ then _ else _) = _
              rw [if_pos (by omega)]
              rfl
          | some x =>
            show (if x.1 + n ≤ _ then _ else _) = joinC n (if x.1 ≤ _ then _ else _) w
            by_cases g : x.1 ≤ (ch.drop n).idxOf p.t
            · rw [if_pos g, if_pos (by omega)]
              rfl
            · rw [if_neg g, if_neg (by omega)]
              rfl
        have e2 : ctlS (ch.take n) c i gs w p = w := by
          unfold ctlS onF
          rw [if_neg (by simp [h2])]
        rw [e1, e2]
        exact ctl_split nd ps _ _ hw
      · by_cases h2 : p.t ∈ ch.take n
        · obtain ⟨e, hn⟩ := idx_lo h2
          have e2 : ctlS (ch.drop n) c i gs u p = u := by
            unfold ctlS onF
            rw [if_neg (by simp [h1])]
          have hw2 : ∀ x, ctlS (ch.take n) c i gs w p = some x → x.1 < n := by
            intro x hx
            unfold ctlS onF at hx
            rw [if_pos (by simp [h0, h2])] at hx
            cases w with
            | none =>
              cases hx
              omega
            | some y =>
              have := hw y rfl
              replace hx : (if y.1 ≤ _ then some (_, p.f) else some (y.1, y.2)) = some x := hx
              split at hx <;> cases hx <;> omega
          have e1 : ctlS ch c i gs (joinC n u w) p = joinC n u (ctlS (ch.take n) c i gs w p) := by
            unfold ctlS onF
            rw [if_pos (by simp [h0, List.mem_of_mem_take h2]), if_pos (by simp [h0, h2]), e]
            cases u with
            | none => rfl
            | some x =>
              show (if x.1 + n ≤ _ then _ else _) = _
              rw [if_neg (by omega)]
              rfl
          rw [e1, e2]
          exact ctl_split nd ps _ _ hw2
        · have h3 : p.t ∉ ch := by
            intro z
            rw [← List.take_append_drop n ch, List.mem_append] at z
            exact z.elim h2 h1
          have f : ∀ (l : List Int) (o : Option (Nat × Bool)), p.t ∉ l → ctlS l c i gs o p = o := by
            intro l o hl
            unfold ctlS onF
            rw [if_neg (by simp [hl])]
          rw [f _ _ h1, f _ _ h2, f _ _ h3]
          exact ctl_split nd ps _ _ hw
    · have f : ∀ (l : List Int) (o : Option (Nat × Bool)), ctlS l c i gs o p = o := by
        intro l o
        unfold ctlS onF
        rw [if_neg]
        rintro ⟨z1, z2⟩
        simp only [Bool.and_eq_true, decide_eq_true_eq] at z1
        exact h0 ⟨z1.1.1, z1.1.2, z2⟩
      rw [f, f, f]
      exact ctl_split nd ps _ _ hw
theorem ctl_cut {ch : List Int} {n : Nat} {c i : Int} {gs : List Int} (nd : ch.Nodup) (ps : List Pc) : ctlF ch ps c i gs = joinC n (ctlF (ch.drop n) ps c i gs) (ctlF (ch.take n) ps c i gs) :=
  ctl_split nd ps none none nofun
theorem ctl_nil (c i : Int) (gs : List Int) : ∀ (ps : List Pc), ctlF [] ps c i gs = none
  | [] => rfl
  | p :: ps => by
    have := ctl_nil c i gs ps
    unfold ctlF at this ⊢
    rw [List.foldl_cons, show ctlS [] c i gs none p = none from if_neg (by simp [onF])]
    exact this
theorem ok_law_looked : ∀ as P, as.length = 5 → S_law_looked as P → r_law_looked { nx := fun δ => P (.v .non) (outsOf 0 as δ), rt := fun rt δ => P rt (outsOf 0 as δ) } (startD 13 as) := by
  intro as P _ h
  unfold S_law_looked at h
  obtain ⟨c, ch, ps, k, i, rq, rfl, hc, n1, n2, nd, hg, hl, hr, hP⟩ := h
  unfold r_law_looked
  walk_at "go"
  refine use_law_tags hc fun ts c hc tl => ?_
  walk_at "go"
  refine use_draw hc (by first | decide | omega) fun a c hc a1 a2 => ?_
  replace a2 := a2 (by first | decide | omega)
  walk_at "go"
  refine pick (fun d => ∃ gs : List Int, d = .tup (gs.map D.int) ∧ gs.length ≤ 4) a1 (by show a < 2; omega) (fun y hy => by
    rcases List.mem_cons.mp hy with rfl | h
    · exact ⟨ts, rfl, tl⟩
    · rw [List.mem_singleton.mp h]
      exact ⟨rq, rfl, hr⟩) ?_
  rintro d ⟨gs, rfl, gl⟩
  walk_at "go"
  refine use_controlling_precedent hg ?_
  walk_at "go"
  refine use_law_control hg ?_
  walk_at "go"
  refine use_same (n := 5) (ctl_pl3 _) ?_
  walk_at "go"
  refine use_law_apart hg hl ?_
  walk_at "go"
  refine use_distinguished hg hl ?_
  walk_at "go"
  refine use_same (n := 5) ⟨Nat.le_trans (ap_len _ _ _ _ _ _) (Nat.le_trans hl (by decide)), ap_pl3 _ _ _ _ _ _ hg⟩ ?_
  walk_at "go"
  refine use_law_tags hc fun us c hc ul => ?_
  walk_at "go"
  refine comp_of (p := fun x => !decide (x ∈ gs)) (f := D.int) (fun x hx K1 K2 y1 y2 => ?_) (by omega) ?_
  · walk_at "go"
    by_cases h : x ∈ gs
    · rw [brD_neg (by simpa using h)]
      exact y2 (by simpa using h) _ rfl rfl
    · rw [brD_pos h]
      walk_at "go"
      exact y1 (by simpa using h) _ rfl rfl
  walk_at "go"
  refine ⟨by have := List.length_filter_le (fun x => !decide (x ∈ gs)) us; omega, ?_⟩
  rw [← List.map_append]
  refine sorted_ints fun ms hp _ => ?_
  walk_at "go"
  rw [show (4 : Int) = ((4 : Nat) : Int) from rfl, cut_take, ← List.map_take]
  have hms : (ms.take 4).length ≤ 4 := by rw [List.length_take]; omega
  generalize ms.take 4 = mo at *
  walk_at "go"
  refine comp_of (p := fun x => !decide (x ∈ mo)) (f := D.int) (fun x hx K1 K2 y1 y2 => ?_) (by omega) ?_
  · walk_at "go"
    by_cases h : x ∈ mo
    · rw [brD_neg (by simpa using h)]
      exact y2 (by simpa using h) _ rfl rfl
    · rw [brD_pos h]
      walk_at "go"
      exact y1 (by simpa using h) _ rfl rfl
  walk_at "go"
  generalize hE : DE.seq _ _ = E2
  have tail : ∀ s11 : Sl, okS s11 = true → E2.nx [.own true c, .frz (.ftp (ch.map D.int)), .frz (.tup (ps.map pcD)), .frz (.tup [.int k, .int i]), .frz (.tup (rq.map D.int)), .frz (.tup (gs.map D.int)), .frz (ctlD (ctlF ch ps k i gs)), .frz (.tup (apF ch k i gs 0 ps)), .frz (.tup (mo.map D.int)), .no, .no, s11, .no] := by
    intro s11 e11
    rw [← hE]
    clear hE E2
    walk_at "go"
    refine use_draw hc (by first | decide | omega) fun cut c hc cut1 cut2 => ?_
    replace cut2 := cut2 (by first | decide | omega)
    walk_at "go"
    obtain ⟨cut, rfl⟩ := Int.eq_ofNat_of_zero_le cut1
    rw [cut_drop, ← List.map_drop]
    walk_at "go"
    refine use_controlling_precedent hg ?_
    walk_at "go"
    have CUT := ctl_cut (n := cut) (c := k) (i := i) (gs := gs) nd ps
    rcases hU : ctlF (ch.drop cut) ps k i gs with _ | ⟨l, f⟩
    · rw [hU] at CUT
      replace CUT : ctlF ch ps k i gs = ctlF (ch.take cut) ps k i gs := CUT
      rw [show ctlD none = D.non from rfl]
      walk_at "go"
      refine br_i (fun g0 => ?_) (fun g0 => ?_) <;> walk_at "go"
      · have e0 : cut = 0 := by omega
        subst e0
        rw [List.take_zero, ctl_nil] at CUT
        rw [CUT]
        rw [show ctlD none = D.non from rfl]
        walk_at "go"
        exact hP _ hc
      · rw [← List.map_take]
        refine use_controlling_precedent hg ?_
        walk_at "go"
        rw [CUT]
        refine use_same (n := 5) (ctl_pl3 _) ?_
        walk_at "go"
        exact hP _ hc
    · rw [hU] at CUT
      replace CUT : ctlF ch ps k i gs = some (l + cut, f) := CUT
      rw [CUT]
      rw [show ctlD (some (l, f)) = D.tup [.int (l : Int), .bl f] from rfl]
      walk_at "go"
      refine use_law_upper ?_
      walk_at "go"
      rw [show ctlD (some (l + cut, f)) = D.tup [.int ((l : Int) + (cut : Int)), .bl f] from by show D.tup [.int ((l + cut : Nat) : Int), .bl f] = _; rw [Int.natCast_add]]
      refine use_same (n := 5) ⟨by show 2 ≤ 1000000; decide, by simp [Pl]⟩ ?_
      walk_at "go"
      exact hP _ hc
  by_cases h1 : ∀ x ∈ gs, x ∈ mo
  · rw [brD_pos (by rw [List.length_eq_zero_iff, List.filter_eq_nil_iff]; intro x hx; simp [h1 x hx])]
    walk_at "go"
    have LE : leO (ctlF ch ps k i gs) (ctlF ch ps k i mo) := ctl_more h1 ps none none trivial
    rcases hT : ctlF ch ps k i gs with _ | ⟨l, f⟩
    · rw [hT] at tail
      rw [show ctlD none = D.non from rfl] at tail ⊢
      walk_at "go"
      exact tail .no rfl
    · rw [hT] at tail LE
      rw [show ctlD (some (l, f)) = D.tup [.int (l : Int), .bl f] from rfl] at tail ⊢
      walk_at "go"
      refine use_controlling_precedent hg ?_
      walk_at "go"
      rcases hO : ctlF ch ps k i mo with _ | ⟨l2, f2⟩
      · rw [hO] at LE
        exact LE.elim
      · rw [hO] at LE
        replace LE : l ≤ l2 := LE
        rw [show ctlD (some (l2, f2)) = D.tup [.int (l2 : Int), .bl f2] from rfl]
        walk_at "go"
        exact tail _ rfl
  · rw [brD_neg (by intro z; rw [List.length_eq_zero_iff, List.filter_eq_nil_iff] at z; exact h1 fun x hx => by simpa using z x hx)]
    walk_at "go"
    exact tail .no rfl
theorem foldl_keep {α β : Type} {f : β → α → β} {q : α → Bool} : ∀ (xs : List α) (o : β), (∀ x ∈ xs, q x = false → ∀ o, f o x = o) → (xs.filter q).foldl f o = xs.foldl f o
  | [], _, _ => rfl
  | x :: xs, o, h => by
    have ih := fun o => foldl_keep xs o fun y hy => h y (List.mem_cons_of_mem _ hy)
    cases e : q x with
    | true => rw [List.filter_cons_of_pos e, List.foldl_cons, List.foldl_cons, ih]
    | false => rw [List.filter_cons_of_neg (by simp [e]), List.foldl_cons, h x List.mem_cons_self e, ih]
theorem ctl_off {ch : List Int} {c i : Int} {ts : List Int} {p : Pc} (h : ¬(p.c = c ∧ p.i = i)) (o : Option (Nat × Bool)) : ctlS ch c i ts o p = o := by
  unfold ctlS
  refine if_neg fun z => h ?_
  have := z.1
  unfold onF at this
  simp only [Bool.and_eq_true, decide_eq_true_eq] at this
  exact ⟨this.1.2, this.1.1⟩
theorem ctl_other {ch : List Int} {ps : List Pc} {p : Pc} {c i : Int} {ts : List Int} (hc : ∀ q ∈ ps, sameK q p = true → q.c = p.c) (h : ¬(p.c = c ∧ p.i = i)) : ctlF ch (recF ps p) c i ts = ctlF ch ps c i ts := by
  unfold ctlF recF
  rw [List.foldl_append, List.foldl_cons, List.foldl_nil, ctl_off h]
  refine foldl_keep ps none fun q hq hs o => ctl_off (fun z => h ?_) o
  have hs : sameK q p = true := by simpa using hs
  have e := hc q hq hs
  unfold sameK at hs
  simp only [Bool.and_eq_true, decide_eq_true_eq] at hs
  exact ⟨e.symm.trans z.1, hs.2.2.symm.trans z.2⟩
theorem lack_self (p : Pc) : lackF p p.g = [] := by
  unfold lackF
  exact List.filter_eq_nil_iff.mpr fun x hx => by simp [hx]
theorem ctl_bound {ch : List Int} {ps : List Pc} {p : Pc} (ht : p.t ∈ ch) : ∃ l f, ctlF ch (recF ps p) p.c p.i p.g = some (l, f) ∧ ch.idxOf p.t ≤ l ∧ (l = ch.idxOf p.t → f = p.f) := by
  unfold ctlF recF
  rw [List.foldl_append, List.foldl_cons, List.foldl_nil]
  generalize List.foldl _ none _ = o
  have on : onF ch p p.c p.i = true := by unfold onF; simp [ht]
  rw [show ctlS ch p.c p.i p.g o p = upC (ch.idxOf p.t) p.f o from if_pos ⟨on, lack_self p⟩]
  cases o with
  | none => exact ⟨_, _, rfl, Nat.le_refl _, fun _ => rfl⟩
  | some x =>
    obtain ⟨m, f⟩ := x
    by_cases g : m ≤ ch.idxOf p.t
    · exact ⟨_, _, if_pos g, Nat.le_refl _, fun _ => rfl⟩
    · exact ⟨_, _, if_neg g, by omega, fun e => absurd (Nat.le_of_eq e) g⟩
theorem ctl_pl2 (o : Option (Nat × Bool)) : Pl 5 (ctlD o) := by
  cases o with
  | none => trivial
  | some p => exact ⟨by show 2 ≤ 1000000; decide, by simp [Pl]⟩
theorem ok_law_is_bound : ∀ as P, as.length = 5 → S_law_is_bound as P → r_law_is_bound { nx := fun δ => P (.v .non) (outsOf 0 as δ), rt := fun rt δ => P rt (outsOf 0 as δ) } (startD 8 as) := by
  intro as P _ h
  unfold S_law_is_bound at h
  obtain ⟨ch, ps, qs, p, rfl, hg, hl, hq, hc, hP⟩ := h
  unfold r_law_is_bound
  walk_at "go"
  refine loop_rng (n := 6) (fun k δ => ∃ s5 s6 s7 : Sl, okS s5 = true ∧ okS s6 = true ∧ okS s7 = true ∧ δ = [.frz (.ftp (ch.map D.int)), .frz (.tup ((recF ps p).map pcD)), .frz (.lst (qs.map fun q => .tup [.int q.1, .int q.2])), .frz (pcD p), .frz (.lst (qs.map fun q => ctlD (ctlF ch ps q.1 q.2 p.g))), s5, s6, s7]) ⟨.no, .no, .no, rfl, rfl, rfl, rfl⟩ ?_ ?_
  · rintro k δ hk ⟨s5, s6, s7, e5, e6, e7, rfl⟩ K bk hK
    have hk6 : k < qs.length := by omega
    have aq : atI (qs.map fun q => D.tup [.int q.1, .int q.2]) (k : Int) = some (.tup [.int qs[k].1, .int qs[k].2]) := by rw [atI_map, atI_at hk6]; rfl
    have ab : atI (qs.map fun q => ctlD (ctlF ch ps q.1 q.2 p.g)) (k : Int) = some (ctlD (ctlF ch ps qs[k].1 qs[k].2 p.g)) := by rw [atI_map, atI_at hk6]; rfl
    generalize qs[k] = q at *
    have ep : pcD p = D.tup [.int p.a, .int p.b, .int p.i, .int p.c, .int p.t, .bl p.f, .tup (p.g.map D.int)] := rfl
    rw [ep] at hK ⊢
    walk_at "go"
    repeat (first | (rw [aq]; walk_at "go") | (rw [ab]; walk_at "go"))
    refine use_controlling_precedent hg ?_
    walk_at "go"
    repeat (first | (rw [aq]; walk_at "go") | (rw [ab]; walk_at "go"))
    rw [eqP_two]
    refine ⟨⟨by rfl, by rfl⟩, ?_⟩
    by_cases h : q.1 = p.c ∧ q.2 = p.i
    · rw [brD_neg (by simp [h.1, h.2])]
      rw [h.1, h.2]
      walk_at "go"
      by_cases ht : p.t ∈ ch
      · rw [brD_pos ht]
        walk_at "go"
        rw [place_ints ht]
        walk_at "go"
        obtain ⟨l, f, hl2, h3, h4⟩ := ctl_bound (ps := ps) ht
        rw [hl2]
        unfold ctlD
        walk_at "go"
        by_cases e : l = ch.idxOf p.t
        · rw [brD_pos (by omega), h4 e]
          walk_at "go"
          exact hK _ ⟨_, _, _, rfl, rfl, rfl, rfl⟩
        · rw [brD_neg (by omega)]
          walk_at "go"
          exact hK _ ⟨_, _, _, rfl, rfl, rfl, rfl⟩
      · rw [brD_neg ht]
        exact hK _ ⟨_, _, s7, rfl, rfl, e7, rfl⟩
    · rw [brD_pos (by simpa using h)]
      walk_at "go"
      repeat (first | (rw [aq]; walk_at "go") | (rw [ab]; walk_at "go"))
      rw [ctl_other hc (fun z => h ⟨z.1.symm, z.2.symm⟩)]
      refine use_same (n := 5) (ctl_pl2 _) ?_
      walk_at "go"
      exact hK _ ⟨_, _, s7, rfl, rfl, e7, rfl⟩
  · rintro δ ⟨s5, s6, s7, e5, e6, e7, rfl⟩
    walk_at "go"
    exact hP
theorem ok_record_precedent : ∀ as P, as.length = 2 → S_record_precedent as P → r_record_precedent { nx := fun δ => P (.v .non) (outsOf 0 as δ), rt := fun rt δ => P rt (outsOf 0 as δ) } (startD 3 as) := by
  intro as P _ h
  unfold S_record_precedent at h
  obtain ⟨ps, p, rfl, hl, hP⟩ := h
  unfold r_record_precedent
  walk_at "go"
  refine comp_of (p := fun q => !sameK q p) (f := pcD) (fun q hq K1 K2 y1 y2 => ?_) (by omega) ?_
  · unfold pcD at y1 y2 ⊢
    walk_at "go"
    rw [eqP_three]
    refine ⟨⟨by rfl, by rfl⟩, ?_⟩
    by_cases h : sameK q p = true
    · rw [brD_neg (by unfold sameK at h; simp [h])]
      exact y2 (by simp [h]) _ rfl rfl
    · rw [brD_pos (by unfold sameK at h; simpa using h)]
      walk_at "go"
      exact y1 (by simpa using h) _ rfl rfl
  · walk_at "go"
    refine ⟨?_, ?_⟩
    · rw [List.length_append, List.length_map, List.length_singleton]
      have := List.length_filter_le (fun q => !sameK q p) ps
      omega
    · unfold recF at hP
      rw [List.map_append] at hP
      exact hP
theorem ok_law_recorded : ∀ as P, as.length = 2 → S_law_recorded as P → r_law_recorded { nx := fun δ => P (.v .non) (outsOf 0 as δ), rt := fun rt δ => P rt (outsOf 0 as δ) } (startD 3 as) := by
  intro as P _ h
  unfold S_law_recorded at h
  obtain ⟨ps, p, rfl, hl, hP⟩ := h
  unfold r_law_recorded
  walk_at "go"
  refine comp_of (p := fun q => !sameK q p) (f := pcD) (fun q hq K1 K2 y1 y2 => ?_) (by omega) ?_
  · unfold pcD at y1 y2 ⊢
    walk_at "go"
    rw [eqP_three]
    refine ⟨⟨by rfl, by rfl⟩, ?_⟩
    by_cases h : sameK q p = true
    · rw [brD_neg (by unfold sameK at h; simp [h])]
      exact y2 (by simp [h]) _ rfl rfl
    · rw [brD_pos (by unfold sameK at h; simpa using h)]
      walk_at "go"
      exact y1 (by simpa using h) _ rfl rfl
  · walk_at "go"
    refine ⟨Nat.le_trans (List.length_filter_le _ _) (by omega), ?_⟩
    unfold recF at hP
    rw [List.map_append] at hP
    exact hP
theorem ok_law_ruling : ∀ as P, as.length = 4 → S_law_ruling as P → r_law_ruling { nx := fun δ => P (.v .non) (outsOf 0 as δ), rt := fun rt δ => P rt (outsOf 0 as δ) } (startD 7 as) := by
  intro as P _ h
  unfold S_law_ruling at h
  obtain ⟨c, ch, xs, i1, i2, rfl, hc, n1, n2, x1, x2, hP⟩ := h
  unfold r_law_ruling
  walk_at "go"
  refine use_draw hc (by first | decide | omega) fun a c hc a1 a2 => ?_
  replace a2 := a2 (by first | decide | omega)
  walk_at "go"
  obtain ⟨a, rfl⟩ := Int.eq_ofNat_of_zero_le a1
  have ha : a < xs.length := by omega
  rw [atI_map, atI_at ha, Option.map_some, optD_some]
  have hxm : xs[a] ∈ xs := List.getElem_mem ha
  generalize xs[a] = x at *
  unfold cl3D
  walk_at "go"
  refine use_draw hc (by first | decide | omega) fun b c hc b1 b2 => ?_
  replace b2 := b2 (by first | decide | omega)
  walk_at "go"
  refine use_draw hc (by first | decide | omega) fun d c hc d1 d2 => ?_
  replace d2 := d2 (by first | decide | omega)
  walk_at "go"
  refine pickI (fun z => z = z) d1 (by rw [List.length_append, List.length_map, List.length_singleton]; omega) (fun y hy => by
    rcases List.mem_append.mp hy with h | h
    · obtain ⟨z, _, rfl⟩ := List.mem_map.mp h
      exact ⟨z, rfl, rfl⟩
    · rw [List.mem_singleton.mp h]
      exact ⟨_, rfl, rfl⟩) fun t _ => ?_
  walk_at "go"
  refine use_draw hc (by first | decide | omega) fun e c hc e1 e2 => ?_
  replace e2 := e2 (by first | decide | omega)
  walk_at "go"
  refine pickI (fun z => z = i1 ∨ z = i2) e1 (by show e < 2; omega) (fun y hy => by
    rcases List.mem_cons.mp hy with rfl | h
    · exact ⟨_, rfl, Or.inl rfl⟩
    · rw [List.mem_singleton.mp h]
      exact ⟨_, rfl, Or.inr rfl⟩) fun i hi => ?_
  walk_at "go"
  refine use_draw hc (by first | decide | omega) fun f c hc f1 f2 => ?_
  replace f2 := f2 (by first | decide | omega)
  walk_at "go"
  refine use_law_tags hc fun ts c hc tl => ?_
  walk_at "go"
  exact hP ⟨x.a, x.b, i, x.c, t, decide (f = 1), ts⟩ c hc tl ⟨x, hxm, rfl, rfl, rfl⟩ hi
theorem ok_law_claims : ∀ as P, as.length = 3 → S_law_claims as P → r_law_claims { nx := fun δ => P (.v .non) (outsOf 0 as δ), rt := fun rt δ => P rt (outsOf 0 as δ) } (startD 8 as) := by
  intro as P _ h
  unfold S_law_claims at h
  obtain ⟨c, n, cs, rfl, hc, h1, h2, h3, hP⟩ := h
  unfold r_law_claims
  walk_at "go"
  refine use_draw hc (by first | decide | omega) fun a c hc a1 a2 => ?_
  replace a2 := a2 (by first | decide | omega)
  walk_at "go"
  refine use_draw hc (by first | decide | omega) fun b c hc b1 b2 => ?_
  replace b2 := b2 (by first | decide | omega)
  walk_at "go"
  refine use_draw hc (by first | decide | omega) fun d c hc d1 d2 => ?_
  replace d2 := d2 (by first | decide | omega)
  walk_at "go"
  rw [show 2 * (n : Int) = ((2 * n : Nat) : Int) by omega]
  refine loop_rng (fun k δ => ∃ (c : Cn) (xs : List Cl3) (s7 : Sl), IsTape c ∧ xs.length = k ∧ (∀ x ∈ xs, x.c ∈ cs) ∧ (∀ j : Nat, ∀ x, xs[j]? = some x → x.a = a + (j : Int) / 2 ∧ x.b = if (j : Int) % 2 = 0 then b else b + 1 + d) ∧ okS s7 = true ∧ δ = [.own true c, .frz (.int (n : Int)), .frz (.lst (cs.map D.int)), .frz (.int a), .frz (.int b), .own false (.lst [.int b, .int (b + 1 + d)]), .own false (.lst (xs.map cl3D)), s7]) ⟨c, [], .no, hc, rfl, nofun, fun j x h => by simp at h, rfl, rfl⟩ ?_ ?_
  · rintro k δ hk ⟨c, xs, s7, hc, hx, hm, hj, e7, rfl⟩ K bk hK
    walk_at "go"
    obtain ⟨y, hy, hy2⟩ : ∃ y, atI [D.int b, D.int (b + 1 + d)] ((k : Int) % 2) = some (.int y) ∧ y = if (k : Int) % 2 = 0 then b else b + 1 + d := by
      by_cases h : (k : Int) % 2 = 0
      · rw [h, if_pos rfl]
        exact ⟨b, rfl, rfl⟩
      · rw [show (k : Int) % 2 = 1 by omega, if_neg (by decide)]
        exact ⟨_, rfl, rfl⟩
    rw [hy, optD_some]
    walk_at "go"
    refine use_draw hc (by first | decide | omega) fun e c hc e1 e2 => ?_
    replace e2 := e2 (by first | decide | omega)
    walk_at "go"
    refine pickI (fun z => z ∈ cs) e1 (by rw [List.length_map]; omega) (fun d hd => by
      obtain ⟨z, hz, rfl⟩ := List.mem_map.mp hd
      exact ⟨z, rfl, hz⟩) fun z hz => ?_
    walk_at "go"
    refine hK _ ⟨c, xs ++ [⟨a + (k : Int) / 2, y, z⟩], .frz (.int (k : Int)), hc, by rw [List.length_append, List.length_singleton, hx], fun x hx2 => by
      rcases List.mem_append.mp hx2 with h | h
      · exact hm x h
      · rw [List.mem_singleton.mp h]
        exact hz, fun j x h => by
        rcases Nat.lt_or_ge j xs.length with g | g
        · rw [List.getElem?_append_left g] at h
          exact hj j x h
        · rw [List.getElem?_append_right g] at h
          have e0 : j - xs.length = 0 := by
            rcases Nat.eq_zero_or_pos (j - xs.length) with z | z
            · exact z
            · rw [List.getElem?_eq_none (by rw [List.length_singleton]; omega)] at h
              cases h
          rw [e0] at h
          cases h
          have : j = k := by omega
          subst this
          exact ⟨rfl, hy2⟩, rfl, by rw [List.map_append]; rfl⟩
  · rintro δ ⟨c, xs, s7, hc, hx, hm, hj, e7, rfl⟩
    walk_at "go"
    refine hP xs c hc hx hm fun x hx1 y hy1 ea eb => ?_
    obtain ⟨j, hj1, rfl⟩ := List.getElem_of_mem hx1
    obtain ⟨l, hl1, rfl⟩ := List.getElem_of_mem hy1
    have q1 := hj j _ (List.getElem?_eq_getElem hj1)
    have q2 := hj l _ (List.getElem?_eq_getElem hl1)
    have e : j = l := by
      rw [q1.1, q2.1] at ea
      rw [q1.2, q2.2] at eb
      split at eb <;> split at eb <;> omega
    subst e
    rfl
theorem ok_law_order : ∀ as P, as.length = 2 → S_law_order as P → r_law_order { nx := fun δ => P (.v .non) (outsOf 0 as δ), rt := fun rt δ => P rt (outsOf 0 as δ) } (startD 5 as) := by
  intro as P _ h
  unfold S_law_order at h
  obtain ⟨c, m, rfl, hc, hm, hP⟩ := h
  unfold r_law_order
  walk_at "go"
  have hL' : ∃ left : List Int, rngD 0 (m : Int) = left.map D.int ∧ left.length = m ∧ (∀ o ∈ left, 0 ≤ o ∧ o < (m : Int)) ∧ left = (List.range m).map fun (k : Nat) => (k : Int) := by
    refine ⟨(List.range m).map fun (k : Nat) => (k : Int), ?_, by simp, fun o ho => ?_, rfl⟩
    · rw [rngD_nats, List.map_map]
      rfl
    · obtain ⟨k, hk, rfl⟩ := List.mem_map.mp ho
      have := List.mem_range.mp hk
      omega
  obtain ⟨left, e1, e2, e3, e4⟩ := hL'
  refine loop_rng (fun i δ => ∃ (c : Cn) (left os : List Int) (s : Sl), IsTape c ∧ okS s = true ∧ left.length + i = m ∧ os.length = i ∧ (∀ o ∈ left, 0 ≤ o ∧ o < (m : Int)) ∧ (∀ o ∈ os, 0 ≤ o ∧ o < (m : Int)) ∧ (left ++ os).Perm ((List.range m).map fun (k : Nat) => (k : Int)) ∧
    δ = [.own true c, .frz (.int (m : Int)), .own false (.lst (left.map D.int)), .own false (.lst (os.map D.int)), s]) ⟨c, left, [], .no, hc, rfl, by omega, rfl, e3, (fun o ho => by cases ho), by rw [List.append_nil, e4], by rw [e1]; rfl⟩ ?_ ?_
  · rintro i δ hi ⟨c, left, os, s, hc, hs, h1, h2, h3, h4, h5, rfl⟩ K bk hK
    walk_at "go"
    refine use_draw hc (by omega) fun r c hc q1 q2 => ?_
    replace q2 := q2 (by omega)
    obtain ⟨j, rfl⟩ := Int.eq_ofNat_of_zero_le q1
    have hj : j < left.length := by omega
    have ha : atI (left.map D.int) (j : Int) = some (D.int left[j]) := by rw [atI_map, atI_at hj]; rfl
    walk_at "go"
    rw [ha, optD_some]
    walk_at "go"
    refine hK _ ⟨c, left.eraseIdx j, os ++ [left[j]], .frz (.int (i : Int)), hc, rfl, ?_, ?_, fun o ho => h3 o (List.mem_of_mem_eraseIdx ho), fun o ho => ?_, ?_, ?_⟩
    · rw [List.length_eraseIdx_of_lt hj]
      omega
    · rw [List.length_append, h2]
      rfl
    · rcases List.mem_append.mp ho with ho | ho
      · exact h4 o ho
      · rw [List.mem_singleton.mp ho]
        exact h3 _ (List.getElem_mem hj)
    · refine List.Perm.trans ?_ h5
      have p1 : (left[j] :: left.eraseIdx j).Perm left := er_perm hj
      have p2 : (left.eraseIdx j ++ (os ++ [left[j]])).Perm (left[j] :: left.eraseIdx j ++ os) := by
        rw [← List.append_assoc]
        exact (List.perm_append_singleton _ _)
      exact p2.trans (p1.append_right os)
    · rw [List.map_append, Int.toNat_natCast, er_map]
      rfl
  · rintro δ ⟨c, left, os, s, hc, hs, h1, h2, h3, h4, h5, rfl⟩
    walk_at "go"
    have hle : left = [] := List.length_eq_zero_iff.mp (by omega)
    rw [hle] at h5
    exact hP _ _ hc h2 h4 h5
theorem ok_law_tape : ∀ as P, as.length = 1 → S_law_tape as P → r_law_tape { nx := fun δ => P (.v .non) (outsOf 0 as δ), rt := fun rt δ => P rt (outsOf 0 as δ) } (startD 3 as) := by
  intro as P _ h
  unfold S_law_tape at h
  obtain ⟨ns, rfl, hl, hP⟩ := h
  unfold r_law_tape
  walk_at "ev"
  refine loop_by (fun _ δ => ∃ (t : Int) (s : Sl), okS s = true ∧ δ = [.frz (.rol (ns.map D.int)), .frz (.int t), s]) ⟨7, .no, rfl, rfl⟩ ?_ ?_
  · rintro m rest δ ⟨t, s, hs, rfl⟩ K bk hk
    walk_at "ev"
    exact ⟨hs, hk _ ⟨_, _, okS_frz, rfl⟩⟩
  · rintro δ ⟨t, s, hs, rfl⟩
    walk_at "ev"
    exact hP t
theorem pl_intsK (n : Nat) (l : List Int) (h : l.length ≤ 1000000) : Pl (n + 1) (.tup (l.map D.int)) := ⟨by rw [List.length_map]; exact h, fun d hd => by
  obtain ⟨z, _, rfl⟩ := List.mem_map.mp hd
  cases n <;> trivial⟩
theorem pl_pc (n : Nat) (p : Pc) (h : p.g.length ≤ 1000000) : Pl (n + 3) (pcD p) := ⟨by show 7 ≤ 1000000; decide, fun d hd => by
  rcases List.mem_cons.mp hd with rfl | hd
  · trivial
  rcases List.mem_cons.mp hd with rfl | hd
  · trivial
  rcases List.mem_cons.mp hd with rfl | hd
  · trivial
  rcases List.mem_cons.mp hd with rfl | hd
  · trivial
  rcases List.mem_cons.mp hd with rfl | hd
  · trivial
  rcases List.mem_cons.mp hd with rfl | hd
  · trivial
  rcases List.mem_cons.mp hd with rfl | hd
  · exact pl_intsK (n + 1) _ h
  · cases hd⟩
theorem rec_mem {ps : List Pc} {p q : Pc} (h : q ∈ recF ps p) : q ∈ ps ∨ q = p := by
  unfold recF at h
  rcases List.mem_append.mp h with h | h
  · exact Or.inl (List.mem_filter.mp h).1
  · exact Or.inr (List.mem_singleton.mp h)
theorem rec_lenK {ps : List Pc} {p : Pc} : (recF ps p).length ≤ ps.length + 1 := by
  unfold recF
  rw [List.length_append, List.length_singleton]
  exact Nat.add_le_add_right (List.length_filter_le _ _) 1
theorem pl_rec (n : Nat) {ps : List Pc} {p : Pc} (hl : ps.length ≤ 1000) (h : ∀ q ∈ ps, q.g.length ≤ 1000) (hp : p.g.length ≤ 1000) : Pl (n + 4) (.tup ((recF ps p).map pcD)) := ⟨by rw [List.length_map]; exact Nat.le_trans rec_lenK (by omega), fun d hd => by
  obtain ⟨q, hq, rfl⟩ := List.mem_map.mp hd
  refine pl_pc n q ?_
  rcases rec_mem hq with z | rfl
  · exact Nat.le_trans (h q z) (by decide)
  · exact Nat.le_trans hp (by decide)⟩
theorem ok_law_k30 : ∀ as P, as.length = ["script"].length → S_law as P → r_law_k30 { nx := fun δ => P (.v .non) (outsOf 0 as δ), rt := fun rt δ => P rt (outsOf 0 as δ) } (startD 16 as) := by
  intro as P _ h
  obtain ⟨ns, rfl, hl, hP⟩ := h
  unfold r_law_k30
  walk_at "go"
  refine use_tape hl fun c hc => ?_
  walk_at "go"
  refine use_order (m := 10) hc (by decide) fun os c hc l1 l2 l3 => ?_
  walk_at "go"
  refine use_draw hc (by first | decide | omega) fun a c hc a1 a2 => ?_
  replace a2 := a2 (by first | decide | omega)
  walk_at "go"
  obtain ⟨m, hm⟩ : ∃ m : Nat, 1 + a = (m : Int) := ⟨(1 + a).toNat, by omega⟩
  rw [hm, cut_take, ← List.map_take]
  have n1 : 1 ≤ (os.take m).length := by rw [List.length_take]; omega
  have n2 : (os.take m).length ≤ 10 := by rw [List.length_take]; omega
  have nd : (os.take m).Nodup := by
    have : os.Nodup := l3.nodup_iff.mpr (by decide)
    exact this.sublist (List.take_sublist _ _)
  generalize os.take m = ch at *
  walk_at "go"
  refine use_draw hc (by first | decide | omega) fun b c hc b1 b2 => ?_
  replace b2 := b2 (by first | decide | omega)
  walk_at "go"
  refine use_draw hc (by first | decide | omega) fun d c hc d1 d2 => ?_
  replace d2 := d2 (by first | decide | omega)
  walk_at "go"
  refine use_draw hc (by first | decide | omega) fun e c hc e1 e2 => ?_
  replace e2 := e2 (by first | decide | omega)
  walk_at "go"
  refine use_draw hc (by first | decide | omega) fun f c hc f1 f2 => ?_
  replace f2 := f2 (by first | decide | omega)
  walk_at "go"
  have hw : ∃ wn : Nat, (wn = 2 ∨ wn = 16) ∧ atI [D.int 2, .int 16] (if b = 0 then 1 else 0) = some (.int (wn : Int)) := by
    by_cases h : b = 0
    · exact ⟨16, Or.inr rfl, by rw [if_pos h]; rfl⟩
    · exact ⟨2, Or.inl rfl, by rw [if_neg h]; rfl⟩
  obtain ⟨wn, hwn, hw⟩ := hw
  rw [hw, optD_some]
  walk_at "go"
  refine use_law_claims hc (by omega) (by omega) (cs := [d, 2 + e, 6 + f]) rfl fun xs c hc x1 x2 x3 => ?_
  walk_at "go"
  refine use_draw hc (by first | decide | omega) fun i1 c hc i11 i12 => ?_
  replace i12 := i12 (by first | decide | omega)
  walk_at "go"
  refine use_draw hc (by first | decide | omega) fun i2 c hc i21 i22 => ?_
  replace i22 := i22 (by first | decide | omega)
  walk_at "go"
  rw [loop_c]
  walk_at "go"
  rw [loop_c]
  walk_at "go"
  rw [loop_c]
  walk_at "go"
  rw [loop_n]
  walk_at "go"
  refine use_draw hc (by first | decide | omega) fun n0 c hc n01 n02 => ?_
  replace n02 := n02 (by first | decide | omega)
  walk_at "go"
  obtain ⟨n, hn30, hn⟩ : ∃ n : Nat, n ≤ 30 ∧ atI [D.int (1 + n0), .int 30] (if b = 0 then 1 else 0) = some (.int (n : Int)) := by
    by_cases h : b = 0
    · exact ⟨30, by decide, by rw [if_pos h]; rfl⟩
    · exact ⟨(1 + n0).toNat, by omega, by rw [if_neg h, show (((1 + n0).toNat : Nat) : Int) = 1 + n0 by omega]; rfl⟩
  rw [hn, optD_some]
  walk_at "go"
  generalize hqs : [(d, i1), (d, 3 + i2), (2 + e, i1), (2 + e, 3 + i2), (6 + f, i1), (6 + f, 3 + i2)] = qs
  have eqs : [D.tup [D.int d, D.int i1], D.tup [D.int d, D.int (3 + i2)], D.tup [D.int (2 + e), D.int i1], D.tup [D.int (2 + e), D.int (3 + i2)], D.tup [D.int (6 + f), D.int i1], D.tup [D.int (6 + f), D.int (3 + i2)]] = qs.map fun q => D.tup [.int q.1, .int q.2] := by
    rw [← hqs]
    rfl
  have hq6 : qs.length = 6 := by
    rw [← hqs]
    rfl
  rw [eqs]
  refine loop_rng (n := n) (fun k δ => ∃ (c : Cn) (ps es : List Pc) (s6 s7 s11 s12 s13 s14 s15 s8 : Sl), IsTape c ∧ okS s8 = true ∧ okS s11 = true ∧ okS s12 = true ∧ okS s13 = true ∧ okS s14 = true ∧ okS s15 = true ∧ ps.length ≤ k ∧ es.length ≤ k ∧ (∀ q ∈ ps, q.g.length ≤ 4 ∧ ∃ x ∈ xs, q.a = x.a ∧ q.b = x.b ∧ q.c = x.c) ∧ (∀ q ∈ es, q.g.length ≤ 4) ∧ ((s6 = .own false (.lst [.int i1, .int (3 + i2)]) ∧ s7 = .own false (.lst (qs.map fun q => D.tup [.int q.1, .int q.2]))) ∨ (s6 = .frz (.lst [.int i1, .int (3 + i2)]) ∧ s7 = .frz (.lst (qs.map fun q => D.tup [.int q.1, .int q.2])))) ∧ δ = [.frz (.rol (ns.map D.int)), .own false c, .frz (.ftp (ch.map D.int)), .frz (.bl (decide (b = 0))), .frz (.lst [.int d, .int (2 + e), .int (6 + f)]), .frz (.lst (xs.map cl3D)), s6, s7, s8, .frz (.tup (es.map pcD)), .frz (.tup (ps.map pcD)), s11, s12, s13, s14, s15]) ⟨_, [], [], _, _, .no, .no, .no, .no, .no, _, by assumption, rfl, rfl, rfl, rfl, rfl, rfl, Nat.le_refl _, Nat.le_refl _, nofun, nofun, Or.inl ⟨rfl, rfl⟩, rfl⟩ ?_ ?_
  · rintro k δ hk ⟨c, ps, es, s6, s7, s11, s12, s13, s14, s15, s8, hc, e8, e11, e12, e13, e14, e15, pl, el, hps, hes, h67, rfl⟩ K bk hK
    have hg : ∀ q ∈ ps, q.g.length ≤ 1000 := fun q hq => Nat.le_trans (hps q hq).1 (by decide)
    have hge : ∀ q ∈ es, q.g.length ≤ 1000 := fun q hq => Nat.le_trans (hes q hq) (by decide)
    rcases h67 with ⟨rfl, rfl⟩ | ⟨rfl, rfl⟩
    all_goals
      walk_at "go"
      refine use_law_ruling hc n1 n2 (by omega) (by omega) fun p c hc pg pm pi => ?_
      walk_at "go"
      refine use_law_ruling hc n1 n2 (by omega) (by omega) fun p2 c hc pg2 pm2 pi2 => ?_
      have ep2 : pcD p2 = D.tup [.int p2.a, .int p2.b, .int p2.i, .int p2.c, .int p2.t, .bl p2.f, .tup (p2.g.map D.int)] := rfl
      rw [ep2]
      walk_at "go"
      refine use_draw hc (by first | decide | omega) fun z c hc z1 z2 => ?_
      replace z2 := z2 (by first | decide | omega)
      walk_at "go"
      refine use_draw hc (by first | decide | omega) fun y c hc y1 y2 => ?_
      replace y2 := y2 (by first | decide | omega)
      walk_at "go"
      refine pickI (fun x => x = x) y1 (by show y < 2; omega) (fun d hd => by
        rcases List.mem_cons.mp hd with rfl | h
        · exact ⟨_, rfl, rfl⟩
        · rw [List.mem_singleton.mp h]
          exact ⟨_, rfl, rfl⟩) fun pc _ => ?_
      walk_at "go"
      refine comp_map (f := fun q => ctlD (ctlF ch ps q.1 q.2 p.g)) (fun q hq K1 K2 y1 => ?_) (by omega) ?_
      · rw [show pcD p = D.tup [.int p.a, .int p.b, .int p.i, .int p.c, .int p.t, .bl p.f, .tup (p.g.map D.int)] from rfl]
        walk_at "go"
        refine use_controlling_precedent hg ?_
        walk_at "go"
        exact y1 _ rfl rfl
      · obtain ⟨p3, e3, g3⟩ : ∃ p3 : Pc, D.tup [.int p2.a, .int p2.b, .int p2.i, .int pc, .int p2.t, .bl p2.f, .tup (p2.g.map D.int)] = pcD p3 ∧ p3.g.length ≤ 1000 := ⟨⟨p2.a, p2.b, p2.i, pc, p2.t, p2.f, p2.g⟩, rfl, Nat.le_trans pg2 (by decide)⟩
        rw [e3]
        walk_at "go"
        rw [loop_c]
        walk_at "go"
        refine use_record_precedent (by omega) ?_
        walk_at "go"
        refine use_law_recorded (by omega) ?_
        walk_at "go"
        refine use_same (n := 5) (pl_rec 1 (by omega) hg (Nat.le_trans pg (by decide))) ?_
        walk_at "go"
        rw [loop_c]
        walk_at "go"
        refine use_record_precedent (by omega) ?_
        walk_at "go"
        refine use_law_recorded (by omega) ?_
        walk_at "go"
        refine use_same (n := 5) (pl_rec 1 (by omega) hge (Nat.le_trans pg (by decide))) ?_
        walk_at "go"
        rw [loop_c]
        walk_at "go"
        refine use_record_precedent (by omega) ?_
        walk_at "go"
        refine use_law_recorded (by omega) ?_
        walk_at "go"
        refine use_same (n := 5) (pl_rec 1 (by omega) hg g3) ?_
        walk_at "go"
        rw [loop_c]
        walk_at "go"
        refine use_record_precedent (by omega) ?_
        walk_at "go"
        refine use_law_recorded (by omega) ?_
        walk_at "go"
        refine use_same (n := 5) (pl_rec 1 (by omega) hg (Nat.le_trans pg (by decide))) ?_
        walk_at "go"
        rw [loop_n]
        walk_at "go"
        refine use_record_precedent (by omega) ?_
        walk_at "go"
        have hgr : ∀ q ∈ recF ps p, q.g.length ≤ 1000 := fun q hq => by
          rcases rec_mem hq with h | rfl
          · exact hg q h
          · exact Nat.le_trans pg (by decide)
        refine use_law_is_bound hgr (by omega) hq6 (fun q hq hs => by
          obtain ⟨x, hx, xa, xb, xc⟩ := (hps q hq).2
          obtain ⟨y, hy, ya, yb, yc⟩ := pm
          unfold sameK at hs
          simp only [Bool.and_eq_true, decide_eq_true_eq] at hs
          rw [xc, yc]
          exact x3 x hx y hy (by rw [← xa, ← ya]; exact hs.1) (by rw [← xb, ← yb]; exact hs.2.1)) ?_
        walk_at "go"
        refine use_draw hc (by first | decide | omega) fun v c hc v1 v2 => ?_
        replace v2 := v2 (by first | decide | omega)
        walk_at "go"
        obtain ⟨v, rfl⟩ := Int.eq_ofNat_of_zero_le v1
        have hv : v < qs.length := by omega
        rw [atI_map, atI_at hv, Option.map_some, optD_some]
        have hrl := rec_lenK (ps := ps) (p := p)
        rw [show pcD p = D.tup [.int p.a, .int p.b, .int p.i, .int p.c, .int p.t, .bl p.f, .tup (p.g.map D.int)] from rfl]
        walk_at "go"
        refine use_law_looked hc n1 n2 nd hgr (by omega) pg fun c hc => ?_
        walk_at "go"
        exact hK _ ⟨c, recF ps p, ps, _, _, _, _, _, _, _, _, hc, e8, rfl, rfl, rfl, rfl, rfl, by omega, by omega, fun q hq => by
          rcases rec_mem hq with h | rfl
          · exact hps q h
          · exact ⟨pg, pm⟩, fun q hq => (hps q hq).1, Or.inr ⟨rfl, rfl⟩, rfl⟩
  · rintro δ ⟨c, ps, es, s6, s7, s11, s12, s13, s14, s15, s8, hc, e8, e11, e12, e13, e14, e15, pl, el, hps, hes, h67, rfl⟩
    walk_at "go"
    exact hP
end Dl
namespace Lk30
open PySem PySem.Spec PyProof.Rows L2 Dl
def top (i : Nat) : Stmt := PySem.Challenge.pw_overturn_k30_whole_recorded_precedents.main.body.getD i (.Pass ⟨0, 0, 0, 0⟩)
abbrev st_law_draw : Stmt := top 8
abbrev N_law_draw : List Str := ["tape", "many", "number", "place"]
theorem sc_law_draw : FnScope N_law_draw ["tape", "many"] (defScope st_law_draw) := ⟨rfl, rfl, rfl, by decide +kernel, rfl, by decide +kernel, by decide +kernel⟩
abbrev st_law_same : Stmt := top 9
abbrev N_law_same : List Str := ["told", "due", "k"]
theorem sc_law_same : FnScope N_law_same ["told", "due"] (defScope st_law_same) := ⟨rfl, rfl, rfl, by decide +kernel, rfl, by decide +kernel, by decide +kernel⟩
abbrev st_on_the_issue : Stmt := top 1
abbrev N_on_the_issue : List Str := ["chain", "precedent", "cause", "issue"]
theorem sc_on_the_issue : FnScope N_on_the_issue ["chain", "precedent", "cause", "issue"] (defScope st_on_the_issue) := ⟨rfl, rfl, rfl, by decide +kernel, rfl, by decide +kernel, by decide +kernel⟩
abbrev st_missing_tags : Stmt := top 2
abbrev N_missing_tags : List Str := ["precedent", "tags", "tag"]
theorem sc_missing_tags : FnScope N_missing_tags ["precedent", "tags"] (defScope st_missing_tags) := ⟨rfl, rfl, rfl, by decide +kernel, rfl, by decide +kernel, by decide +kernel⟩
abbrev st_controlling_precedent : Stmt := top 3
abbrev N_controlling_precedent : List Str := ["chain", "precedents", "cause", "issue", "tags", "found", "precedent", "level"]
theorem sc_controlling_precedent : FnScope N_controlling_precedent ["chain", "precedents", "cause", "issue", "tags"] (defScope st_controlling_precedent) := ⟨rfl, rfl, rfl, by decide +kernel, rfl, by decide +kernel, by decide +kernel⟩
abbrev st_law_upper : Stmt := top 14
abbrev N_law_upper : List Str := ["cut", "told"]
theorem sc_law_upper : FnScope N_law_upper ["cut", "told"] (defScope st_law_upper) := ⟨rfl, rfl, rfl, by decide +kernel, rfl, by decide +kernel, by decide +kernel⟩
abbrev st_law_tags : Stmt := top 11
abbrev N_law_tags : List Str := ["tape", "wide", "k"]
theorem sc_law_tags : FnScope N_law_tags ["tape"] (defScope st_law_tags) := ⟨rfl, rfl, rfl, by decide +kernel, rfl, by decide +kernel, by decide +kernel⟩
abbrev st_distinguished : Stmt := top 4
abbrev N_distinguished : List Str := ["chain", "precedents", "cause", "issue", "tags", "found", "number", "precedent", "missing"]
theorem sc_distinguished : FnScope N_distinguished ["chain", "precedents", "cause", "issue", "tags"] (defScope st_distinguished) := ⟨rfl, rfl, rfl, by decide +kernel, rfl, by decide +kernel, by decide +kernel⟩
abbrev st_law_apart : Stmt := top 13
abbrev N_law_apart : List Str := ["chain", "precedents", "cause", "issue", "tags", "apart", "k", "row", "missing", "tag"]
theorem sc_law_apart : FnScope N_law_apart ["chain", "precedents", "cause", "issue", "tags"] (defScope st_law_apart) := ⟨rfl, rfl, rfl, by decide +kernel, rfl, by decide +kernel, by decide +kernel⟩
abbrev st_law_control : Stmt := top 12
abbrev N_law_control : List Str := ["chain", "precedents", "cause", "issue", "tags", "found", "row", "level", "tag"]
theorem sc_law_control : FnScope N_law_control ["chain", "precedents", "cause", "issue", "tags"] (defScope st_law_control) := ⟨rfl, rfl, rfl, by decide +kernel, rfl, by decide +kernel, by decide +kernel⟩
abbrev st_law_looked : Stmt := top 15
abbrev N_law_looked : List Str := ["tape", "chain", "precedents", "pair", "required", "tags", "told", "due", "more", "cut", "upper", "other", "tag"]
theorem sc_law_looked : FnScope N_law_looked ["tape", "chain", "precedents", "pair", "required"] (defScope st_law_looked) := ⟨rfl, rfl, rfl, by decide +kernel, rfl, by decide +kernel, by decide +kernel⟩
abbrev st_law_is_bound : Stmt := top 19
abbrev N_law_is_bound : List Str := ["chain", "precedents", "pairs", "row", "before", "j", "told", "level"]
theorem sc_law_is_bound : FnScope N_law_is_bound ["chain", "precedents", "pairs", "row", "before"] (defScope st_law_is_bound) := ⟨rfl, rfl, rfl, by decide +kernel, rfl, by decide +kernel, by decide +kernel⟩
abbrev st_record_precedent : Stmt := top 5
abbrev N_record_precedent : List Str := ["precedents", "precedent", "other"]
theorem sc_record_precedent : FnScope N_record_precedent ["precedents", "precedent"] (defScope st_record_precedent) := ⟨rfl, rfl, rfl, by decide +kernel, rfl, by decide +kernel, by decide +kernel⟩
abbrev st_law_recorded : Stmt := top 18
abbrev N_law_recorded : List Str := ["precedents", "row", "other"]
theorem sc_law_recorded : FnScope N_law_recorded ["precedents", "row"] (defScope st_law_recorded) := ⟨rfl, rfl, rfl, by decide +kernel, rfl, by decide +kernel, by decide +kernel⟩
abbrev st_law_ruling : Stmt := top 17
abbrev N_law_ruling : List Str := ["tape", "chain", "claims", "issues", "claim", "court", "row"]
theorem sc_law_ruling : FnScope N_law_ruling ["tape", "chain", "claims", "issues"] (defScope st_law_ruling) := ⟨rfl, rfl, rfl, by decide +kernel, rfl, by decide +kernel, by decide +kernel⟩
abbrev st_law_claims : Stmt := top 16
abbrev N_law_claims : List Str := ["tape", "cases", "causes", "first", "low", "numbers", "claims", "k"]
theorem sc_law_claims : FnScope N_law_claims ["tape", "cases", "causes"] (defScope st_law_claims) := ⟨rfl, rfl, rfl, by decide +kernel, rfl, by decide +kernel, by decide +kernel⟩
abbrev st_law_order : Stmt := top 10
abbrev N_law_order : List Str := ["tape", "many", "left", "order", "k"]
theorem sc_law_order : FnScope N_law_order ["tape", "many"] (defScope st_law_order) := ⟨rfl, rfl, rfl, by decide +kernel, rfl, by decide +kernel, by decide +kernel⟩
abbrev st_law_tape : Stmt := top 7
abbrev N_law_tape : List Str := ["script", "total", "cell"]
theorem sc_law_tape : FnScope N_law_tape ["script"] (defScope st_law_tape) := ⟨rfl, rfl, rfl, by decide +kernel, rfl, by decide +kernel, by decide +kernel⟩
abbrev st_law_k30 : Stmt := top 20
abbrev N_law_k30 : List Str := ["script", "tape", "chain", "wide", "causes", "claims", "issues", "pairs", "cause", "early", "precedents", "k", "row", "other", "before", "pair"]
theorem sc_law_k30 : FnScope N_law_k30 ["script"] (defScope st_law_k30) := ⟨rfl, rfl, rfl, by decide +kernel, rfl, by decide +kernel, by decide +kernel⟩
structure Tx (K : PySem.W.Frag) (w : World) (mg : Str → Option Value) : Prop where
  no : True
section
variable {P : Program} {w : World} {K : PySem.W.Frag} {mg : Str → Option Value} {base : Heap} {h : Heap}
theorem cal_law_draw (X : K.In h) (G : h.Ns mainGlobals mg) (B : Blt mg) (T : Tx K w mg) (d : Df K "_law_draw" st_law_draw)  : Cal P w K mg base 1 "_law_draw" ["tape", "many"] S_law_draw :=
  cal_mk X G d sc_law_draw r_law_draw (fun _ _ _ _ _ _ us hl => match us, hl with | [_, _], _ => rfl) (fun f cdv A outer s H E hr => (b_cons (s_if (t_cmp (op_eq.or (op_eqD hr.units)) os_eq (e_ix ix_seq os_ix (e_name 0 (pv 0)) e_int (fun _ _ => rfl)) e_int (nomark _))
 (b_cons (ps_wk (ps_set (i := 3) sc_law_draw.nd rfl (by first | exact Or.inl rfl | exact Or.inr rfl) (e_ix ix_seq os_ix (e_name 0 (pv 0)) e_int (fun _ _ => rfl))) asg_sound)
 (b_cons (ps_wk (ps_set (i := 2) sc_law_draw.nd rfl (by first | exact Or.inl rfl | exact Or.inr rfl) e_int) asg_sound)
 (b_cons (s_if (t_cmp op_lt os_cmp (e_name 3 (pv 3)) (pe_wk (pe_callB call_len (by rfl) B.len PySem.boot_len (a_cons (e_ix ix_seq os_ix (e_name 0 (pv 0)) e_int (fun _ _ => rfl)) a_nil)) (cb_sound cs_len)) (nomark _))
 (b_one (ps_wk (ps_set (i := 2) sc_law_draw.nd rfl (by first | exact Or.inl rfl | exact Or.inr rfl) (pe_wk (pe_callB call_abs (by rfl) B.abs PyProof.Rows.boot_abs (a_cons (pe_wk (pe_callTy call_int1 (by rfl) B.int PyProof.Rows.boot_int (a_cons (e_ix ix_seq os_ix (e_ix ix_seq os_ix (e_name 0 (pv 0)) e_int (fun _ _ => rfl)) (e_name 3 (pv 3)) (fun _ _ => rfl)) a_nil)) (cb_sound cs_int)) a_nil)) (cb_sound cs_abs))) asg_sound))
 (b_cons (s_setI 0 (pv 0) (e_op op_mod os_mod (pe_wk (pe_callTy call_int1 (by rfl) B.int PyProof.Rows.boot_int (a_cons (e_op op_addD os_add (e_op op_addD os_add (e_op op_mul os_mul (e_ix ix_seq os_ix (e_name 0 (pv 0)) e_int (fun _ _ => rfl)) e_int) (e_name 3 (pv 3))) e_int) a_nil)) (cb_sound cs_int)) e_int) e_int)
 (b_one (ps_wk (ps_set (i := 2) sc_law_draw.nd rfl (by first | exact Or.inl rfl | exact Or.inr rfl) (e_ix ix_seq os_ix (e_name 0 (pv 0)) e_int (fun _ _ => rfl))) asg_sound))))
 (b_cons (s_setI 0 (pv 0) (e_op op_addD os_add (e_name 3 (pv 3)) e_int) e_int)
 (b_cons (s_if (t_cmp op_lt os_cmp (e_name 2 (pv 2)) (e_op op_pow os_pow e_int e_int) (nomark _))
 (b_cons (ps_wk (ps_set (i := 2) sc_law_draw.nd rfl (by first | exact Or.inl rfl | exact Or.inr rfl) (e_op op_mod os_mod (pe_wk (pe_callTy call_int1 (by rfl) B.int PyProof.Rows.boot_int (a_cons (e_op op_addD os_add (e_op op_addD os_add (e_op op_mul os_mul (e_name 2 (pv 2)) e_int) (e_op op_mul os_mul (e_name 3 (pv 3)) e_int)) e_int) a_nil)) (cb_sound cs_int)) e_int)) asg_sound)
 (b_cons (ps_wk (ps_set (i := 2) sc_law_draw.nd rfl (by first | exact Or.inl rfl | exact Or.inr rfl) (e_op op_mod os_mod (pe_wk (pe_callTy call_int1 (by rfl) B.int PyProof.Rows.boot_int (a_cons (e_op op_mul os_mul (e_name 2 (pv 2)) e_int) a_nil)) (cb_sound cs_int)) e_int)) asg_sound)
 (b_one (s_ret (e_op op_mod os_mod (pe_wk (pe_callTy call_int1 (by rfl) B.int PyProof.Rows.boot_int (a_cons (e_name 2 (pv 2)) a_nil)) (cb_sound cs_int)) (pe_wk (pe_callB (call_max2 rfl) (by rfl) B.max PyProof.Rows.boot_max (a_cons (e_name 1 (pv 1)) (a_cons e_int a_nil))) (cb_sound cs_max2)))))))
 b_nil)
 (b_one (s_setI 0 (pv 0) (e_val (e_name 2 (pv 2))) e_int)))))))
 b_nil)
 (b_cons (ps_wk (ps_set (i := 2) sc_law_draw.nd rfl (by first | exact Or.inl rfl | exact Or.inr rfl) (e_ix ix_seq os_ix (e_name 0 (pv 0)) e_int (fun _ _ => rfl))) asg_sound)
 (b_cons (s_setI 0 (pv 0) (e_op op_fdiv os_div (e_name 2 (pv 2)) (pe_wk (pe_callB (call_max2 rfl) (by rfl) B.max PyProof.Rows.boot_max (a_cons (e_name 1 (pv 1)) (a_cons e_int a_nil))) (cb_sound cs_max2))) e_int)
 (b_one (s_ret (e_op op_mod os_mod (pe_wk (pe_callTy call_int1 (by rfl) B.int PyProof.Rows.boot_int (a_cons (e_name 2 (pv 2)) a_nil)) (cb_sound cs_int)) (pe_wk (pe_callB (call_max2 rfl) (by rfl) B.max PyProof.Rows.boot_max (a_cons (e_name 1 (pv 1)) (a_cons e_int a_nil))) (cb_sound cs_max2))))))))) ok_law_draw
theorem calr_law_same (X : K.In h) (G : h.Ns mainGlobals mg) (B : Blt mg) (T : Tx K w mg) (d : Df K "_law_same" st_law_same)  : ∀ n : Nat, Cal P w K mg base (1 + n) "_law_same" ["told", "due"] (Sn_law_same n)
  | 0 => by unfold Sn_law_same; exact cal_none (ps := ["told", "due"]) X G d (fun _ _ _ _ _ _ us hl => match us, hl with | [_, _], _ => rfl)
  | m + 1 => by
    have C_law_same := calr_law_same X G B T d  m
    exact cal_mk (k := 1 + m) X G d sc_law_same (r_law_same (Sn_law_same m)) (fun _ _ _ _ _ _ us hl => match us, hl with | [_, _], _ => rfl) (fun f cdv A outer s H E hr => (b_cons (s_if (t_cmp op_isN os_isN (e_name 1 (pv 1)) e_non (nomark _))
 (b_one (s_ret (e_cmp op_isN os_isN (e_name 0 (pv 0)) e_non (nomark _))))
 b_nil)
 (b_cons (s_if (t_tru (e_isi (T := "tuple") (by simp) (by rfl) B.isinstance (e_name 1 (pv 1)) (pe_bltn (by rfl) B.tuple PyProof.Rows.boot_tuple rfl)))
 (b_cons (s_if (t_pw (w_or (t_not (t_tru (e_isi (T := "tuple") (by simp) (by rfl) B.isinstance (e_name 0 (pv 0)) (pe_bltn (by rfl) B.tuple PyProof.Rows.boot_tuple rfl)))) (w_or1 (t_cmp (op_ne.or (op_neD hr.units)) os_ne (pe_wk (pe_callB call_len (by rfl) B.len PySem.boot_len (a_cons (e_name 0 (pv 0)) a_nil)) (cb_sound cs_len)) (pe_wk (pe_callB call_len (by rfl) B.len PySem.boot_len (a_cons (e_name 1 (pv 1)) a_nil)) (cb_sound cs_len)) (nomark _)))))
 (b_one (s_ret e_bl))
 b_nil)
 (b_one (s_ret (e_cmp (op_eq.or (op_eqD hr.units)) os_eq (pe_wk (pe_callB call_len (by rfl) B.len PySem.boot_len (a_cons (e_fz (pe_wk (pe_lc (own := [("k", 2)]) rfl sc_law_same.nd (i_rng1 (by rfl) B.range (a_cons (pe_wk (pe_callB call_len (by rfl) B.len PySem.boot_len (a_cons (e_name 1 (pv 1)) a_nil)) (cb_sound cs_len)) a_nil)) (blkOk_by (N := N_law_same) (sc := defScope st_law_same) (by decide +kernel)) (fun _ _ _ _ _ => (g_name (pg_name (i := 2) sc_law_same.nd rfl (by first | exact Or.inl rfl | exact Or.inr rfl)))) (fun _ _ _ _ _ => (pts_one (t_not (t_tru (e_cal C_law_same hr (by first | decide | omega) (by rfl) (a_cons (e_ix ix_seq os_ix (e_name 0 (pv 0)) (e_name 2 (pv 2)) (fun _ _ => rfl)) (a_cons (e_ix ix_seq os_ix (e_name 1 (pv 1)) (e_name 2 (pv 2)) (fun _ _ => rfl)) a_nil))))))) (fun _ _ _ _ _ => (e_val (e_name 2 (pv 2))))) (comp_sound (by decide)))) a_nil)) (cb_sound cs_len)) e_int (nomark _)))))
 b_nil)
 (b_cons (s_if (t_tru (e_isi (T := "str") (by simp) (by rfl) B.isinstance (e_name 1 (pv 1)) (pe_bltn (by rfl) B.str (by decide +kernel) rfl)))
 (b_one (s_ret (e_and (e_isi (T := "str") (by simp) (by rfl) B.isinstance (e_name 0 (pv 0)) (pe_bltn (by rfl) B.str (by decide +kernel) rfl)) (e_one (e_cmp (op_eq.or (op_eqD hr.units)) os_eq (e_name 0 (pv 0)) (e_name 1 (pv 1)) (nomark _))))))
 b_nil)
 (b_one (s_ret (e_and (e_isi (T := "int") (by simp) (by rfl) B.isinstance (e_name 0 (pv 0)) (pe_bltn (by rfl) B.int PyProof.Rows.boot_int rfl)) (e_and (e_cmp (op_eq.or (op_eqD hr.units)) os_eq (e_isi (T := "bool") (by simp) (by rfl) B.isinstance (e_name 0 (pv 0)) (pe_bltn (by rfl) B.bool (by decide +kernel) rfl)) (e_isi (T := "bool") (by simp) (by rfl) B.isinstance (e_name 1 (pv 1)) (pe_bltn (by rfl) B.bool (by decide +kernel) rfl)) (nomark _)) (e_one (e_cmp (op_eq.or (op_eqD hr.units)) os_eq (e_name 0 (pv 0)) (e_name 1 (pv 1)) (nomark _))))))))))) (ok_law_same m)
theorem cal_law_same (X : K.In h) (G : h.Ns mainGlobals mg) (B : Blt mg) (T : Tx K w mg) (d : Df K "_law_same" st_law_same)  : Cal P w K mg base 7 "_law_same" ["told", "due"] S_law_same := calr_law_same X G B T d  6
theorem cal_on_the_issue (X : K.In h) (G : h.Ns mainGlobals mg) (B : Blt mg) (T : Tx K w mg) (d : Df K "on_the_issue" st_on_the_issue)  : Cal P w K mg base 1 "on_the_issue" ["chain", "precedent", "cause", "issue"] S_on_the_issue :=
  cal_mk X G d sc_on_the_issue r_on_the_issue (fun _ _ _ _ _ _ us hl => match us, hl with | [_, _, _, _], _ => rfl) (fun f cdv A outer s H E hr => (b_one (s_ret (e_and (e_cmp (op_eq.or (op_eqD hr.units)) os_eq (e_sl (e_name 1 (pv 1)) (o_some e_int) (o_some e_int)) (e_tup (a_cons (e_val (e_name 3 (pv 3))) (a_cons (e_val (e_name 2 (pv 2))) a_nil))) (nomark _)) (e_one (e_cmp op_in_seq os_in (e_ix ix_seq os_ix (e_name 1 (pv 1)) e_int (fun _ _ => rfl)) (e_soft (e_name 0 (pv 0))) (by rfl))))))) ok_on_the_issue
theorem cal_missing_tags (X : K.In h) (G : h.Ns mainGlobals mg) (B : Blt mg) (T : Tx K w mg) (d : Df K "missing_tags" st_missing_tags)  : Cal P w K mg base 1 "missing_tags" ["precedent", "tags"] S_missing_tags :=
  cal_mk X G d sc_missing_tags r_missing_tags (fun _ _ _ _ _ _ us hl => match us, hl with | [_, _], _ => rfl) (fun f cdv A outer s H E hr => (b_one (s_ret (pe_wk (pe_callTy call_tuple_of (by rfl) B.tuple PyProof.Rows.boot_tuple (a_cons (e_fz (pe_wk (pe_lc (own := [("tag", 2)]) rfl sc_missing_tags.nd (i_seq (e_ix ix_seq os_ix (e_name 0 (pv 0)) e_int (fun _ _ => rfl))) (blkOk_by (N := N_missing_tags) (sc := defScope st_missing_tags) (by decide +kernel)) (fun _ _ _ _ _ => (g_name (pg_name (i := 2) sc_missing_tags.nd rfl (by first | exact Or.inl rfl | exact Or.inr rfl)))) (fun _ _ _ _ _ => (pts_one (t_cmp op_notIn_seq os_in (e_name 2 (pv 2)) (e_name 1 (pv 1)) (by rfl)))) (fun _ _ _ _ _ => (e_val (e_name 2 (pv 2))))) (comp_sound (by decide)))) a_nil)) (cb_sound cs_tuple))))) ok_missing_tags
theorem cal_controlling_precedent (X : K.In h) (G : h.Ns mainGlobals mg) (B : Blt mg) (T : Tx K w mg) (d : Df K "controlling_precedent" st_controlling_precedent) (C_on_the_issue : Cal P w K mg base 1 "on_the_issue" ["chain", "precedent", "cause", "issue"] S_on_the_issue) (C_missing_tags : Cal P w K mg base 1 "missing_tags" ["precedent", "tags"] S_missing_tags) : Cal P w K mg base 2 "controlling_precedent" ["chain", "precedents", "cause", "issue", "tags"] S_controlling_precedent :=
  cal_mk X G d sc_controlling_precedent r_controlling_precedent (fun _ _ _ _ _ _ us hl => match us, hl with | [_, _, _, _, _], _ => rfl) (fun f cdv A outer s H E hr => (b_cons (ps_wk (ps_set (i := 5) sc_controlling_precedent.nd rfl (by first | exact Or.inl rfl | exact Or.inr rfl) e_non) asg_sound)
 (b_cons (s_for PassesOwn.never rfl (i_seq (e_val (e_name 1 (pv 1)))) (g_name (pg_name (i := 6) sc_controlling_precedent.nd rfl (by first | exact Or.inl rfl | exact Or.inr rfl)))
 (b_one (s_if (t_pw (w_and (t_tru (e_cal C_on_the_issue hr (by decide) (by rfl) (a_cons (e_val (e_name 0 (pv 0))) (a_cons (e_val (e_name 6 (pv 6))) (a_cons (e_val (e_name 2 (pv 2))) (a_cons (e_val (e_name 3 (pv 3))) a_nil)))))) (w_and1 (t_not (t_tru (e_cal C_missing_tags hr (by decide) (by rfl) (a_cons (e_val (e_name 6 (pv 6))) (a_cons (e_val (e_name 4 (pv 4))) a_nil))))))))
 (b_cons (ps_wk (ps_set (i := 7) sc_controlling_precedent.nd rfl (by first | exact Or.inl rfl | exact Or.inr rfl) (pe_wk (pe_ixF (e_name 0 (pv 0)) (pa_cons (e_ix ix_seq os_ix (e_name 6 (pv 6)) e_int (fun _ _ => rfl)) pa_nil)) ixF_sound)) asg_sound)
 (b_one (s_if (t_pw (w_or (t_cmp op_isN os_isN (e_name 5 (pv 5)) e_non (nomark _)) (w_or1 (t_cmp op_ge os_cmp (e_name 7 (pv 7)) (e_ix ix_seq os_ix (e_name 5 (pv 5)) e_int (fun _ _ => rfl)) (nomark _)))))
 (b_one (ps_wk (ps_set (i := 5) sc_controlling_precedent.nd rfl (by first | exact Or.inl rfl | exact Or.inr rfl) (e_tup (a_cons (e_val (e_name 7 (pv 7))) (a_cons (e_ix ix_seq os_ix (e_name 6 (pv 6)) e_int (fun _ _ => rfl)) a_nil)))) asg_sound))
 b_nil)))
 b_nil)))
 (b_one (s_ret (e_val (e_name 5 (pv 5)))))))) ok_controlling_precedent
theorem cal_law_upper (X : K.In h) (G : h.Ns mainGlobals mg) (B : Blt mg) (T : Tx K w mg) (d : Df K "_law_upper" st_law_upper)  : Cal P w K mg base 1 "_law_upper" ["cut", "told"] S_law_upper :=
  cal_mk X G d sc_law_upper r_law_upper (fun _ _ _ _ _ _ us hl => match us, hl with | [_, _], _ => rfl) (fun f cdv A outer s H E hr => (b_one (s_ret (e_tup (a_cons (e_op op_addD os_add (e_ix ix_seq os_ix (e_name 1 (pv 1)) e_int (fun _ _ => rfl)) (e_name 0 (pv 0))) (a_cons (e_ix ix_seq os_ix (e_name 1 (pv 1)) e_int (fun _ _ => rfl)) a_nil)))))) ok_law_upper
theorem cal_law_tags (X : K.In h) (G : h.Ns mainGlobals mg) (B : Blt mg) (T : Tx K w mg) (d : Df K "_law_tags" st_law_tags) (C_law_draw : Cal P w K mg base 1 "_law_draw" ["tape", "many"] S_law_draw) : Cal P w K mg base 2 "_law_tags" ["tape"] S_law_tags :=
  cal_mk X G d sc_law_tags r_law_tags (fun _ _ _ _ _ _ us hl => match us, hl with | [_], _ => rfl) (fun f cdv A outer s H E hr => (b_cons (ps_wk (ps_set (i := 1) sc_law_tags.nd rfl (by first | exact Or.inl rfl | exact Or.inr rfl) (e_ix ix_seq os_ix (e_fz (pe_wk (e_lst (a_cons e_int (a_cons e_int (a_cons e_int a_nil)))) (fun _ _ _ h => h))) (e_cal C_law_draw hr (by decide) (by rfl) (a_cons (e_name 0 (pv 0)) (a_cons e_int a_nil))) (fun _ _ => rfl))) asg_sound)
 (b_one (s_ret (pe_wk (pe_callTy call_tuple_of (by rfl) B.tuple PyProof.Rows.boot_tuple (a_cons (e_fz (pe_wk (e_slF (e_fz (pe_wk (pe_lc (own := [("k", 2)]) rfl sc_law_tags.nd (i_rng1 (by rfl) B.range (a_cons (e_val (e_name 1 (pv 1))) a_nil)) (blkOk_by (N := N_law_tags) (sc := defScope st_law_tags) (by decide +kernel)) (fun _ _ _ _ _ => (g_name (pg_name (i := 2) sc_law_tags.nd rfl (by first | exact Or.inl rfl | exact Or.inr rfl)))) (fun _ _ _ _ _ => (pts_one (t_cmp (op_eq.or (op_eqD hr.units)) os_eq (e_cal C_law_draw hr (by decide) (by rfl) (a_cons (e_name 0 (pv 0)) (a_cons e_int a_nil))) e_int (nomark _)))) (fun _ _ _ _ _ => (e_val (e_name 2 (pv 2))))) (comp_sound (by decide)))) o_none (o_some e_int)) (fun _ _ _ h => h))) a_nil)) (cb_sound cs_tuple)))))) ok_law_tags
theorem cal_distinguished (X : K.In h) (G : h.Ns mainGlobals mg) (B : Blt mg) (T : Tx K w mg) (d : Df K "distinguished" st_distinguished) (C_on_the_issue : Cal P w K mg base 1 "on_the_issue" ["chain", "precedent", "cause", "issue"] S_on_the_issue) (C_missing_tags : Cal P w K mg base 1 "missing_tags" ["precedent", "tags"] S_missing_tags) : Cal P w K mg base 2 "distinguished" ["chain", "precedents", "cause", "issue", "tags"] S_distinguished :=
  cal_mk X G d sc_distinguished r_distinguished (fun _ _ _ _ _ _ us hl => match us, hl with | [_, _, _, _, _], _ => rfl) (fun f cdv A outer s H E hr => (b_cons (ps_wk (ps_set (i := 5) sc_distinguished.nd rfl (by first | exact Or.inl rfl | exact Or.inr rfl) (e_lst a_nil)) (asgF_by (fun _ _ _ h => h)))
 (b_cons (s_for PassesOwn.never rfl (i_enu (by rfl) B.enumerate (a_cons (e_val (e_name 1 (pv 1))) a_nil)) (g_tup rfl (g_cons (g_name (pg_name (i := 6) sc_distinguished.nd rfl (by first | exact Or.inl rfl | exact Or.inr rfl))) (g_cons (g_name (pg_name (i := 7) sc_distinguished.nd rfl (by first | exact Or.inl rfl | exact Or.inr rfl))) g_nil)))
 (b_cons (ps_wk (ps_set (i := 8) sc_distinguished.nd rfl (by first | exact Or.inl rfl | exact Or.inr rfl) (e_cal C_missing_tags hr (by decide) (by rfl) (a_cons (e_val (e_name 7 (pv 7))) (a_cons (e_val (e_name 4 (pv 4))) a_nil)))) asg_sound)
 (b_one (s_if (t_pw (w_and (t_tru (e_name 8 (pv 8))) (w_and1 (t_tru (e_cal C_on_the_issue hr (by decide) (by rfl) (a_cons (e_val (e_name 0 (pv 0))) (a_cons (e_val (e_name 7 (pv 7))) (a_cons (e_val (e_name 2 (pv 2))) (a_cons (e_val (e_name 3 (pv 3))) a_nil)))))))))
 (b_one (ps_wk (ps_expr (pe_bm PySem.F.plainAttrs_list PySem.F.slot_list_append PySem.F.type_list_append mt_append (pv 5) (pa_cons (e_tup (a_cons (e_val (e_name 6 (pv 6))) (a_cons (e_val (e_name 8 (pv 8))) a_nil))) pa_nil))) app_sound))
 b_nil))))
 (b_one (s_ret (pe_wk (pe_callTy call_tuple_of (by rfl) B.tuple PyProof.Rows.boot_tuple (a_cons (e_name 5 (pv 5)) a_nil)) (cb_sound cs_tuple))))))) ok_distinguished
theorem cal_law_apart (X : K.In h) (G : h.Ns mainGlobals mg) (B : Blt mg) (T : Tx K w mg) (d : Df K "_law_apart" st_law_apart)  : Cal P w K mg base 1 "_law_apart" ["chain", "precedents", "cause", "issue", "tags"] S_law_apart :=
  cal_mk X G d sc_law_apart r_law_apart (fun _ _ _ _ _ _ us hl => match us, hl with | [_, _, _, _, _], _ => rfl) (fun f cdv A outer s H E hr => (b_cons (ps_wk (ps_set (i := 5) sc_law_apart.nd rfl (by first | exact Or.inl rfl | exact Or.inr rfl) (e_lst a_nil)) (asgF_by (fun _ _ _ h => h)))
 (b_cons (s_for PassesOwn.never rfl (i_rng1 (by rfl) B.range (a_cons (pe_wk (pe_callB call_len (by rfl) B.len PySem.boot_len (a_cons (e_name 1 (pv 1)) a_nil)) (cb_sound cs_len)) a_nil)) (g_name (pg_name (i := 6) sc_law_apart.nd rfl (by first | exact Or.inl rfl | exact Or.inr rfl)))
 (b_cons (ps_wk (ps_set (i := 7) sc_law_apart.nd rfl (by first | exact Or.inl rfl | exact Or.inr rfl) (e_ix ix_seq os_ix (e_name 1 (pv 1)) (e_name 6 (pv 6)) (fun _ _ => rfl))) asg_sound)
 (b_cons (ps_wk (ps_set (i := 8) sc_law_apart.nd rfl (by first | exact Or.inl rfl | exact Or.inr rfl) (pe_wk (pe_callTy call_tuple_of (by rfl) B.tuple PyProof.Rows.boot_tuple (a_cons (e_fz (pe_wk (pe_lc (own := [("tag", 9)]) rfl sc_law_apart.nd (i_seq (e_ix ix_seq os_ix (e_name 7 (pv 7)) e_int (fun _ _ => rfl))) (blkOk_by (N := N_law_apart) (sc := defScope st_law_apart) (by decide +kernel)) (fun _ _ _ _ _ => (g_name (pg_name (i := 9) sc_law_apart.nd rfl (by first | exact Or.inl rfl | exact Or.inr rfl)))) (fun _ _ _ _ _ => (pts_one (t_cmp op_notIn_seq os_in (e_name 9 (pv 9)) (e_name 4 (pv 4)) (by rfl)))) (fun _ _ _ _ _ => (e_val (e_name 9 (pv 9))))) (comp_sound (by decide)))) a_nil)) (cb_sound cs_tuple))) asg_sound)
 (b_one (s_if (t_pw (w_and (t_cmp (op_eq.or (op_eqD hr.units)) os_eq (e_ix ix_seq os_ix (e_name 7 (pv 7)) e_int (fun _ _ => rfl)) (e_name 2 (pv 2)) (nomark _)) (w_and (t_cmp (op_eq.or (op_eqD hr.units)) os_eq (e_ix ix_seq os_ix (e_name 7 (pv 7)) e_int (fun _ _ => rfl)) (e_name 3 (pv 3)) (nomark _)) (w_and (t_cmp op_in_seq os_in (e_ix ix_seq os_ix (e_name 7 (pv 7)) e_int (fun _ _ => rfl)) (e_soft (e_name 0 (pv 0))) (by rfl)) (w_and1 (t_tru (e_name 8 (pv 8))))))))
 (b_one (ps_wk (ps_expr (pe_bm PySem.F.plainAttrs_list PySem.F.slot_list_append PySem.F.type_list_append mt_append (pv 5) (pa_cons (e_tup (a_cons (e_val (e_name 6 (pv 6))) (a_cons (e_val (e_name 8 (pv 8))) a_nil))) pa_nil))) app_sound))
 b_nil)))))
 (b_one (s_ret (pe_wk (pe_callTy call_tuple_of (by rfl) B.tuple PyProof.Rows.boot_tuple (a_cons (e_name 5 (pv 5)) a_nil)) (cb_sound cs_tuple))))))) ok_law_apart
theorem cal_law_control (X : K.In h) (G : h.Ns mainGlobals mg) (B : Blt mg) (T : Tx K w mg) (d : Df K "_law_control" st_law_control)  : Cal P w K mg base 1 "_law_control" ["chain", "precedents", "cause", "issue", "tags"] S_law_control :=
  cal_mk X G d sc_law_control r_law_control (fun _ _ _ _ _ _ us hl => match us, hl with | [_, _, _, _, _], _ => rfl) (fun f cdv A outer s H E hr => (b_cons (ps_wk (ps_set (i := 5) sc_law_control.nd rfl (by first | exact Or.inl rfl | exact Or.inr rfl) e_non) asg_sound)
 (b_cons (s_for PassesOwn.never rfl (i_seq (e_val (e_name 1 (pv 1)))) (g_name (pg_name (i := 6) sc_law_control.nd rfl (by first | exact Or.inl rfl | exact Or.inr rfl)))
 (b_one (s_if (t_pw (w_and (t_cmp (op_eq.or (op_eqD hr.units)) os_eq (e_ix ix_seq os_ix (e_name 6 (pv 6)) e_int (fun _ _ => rfl)) (e_name 2 (pv 2)) (nomark _)) (w_and (t_cmp (op_eq.or (op_eqD hr.units)) os_eq (e_ix ix_seq os_ix (e_name 6 (pv 6)) e_int (fun _ _ => rfl)) (e_name 3 (pv 3)) (nomark _)) (w_and1 (t_cmp op_in_seq os_in (e_ix ix_seq os_ix (e_name 6 (pv 6)) e_int (fun _ _ => rfl)) (e_soft (e_name 0 (pv 0))) (by rfl))))))
 (b_one (s_if (t_cmp (op_eq.or (op_eqD hr.units)) os_eq (pe_wk (pe_callB call_len (by rfl) B.len PySem.boot_len (a_cons (e_fz (pe_wk (pe_lc (own := [("tag", 8)]) rfl sc_law_control.nd (i_seq (e_ix ix_seq os_ix (e_name 6 (pv 6)) e_int (fun _ _ => rfl))) (blkOk_by (N := N_law_control) (sc := defScope st_law_control) (by decide +kernel)) (fun _ _ _ _ _ => (g_name (pg_name (i := 8) sc_law_control.nd rfl (by first | exact Or.inl rfl | exact Or.inr rfl)))) (fun _ _ _ _ _ => (pts_one (t_cmp op_notIn_seq os_in (e_name 8 (pv 8)) (e_name 4 (pv 4)) (by rfl)))) (fun _ _ _ _ _ => (e_val (e_name 8 (pv 8))))) (comp_sound (by decide)))) a_nil)) (cb_sound cs_len)) e_int (nomark _))
 (b_cons (ps_wk (ps_set (i := 7) sc_law_control.nd rfl (by first | exact Or.inl rfl | exact Or.inr rfl) (pe_wk (pe_ixF (e_name 0 (pv 0)) (pa_cons (e_ix ix_seq os_ix (e_name 6 (pv 6)) e_int (fun _ _ => rfl)) pa_nil)) ixF_sound)) asg_sound)
 (b_one (s_if (t_pw (w_or (t_cmp op_isN os_isN (e_name 5 (pv 5)) e_non (nomark _)) (w_or1 (t_cmp op_ge os_cmp (e_name 7 (pv 7)) (e_ix ix_seq os_ix (e_name 5 (pv 5)) e_int (fun _ _ => rfl)) (nomark _)))))
 (b_one (ps_wk (ps_set (i := 5) sc_law_control.nd rfl (by first | exact Or.inl rfl | exact Or.inr rfl) (e_tup (a_cons (e_val (e_name 7 (pv 7))) (a_cons (e_ix ix_seq os_ix (e_name 6 (pv 6)) e_int (fun _ _ => rfl)) a_nil)))) asg_sound))
 b_nil)))
 b_nil))
 b_nil)))
 (b_one (s_ret (e_val (e_name 5 (pv 5)))))))) ok_law_control
theorem cal_law_looked (X : K.In h) (G : h.Ns mainGlobals mg) (B : Blt mg) (T : Tx K w mg) (d : Df K "_law_looked" st_law_looked) (C_law_same : Cal P w K mg base 7 "_law_same" ["told", "due"] S_law_same) (C_controlling_precedent : Cal P w K mg base 2 "controlling_precedent" ["chain", "precedents", "cause", "issue", "tags"] S_controlling_precedent) (C_law_upper : Cal P w K mg base 1 "_law_upper" ["cut", "told"] S_law_upper) (C_law_draw : Cal P w K mg base 1 "_law_draw" ["tape", "many"] S_law_draw) (C_law_tags : Cal P w K mg base 2 "_law_tags" ["tape"] S_law_tags) (C_distinguished : Cal P w K mg base 2 "distinguished" ["chain", "precedents", "cause", "issue", "tags"] S_distinguished) (C_law_apart : Cal P w K mg base 1 "_law_apart" ["chain", "precedents", "cause", "issue", "tags"] S_law_apart) (C_law_control : Cal P w K mg base 1 "_law_control" ["chain", "precedents", "cause", "issue", "tags"] S_law_control) : Cal P w K mg base 8 "_law_looked" ["tape", "chain", "precedents", "pair", "required"] S_law_looked :=
  cal_mk X G d sc_law_looked r_law_looked (fun _ _ _ _ _ _ us hl => match us, hl with | [_, _, _, _, _], _ => rfl) (fun f cdv A outer s H E hr => (b_cons (ps_wk (ps_set (i := 5) sc_law_looked.nd rfl (by first | exact Or.inl rfl | exact Or.inr rfl) (e_ix ix_seq os_ix (e_fz (pe_wk (e_lst (a_cons (e_cal C_law_tags hr (by decide) (by rfl) (a_cons (e_name 0 (pv 0)) a_nil)) (a_cons (e_val (e_name 4 (pv 4))) a_nil))) (fun _ _ _ h => h))) (e_cal C_law_draw hr (by decide) (by rfl) (a_cons (e_name 0 (pv 0)) (a_cons e_int a_nil))) (fun _ _ => rfl))) asg_sound)
 (b_cons (ps_wk (ps_set (i := 6) sc_law_looked.nd rfl (by first | exact Or.inl rfl | exact Or.inr rfl) (e_cal C_controlling_precedent hr (by decide) (by rfl) (a_cons (e_val (e_name 1 (pv 1))) (a_cons (e_val (e_name 2 (pv 2))) (a_cons (e_ix ix_seq os_ix (e_name 3 (pv 3)) e_int (fun _ _ => rfl)) (a_cons (e_ix ix_seq os_ix (e_name 3 (pv 3)) e_int (fun _ _ => rfl)) (a_cons (e_val (e_name 5 (pv 5))) a_nil))))))) asg_sound)
 (b_cons (s_if (t_not (t_tru (e_cal C_law_same hr (by decide) (by rfl) (a_cons (e_val (e_name 6 (pv 6))) (a_cons (e_cal C_law_control hr (by decide) (by rfl) (a_cons (e_val (e_name 1 (pv 1))) (a_cons (e_val (e_name 2 (pv 2))) (a_cons (e_ix ix_seq os_ix (e_name 3 (pv 3)) e_int (fun _ _ => rfl)) (a_cons (e_ix ix_seq os_ix (e_name 3 (pv 3)) e_int (fun _ _ => rfl)) (a_cons (e_val (e_name 5 (pv 5))) a_nil)))))) a_nil)))))
 (b_one (s_ret e_bl))
 b_nil)
 (b_cons (ps_wk (ps_set (i := 7) sc_law_looked.nd rfl (by first | exact Or.inl rfl | exact Or.inr rfl) (e_cal C_law_apart hr (by decide) (by rfl) (a_cons (e_val (e_name 1 (pv 1))) (a_cons (e_val (e_name 2 (pv 2))) (a_cons (e_ix ix_seq os_ix (e_name 3 (pv 3)) e_int (fun _ _ => rfl)) (a_cons (e_ix ix_seq os_ix (e_name 3 (pv 3)) e_int (fun _ _ => rfl)) (a_cons (e_val (e_name 5 (pv 5))) a_nil))))))) asg_sound)
 (b_cons (s_if (t_not (t_tru (e_cal C_law_same hr (by decide) (by rfl) (a_cons (e_cal C_distinguished hr (by decide) (by rfl) (a_cons (e_val (e_name 1 (pv 1))) (a_cons (e_val (e_name 2 (pv 2))) (a_cons (e_ix ix_seq os_ix (e_name 3 (pv 3)) e_int (fun _ _ => rfl)) (a_cons (e_ix ix_seq os_ix (e_name 3 (pv 3)) e_int (fun _ _ => rfl)) (a_cons (e_val (e_name 5 (pv 5))) a_nil)))))) (a_cons (e_val (e_name 7 (pv 7))) a_nil)))))
 (b_one (s_ret e_bl))
 b_nil)
 (b_cons (ps_wk (ps_set (i := 8) sc_law_looked.nd rfl (by first | exact Or.inl rfl | exact Or.inr rfl) (pe_wk (pe_callTy call_tuple_of (by rfl) B.tuple PyProof.Rows.boot_tuple (a_cons (e_fz (pe_wk (e_slF (e_fz (pe_wk (pe_callB cr_sortedI (by rfl) B.sorted PyProof.Rows.boot_sorted (a_cons (e_fz (pe_wk (pe_op op_cat (e_fz (pe_wk (pe_callTy (call_list_of.or (cr_listStr rfl)) (by rfl) B.list PyProof.Rows.boot_list (a_cons (e_name 5 (pv 5)) a_nil)) (cbF_sound cf_list2))) (e_fz (pe_wk (pe_lc (own := [("tag", 12)]) rfl sc_law_looked.nd (i_seq (e_cal C_law_tags hr (by decide) (by rfl) (a_cons (e_name 0 (pv 0)) a_nil))) (blkOk_by (N := N_law_looked) (sc := defScope st_law_looked) (by decide +kernel)) (fun _ _ _ _ _ => (g_name (pg_name (i := 12) sc_law_looked.nd rfl (by first | exact Or.inl rfl | exact Or.inr rfl)))) (fun _ _ _ _ _ => (pts_one (t_cmp op_notIn_seq os_in (e_name 12 (pv 12)) (e_name 5 (pv 5)) (by rfl)))) (fun _ _ _ _ _ => (e_val (e_name 12 (pv 12))))) (comp_sound (by decide))))) (opF_sound of_cat))) a_nil)) (cbF_sound cf_sorted))) o_none (o_some e_int)) (fun _ _ _ h => h))) a_nil)) (cb_sound cs_tuple))) asg_sound)
 (b_cons (s_if (t_pw (w_and (t_cmp (op_eq.or (op_eqD hr.units)) os_eq (pe_wk (pe_callB call_len (by rfl) B.len PySem.boot_len (a_cons (e_fz (pe_wk (pe_lc (own := [("tag", 12)]) rfl sc_law_looked.nd (i_seq (e_val (e_name 5 (pv 5)))) (blkOk_by (N := N_law_looked) (sc := defScope st_law_looked) (by decide +kernel)) (fun _ _ _ _ _ => (g_name (pg_name (i := 12) sc_law_looked.nd rfl (by first | exact Or.inl rfl | exact Or.inr rfl)))) (fun _ _ _ _ _ => (pts_one (t_cmp op_notIn_seq os_in (e_name 12 (pv 12)) (e_name 8 (pv 8)) (by rfl)))) (fun _ _ _ _ _ => (e_val (e_name 12 (pv 12))))) (comp_sound (by decide)))) a_nil)) (cb_sound cs_len)) e_int (nomark _)) (w_and1 (t_cmp op_notN os_isnN (e_name 6 (pv 6)) e_non (nomark _)))))
 (b_cons (ps_wk (ps_set (i := 11) sc_law_looked.nd rfl (by first | exact Or.inl rfl | exact Or.inr rfl) (e_cal C_controlling_precedent hr (by decide) (by rfl) (a_cons (e_val (e_name 1 (pv 1))) (a_cons (e_val (e_name 2 (pv 2))) (a_cons (e_ix ix_seq os_ix (e_name 3 (pv 3)) e_int (fun _ _ => rfl)) (a_cons (e_ix ix_seq os_ix (e_name 3 (pv 3)) e_int (fun _ _ => rfl)) (a_cons (e_val (e_name 8 (pv 8))) a_nil))))))) asg_sound)
 (b_one (s_if (t_pw (w_or (t_cmp op_isN os_isN (e_name 11 (pv 11)) e_non (nomark _)) (w_or1 (t_cmp op_lt os_cmp (e_ix ix_seq os_ix (e_name 11 (pv 11)) e_int (fun _ _ => rfl)) (e_ix ix_seq os_ix (e_name 6 (pv 6)) e_int (fun _ _ => rfl)) (nomark _)))))
 (b_one (s_ret e_bl))
 b_nil)))
 b_nil)
 (b_cons (ps_wk (ps_set (i := 9) sc_law_looked.nd rfl (by first | exact Or.inl rfl | exact Or.inr rfl) (e_cal C_law_draw hr (by decide) (by rfl) (a_cons (e_name 0 (pv 0)) (a_cons (pe_wk (pe_callB call_len (by rfl) B.len PySem.boot_len (a_cons (e_soft (e_name 1 (pv 1))) a_nil)) (cb_sound cs_len)) a_nil)))) asg_sound)
 (b_cons (ps_wk (ps_set (i := 10) sc_law_looked.nd rfl (by first | exact Or.inl rfl | exact Or.inr rfl) (e_cal C_controlling_precedent hr (by decide) (by rfl) (a_cons (e_slp (e_name 1 (pv 1)) (o_some (e_name 9 (pv 9))) o_none) (a_cons (e_val (e_name 2 (pv 2))) (a_cons (e_ix ix_seq os_ix (e_name 3 (pv 3)) e_int (fun _ _ => rfl)) (a_cons (e_ix ix_seq os_ix (e_name 3 (pv 3)) e_int (fun _ _ => rfl)) (a_cons (e_val (e_name 5 (pv 5))) a_nil))))))) asg_sound)
 (b_cons (s_if (t_cmp op_notN os_isnN (e_name 10 (pv 10)) e_non (nomark _))
 (b_one (s_ret (e_cal C_law_same hr (by decide) (by rfl) (a_cons (e_val (e_name 6 (pv 6))) (a_cons (e_cal C_law_upper hr (by decide) (by rfl) (a_cons (e_val (e_name 9 (pv 9))) (a_cons (e_val (e_name 10 (pv 10))) a_nil))) a_nil)))))
 b_nil)
 (b_cons (s_if (t_cmp (op_eq.or (op_eqD hr.units)) os_eq (e_name 9 (pv 9)) e_int (nomark _))
 (b_one (s_ret (e_cmp op_isN os_isN (e_name 6 (pv 6)) e_non (nomark _))))
 b_nil)
 (b_one (s_ret (e_cal C_law_same hr (by decide) (by rfl) (a_cons (e_val (e_name 6 (pv 6))) (a_cons (e_cal C_controlling_precedent hr (by decide) (by rfl) (a_cons (e_slp (e_name 1 (pv 1)) o_none (o_some (e_name 9 (pv 9)))) (a_cons (e_val (e_name 2 (pv 2))) (a_cons (e_ix ix_seq os_ix (e_name 3 (pv 3)) e_int (fun _ _ => rfl)) (a_cons (e_ix ix_seq os_ix (e_name 3 (pv 3)) e_int (fun _ _ => rfl)) (a_cons (e_val (e_name 5 (pv 5))) a_nil)))))) a_nil))))))))))))))))) ok_law_looked
theorem cal_law_is_bound (X : K.In h) (G : h.Ns mainGlobals mg) (B : Blt mg) (T : Tx K w mg) (d : Df K "_law_is_bound" st_law_is_bound) (C_law_same : Cal P w K mg base 7 "_law_same" ["told", "due"] S_law_same) (C_controlling_precedent : Cal P w K mg base 2 "controlling_precedent" ["chain", "precedents", "cause", "issue", "tags"] S_controlling_precedent) : Cal P w K mg base 8 "_law_is_bound" ["chain", "precedents", "pairs", "row", "before"] S_law_is_bound :=
  cal_mk X G d sc_law_is_bound r_law_is_bound (fun _ _ _ _ _ _ us hl => match us, hl with | [_, _, _, _, _], _ => rfl) (fun f cdv A outer s H E hr => (b_cons (s_for PassesOwn.never rfl (i_rng1 (by rfl) B.range (a_cons e_int a_nil)) (g_name (pg_name (i := 5) sc_law_is_bound.nd rfl (by first | exact Or.inl rfl | exact Or.inr rfl)))
 (b_cons (ps_wk (ps_set (i := 6) sc_law_is_bound.nd rfl (by first | exact Or.inl rfl | exact Or.inr rfl) (e_cal C_controlling_precedent hr (by decide) (by rfl) (a_cons (e_val (e_name 0 (pv 0))) (a_cons (e_val (e_name 1 (pv 1))) (a_cons (e_ix ix_seq os_ix (e_ix ix_seq os_ix (e_name 2 (pv 2)) (e_name 5 (pv 5)) (fun _ _ => rfl)) e_int (fun _ _ => rfl)) (a_cons (e_ix ix_seq os_ix (e_ix ix_seq os_ix (e_name 2 (pv 2)) (e_name 5 (pv 5)) (fun _ _ => rfl)) e_int (fun _ _ => rfl)) (a_cons (e_ix ix_seq os_ix (e_name 3 (pv 3)) e_int (fun _ _ => rfl)) a_nil))))))) asg_sound)
 (b_one (s_if (t_cmp (op_ne.or (op_neD hr.units)) os_ne (e_ix ix_seq os_ix (e_name 2 (pv 2)) (e_name 5 (pv 5)) (fun _ _ => rfl)) (e_tup (a_cons (e_ix ix_seq os_ix (e_name 3 (pv 3)) e_int (fun _ _ => rfl)) (a_cons (e_ix ix_seq os_ix (e_name 3 (pv 3)) e_int (fun _ _ => rfl)) a_nil))) (nomark _))
 (b_one (s_if (t_not (t_tru (e_cal C_law_same hr (by decide) (by rfl) (a_cons (e_val (e_name 6 (pv 6))) (a_cons (e_ix ix_seq os_ix (e_name 4 (pv 4)) (e_name 5 (pv 5)) (fun _ _ => rfl)) a_nil)))))
 (b_one (s_ret e_bl))
 b_nil))
 (b_one (s_if (t_cmp op_in_seq os_in (e_ix ix_seq os_ix (e_name 3 (pv 3)) e_int (fun _ _ => rfl)) (e_soft (e_name 0 (pv 0))) (by rfl))
 (b_cons (ps_wk (ps_set (i := 7) sc_law_is_bound.nd rfl (by first | exact Or.inl rfl | exact Or.inr rfl) (pe_wk (pe_ixF (e_name 0 (pv 0)) (pa_cons (e_ix ix_seq os_ix (e_name 3 (pv 3)) e_int (fun _ _ => rfl)) pa_nil)) ixF_sound)) asg_sound)
 (b_one (s_if (t_pw (w_or (t_cmp op_isN os_isN (e_name 6 (pv 6)) e_non (nomark _)) (w_or (t_cmp op_lt os_cmp (e_ix ix_seq os_ix (e_name 6 (pv 6)) e_int (fun _ _ => rfl)) (e_name 7 (pv 7)) (nomark _)) (w_or1 (t_pw (w_and (t_cmp (op_eq.or (op_eqD hr.units)) os_eq (e_ix ix_seq os_ix (e_name 6 (pv 6)) e_int (fun _ _ => rfl)) (e_name 7 (pv 7)) (nomark _)) (w_and1 (t_cmp (op_ne.or (op_neD hr.units)) os_ne (e_ix ix_seq os_ix (e_name 6 (pv 6)) e_int (fun _ _ => rfl)) (e_ix ix_seq os_ix (e_name 3 (pv 3)) e_int (fun _ _ => rfl)) (nomark _)))))))))
 (b_one (s_ret e_bl))
 b_nil)))
 b_nil))))))
 (b_one (s_ret e_bl)))) ok_law_is_bound
theorem cal_record_precedent (X : K.In h) (G : h.Ns mainGlobals mg) (B : Blt mg) (T : Tx K w mg) (d : Df K "record_precedent" st_record_precedent)  : Cal P w K mg base 1 "record_precedent" ["precedents", "precedent"] S_record_precedent :=
  cal_mk X G d sc_record_precedent r_record_precedent (fun _ _ _ _ _ _ us hl => match us, hl with | [_, _], _ => rfl) (fun f cdv A outer s H E hr => (b_one (s_ret (e_tup (a_star (e_fz (pe_wk (pe_lc (own := [("other", 2)]) rfl sc_record_precedent.nd (i_seq (e_val (e_name 0 (pv 0)))) (blkOk_by (N := N_record_precedent) (sc := defScope st_record_precedent) (by decide +kernel)) (fun _ _ _ _ _ => (g_name (pg_name (i := 2) sc_record_precedent.nd rfl (by first | exact Or.inl rfl | exact Or.inr rfl)))) (fun _ _ _ _ _ => (pts_one (t_cmp (op_ne.or (op_neD hr.units)) os_ne (e_sl (e_name 2 (pv 2)) o_none (o_some e_int)) (e_sl (e_name 1 (pv 1)) o_none (o_some e_int)) (nomark _)))) (fun _ _ _ _ _ => (e_val (e_name 2 (pv 2))))) (comp_sound (by decide)))) (a_cons (e_val (e_name 1 (pv 1))) a_nil)))))) ok_record_precedent
theorem cal_law_recorded (X : K.In h) (G : h.Ns mainGlobals mg) (B : Blt mg) (T : Tx K w mg) (d : Df K "_law_recorded" st_law_recorded)  : Cal P w K mg base 1 "_law_recorded" ["precedents", "row"] S_law_recorded :=
  cal_mk X G d sc_law_recorded r_law_recorded (fun _ _ _ _ _ _ us hl => match us, hl with | [_, _], _ => rfl) (fun f cdv A outer s H E hr => (b_one (s_ret (e_op op_addD os_add (pe_wk (pe_callTy call_tuple_of (by rfl) B.tuple PyProof.Rows.boot_tuple (a_cons (e_fz (pe_wk (pe_lc (own := [("other", 2)]) rfl sc_law_recorded.nd (i_seq (e_val (e_name 0 (pv 0)))) (blkOk_by (N := N_law_recorded) (sc := defScope st_law_recorded) (by decide +kernel)) (fun _ _ _ _ _ => (g_name (pg_name (i := 2) sc_law_recorded.nd rfl (by first | exact Or.inl rfl | exact Or.inr rfl)))) (fun _ _ _ _ _ => (pts_one (t_cmp (op_ne.or (op_neD hr.units)) os_ne (e_sl (e_name 2 (pv 2)) o_none (o_some e_int)) (e_sl (e_name 1 (pv 1)) o_none (o_some e_int)) (nomark _)))) (fun _ _ _ _ _ => (e_val (e_name 2 (pv 2))))) (comp_sound (by decide)))) a_nil)) (cb_sound cs_tuple)) (e_tup (a_cons (e_val (e_name 1 (pv 1))) a_nil)))))) ok_law_recorded
theorem cal_law_ruling (X : K.In h) (G : h.Ns mainGlobals mg) (B : Blt mg) (T : Tx K w mg) (d : Df K "_law_ruling" st_law_ruling) (C_law_tags : Cal P w K mg base 2 "_law_tags" ["tape"] S_law_tags) (C_law_draw : Cal P w K mg base 1 "_law_draw" ["tape", "many"] S_law_draw) : Cal P w K mg base 3 "_law_ruling" ["tape", "chain", "claims", "issues"] S_law_ruling :=
  cal_mk X G d sc_law_ruling r_law_ruling (fun _ _ _ _ _ _ us hl => match us, hl with | [_, _, _, _], _ => rfl) (fun f cdv A outer s H E hr => (b_cons (ps_wk (ps_set (i := 4) sc_law_ruling.nd rfl (by first | exact Or.inl rfl | exact Or.inr rfl) (e_ix ix_seq os_ix (e_name 2 (pv 2)) (e_cal C_law_draw hr (by decide) (by rfl) (a_cons (e_name 0 (pv 0)) (a_cons (pe_wk (pe_callB call_len (by rfl) B.len PySem.boot_len (a_cons (e_name 2 (pv 2)) a_nil)) (cb_sound cs_len)) a_nil))) (fun _ _ => rfl))) asg_sound)
 (b_cons (ps_wk (ps_set (i := 5) sc_law_ruling.nd rfl (by first | exact Or.inl rfl | exact Or.inr rfl) (e_ix ix_seq os_ix (e_fz (pe_wk (pe_op op_cat (e_fz (pe_wk (pe_callTy (call_list_of.or (cr_listStr rfl)) (by rfl) B.list PyProof.Rows.boot_list (a_cons (e_soft (e_name 1 (pv 1))) a_nil)) (cbF_sound cf_list2))) (e_fz (pe_wk (e_lst (a_cons (e_cal C_law_draw hr (by decide) (by rfl) (a_cons (e_name 0 (pv 0)) (a_cons e_int a_nil))) a_nil)) (fun _ _ _ h => h)))) (opF_sound of_cat))) (e_cal C_law_draw hr (by decide) (by rfl) (a_cons (e_name 0 (pv 0)) (a_cons (e_op op_addD os_add (pe_wk (pe_callB call_len (by rfl) B.len PySem.boot_len (a_cons (e_soft (e_name 1 (pv 1))) a_nil)) (cb_sound cs_len)) e_int) a_nil))) (fun _ _ => rfl))) asg_sound)
 (b_cons (ps_wk (ps_set (i := 6) sc_law_ruling.nd rfl (by first | exact Or.inl rfl | exact Or.inr rfl) (e_tup (a_cons (e_ix ix_seq os_ix (e_name 4 (pv 4)) e_int (fun _ _ => rfl)) (a_cons (e_ix ix_seq os_ix (e_name 4 (pv 4)) e_int (fun _ _ => rfl)) (a_cons (e_ix ix_seq os_ix (e_name 3 (pv 3)) (e_cal C_law_draw hr (by decide) (by rfl) (a_cons (e_name 0 (pv 0)) (a_cons e_int a_nil))) (fun _ _ => rfl)) (a_cons (e_ix ix_seq os_ix (e_name 4 (pv 4)) e_int (fun _ _ => rfl)) (a_cons (e_val (e_name 5 (pv 5))) (a_cons (e_cmp (op_eq.or (op_eqD hr.units)) os_eq (e_cal C_law_draw hr (by decide) (by rfl) (a_cons (e_name 0 (pv 0)) (a_cons e_int a_nil))) e_int (nomark _)) a_nil)))))))) asg_sound)
 (b_one (s_ret (e_op op_addD os_add (e_name 6 (pv 6)) (e_tup (a_cons (e_cal C_law_tags hr (by decide) (by rfl) (a_cons (e_name 0 (pv 0)) a_nil)) a_nil))))))))) ok_law_ruling
theorem cal_law_claims (X : K.In h) (G : h.Ns mainGlobals mg) (B : Blt mg) (T : Tx K w mg) (d : Df K "_law_claims" st_law_claims) (C_law_draw : Cal P w K mg base 1 "_law_draw" ["tape", "many"] S_law_draw) : Cal P w K mg base 2 "_law_claims" ["tape", "cases", "causes"] S_law_claims :=
  cal_mk X G d sc_law_claims r_law_claims (fun _ _ _ _ _ _ us hl => match us, hl with | [_, _, _], _ => rfl) (fun f cdv A outer s H E hr => (b_cons (ps_wk (ps_set (i := 3) sc_law_claims.nd rfl (by first | exact Or.inl rfl | exact Or.inr rfl) (e_cal C_law_draw hr (by decide) (by rfl) (a_cons (e_name 0 (pv 0)) (a_cons (e_op op_sub os_sub e_int (e_name 1 (pv 1))) a_nil)))) asg_sound)
 (b_cons (ps_wk (ps_set (i := 4) sc_law_claims.nd rfl (by first | exact Or.inl rfl | exact Or.inr rfl) (e_cal C_law_draw hr (by decide) (by rfl) (a_cons (e_name 0 (pv 0)) (a_cons e_int a_nil)))) asg_sound)
 (b_cons (ps_wk (ps_set (i := 5) sc_law_claims.nd rfl (by first | exact Or.inl rfl | exact Or.inr rfl) (e_lst (a_cons (e_val (e_name 4 (pv 4))) (a_cons (e_op op_addD os_add (e_op op_addD os_add (e_name 4 (pv 4)) e_int) (e_cal C_law_draw hr (by decide) (by rfl) (a_cons (e_name 0 (pv 0)) (a_cons (e_op op_sub os_sub e_int (e_name 4 (pv 4))) a_nil)))) a_nil)))) (asgF_by (fun _ _ _ h => h)))
 (b_cons (ps_wk (ps_set (i := 6) sc_law_claims.nd rfl (by first | exact Or.inl rfl | exact Or.inr rfl) (e_lst a_nil)) (asgF_by (fun _ _ _ h => h)))
 (b_cons (s_for PassesOwn.never rfl (i_rng1 (by rfl) B.range (a_cons (e_op op_mul os_mul e_int (e_name 1 (pv 1))) a_nil)) (g_name (pg_name (i := 7) sc_law_claims.nd rfl (by first | exact Or.inl rfl | exact Or.inr rfl)))
 (b_one (ps_wk (ps_expr (pe_bm PySem.F.plainAttrs_list PySem.F.slot_list_append PySem.F.type_list_append mt_append (pv 6) (pa_cons (e_tup (a_cons (e_op op_addD os_add (e_name 3 (pv 3)) (e_op op_fdiv os_div (e_name 7 (pv 7)) e_int)) (a_cons (e_ix ix_seq os_ix (e_name 5 (pv 5)) (e_op op_mod os_mod (pe_wk (pe_callTy call_int1 (by rfl) B.int PyProof.Rows.boot_int (a_cons (e_name 7 (pv 7)) a_nil)) (cb_sound cs_int)) e_int) (fun _ _ => rfl)) (a_cons (e_ix ix_seq os_ix (e_name 2 (pv 2)) (e_cal C_law_draw hr (by decide) (by rfl) (a_cons (e_name 0 (pv 0)) (a_cons e_int a_nil))) (fun _ _ => rfl)) a_nil)))) pa_nil))) app_sound)))
 (b_one (s_ret (e_val (e_name 6 (pv 6))))))))))) ok_law_claims
theorem cal_law_order (X : K.In h) (G : h.Ns mainGlobals mg) (B : Blt mg) (T : Tx K w mg) (d : Df K "_law_order" st_law_order) (C_law_draw : Cal P w K mg base 1 "_law_draw" ["tape", "many"] S_law_draw) : Cal P w K mg base 2 "_law_order" ["tape", "many"] S_law_order :=
  cal_mk X G d sc_law_order r_law_order (fun _ _ _ _ _ _ us hl => match us, hl with | [_, _], _ => rfl) (fun f cdv A outer s H E hr => (b_cons (ps_wk (ps_set (i := 2) sc_law_order.nd rfl (by first | exact Or.inl rfl | exact Or.inr rfl) (pe_listRg rfl (by rfl) B.list (prg_1 (by rfl) B.range (e_name 1 (pv 1))))) (asgF_by lstRg_sound))
 (b_cons (ps_wk (ps_set (i := 3) sc_law_order.nd rfl (by first | exact Or.inl rfl | exact Or.inr rfl) (e_lst a_nil)) (asgF_by (fun _ _ _ h => h)))
 (b_cons (s_for PassesOwn.never rfl (i_rng1 (by rfl) B.range (a_cons (e_val (e_name 1 (pv 1))) a_nil)) (g_name (pg_name (i := 4) sc_law_order.nd rfl (by first | exact Or.inl rfl | exact Or.inr rfl)))
 (b_one (ps_wk (ps_expr (pe_bm PySem.F.plainAttrs_list PySem.F.slot_list_append PySem.F.type_list_append mt_append (pv 3) (pa_cons (pe_wk (pe_bm PySem.F.plainAttrs_list PySem.F.slot_list_pop PySem.F.type_list_pop mt_popAt (pv 2) (pa_cons (e_cal C_law_draw hr (by decide) (by rfl) (a_cons (e_name 0 (pv 0)) (a_cons (pe_wk (pe_callB call_len (by rfl) B.len PySem.boot_len (a_cons (e_name 2 (pv 2)) a_nil)) (cb_sound cs_len)) a_nil))) pa_nil)) pop_sound) pa_nil))) app_sound)))
 (b_one (s_ret (e_val (e_name 3 (pv 3))))))))) ok_law_order
theorem cal_law_tape (X : K.In h) (G : h.Ns mainGlobals mg) (B : Blt mg) (T : Tx K w mg) (d : Df K "_law_tape" st_law_tape)  : Cal P w K mg base 1 "_law_tape" ["script"] S_law_tape :=
  cal_mk X G d sc_law_tape r_law_tape (fun _ _ _ _ _ _ us hl => match us, hl with | [_], _ => rfl) (fun f cdv A outer s H E hr => (b_cons (ps_wk (ps_set (i := 1) sc_law_tape.nd rfl (by first | exact Or.inl rfl | exact Or.inr rfl) e_int) asg_sound)
 (b_cons (s_for PassesOwn.never rfl (i_seq (e_val (e_name 0 (pv 0)))) (g_name (pg_name (i := 2) sc_law_tape.nd rfl (by first | exact Or.inl rfl | exact Or.inr rfl)))
 (b_one (ps_wk (ps_set (i := 1) sc_law_tape.nd rfl (by first | exact Or.inl rfl | exact Or.inr rfl) (e_op op_mod os_mod (pe_wk (pe_callTy call_int1 (by rfl) B.int PyProof.Rows.boot_int (a_cons (e_op op_addD os_add (e_op op_mul os_mul (e_name 1 (pv 1)) e_int) (pe_wk (pe_callB call_abs (by rfl) B.abs PyProof.Rows.boot_abs (a_cons (pe_wk (pe_callTy call_int1 (by rfl) B.int PyProof.Rows.boot_int (a_cons (e_name 2 (pv 2)) a_nil)) (cb_sound cs_int)) a_nil)) (cb_sound cs_abs))) a_nil)) (cb_sound cs_int)) e_int)) asg_sound)))
 (b_one (s_retF (pe_wk (e_lst (a_cons (e_fz (pe_wk (pe_callTy (call_list_of.or (cr_listStr rfl)) (by rfl) B.list PyProof.Rows.boot_list (a_cons (e_name 0 (pv 0)) a_nil)) (cbF_sound cf_list2))) (a_cons e_int (a_cons e_int (a_cons (e_val (e_name 1 (pv 1))) a_nil))))) (fun _ _ _ h => h))))))) ok_law_tape
theorem all {fa : Addr} (X : K.In h) (G : h.Ns mainGlobals mg) (hfa : mg "law" = some (.ref fa)) (B : Blt mg) (T : Tx K w mg) (d_law_draw : Df K "_law_draw" st_law_draw) (d_law_same : Df K "_law_same" st_law_same) (d_on_the_issue : Df K "on_the_issue" st_on_the_issue) (d_missing_tags : Df K "missing_tags" st_missing_tags) (d_controlling_precedent : Df K "controlling_precedent" st_controlling_precedent) (d_law_upper : Df K "_law_upper" st_law_upper) (d_law_tags : Df K "_law_tags" st_law_tags) (d_distinguished : Df K "distinguished" st_distinguished) (d_law_apart : Df K "_law_apart" st_law_apart) (d_law_control : Df K "_law_control" st_law_control) (d_law_looked : Df K "_law_looked" st_law_looked) (d_law_is_bound : Df K "_law_is_bound" st_law_is_bound) (d_record_precedent : Df K "record_precedent" st_record_precedent) (d_law_recorded : Df K "_law_recorded" st_law_recorded) (d_law_ruling : Df K "_law_ruling" st_law_ruling) (d_law_claims : Df K "_law_claims" st_law_claims) (d_law_order : Df K "_law_order" st_law_order) (d_law_tape : Df K "_law_tape" st_law_tape) (d_law_k30 : Df K "law" st_law_k30) :
    ∃ fd : FuncData, (∀ (s : Shared) (u : Value), BindsTo s fd ⟨[u], []⟩ [("script", u)]) ∧ ∀ base : Heap, K.In base → base.Ns mainGlobals mg → FnOk P w K mg base CX0 9 fa fd ["script"] (spD K 1 S_law) :=
  law_end X G d_law_k30 hfa sc_law_k30 (fun _ _ _ _ _ _ _ _ => .of_eq rfl) (fun base kb gb f cdv A outer s H E hr => by
    have C_law_draw : Cal P w K mg base 1 "_law_draw" ["tape", "many"] S_law_draw := cal_law_draw X G B T d_law_draw 
    have C_law_same : Cal P w K mg base 7 "_law_same" ["told", "due"] S_law_same := cal_law_same X G B T d_law_same 
    have C_on_the_issue : Cal P w K mg base 1 "on_the_issue" ["chain", "precedent", "cause", "issue"] S_on_the_issue := cal_on_the_issue X G B T d_on_the_issue 
    have C_missing_tags : Cal P w K mg base 1 "missing_tags" ["precedent", "tags"] S_missing_tags := cal_missing_tags X G B T d_missing_tags 
    have C_controlling_precedent : Cal P w K mg base 2 "controlling_precedent" ["chain", "precedents", "cause", "issue", "tags"] S_controlling_precedent := cal_controlling_precedent X G B T d_controlling_precedent C_on_the_issue C_missing_tags
    have C_law_upper : Cal P w K mg base 1 "_law_upper" ["cut", "told"] S_law_upper := cal_law_upper X G B T d_law_upper 
    have C_law_tags : Cal P w K mg base 2 "_law_tags" ["tape"] S_law_tags := cal_law_tags X G B T d_law_tags C_law_draw
    have C_distinguished : Cal P w K mg base 2 "distinguished" ["chain", "precedents", "cause", "issue", "tags"] S_distinguished := cal_distinguished X G B T d_distinguished C_on_the_issue C_missing_tags
    have C_law_apart : Cal P w K mg base 1 "_law_apart" ["chain", "precedents", "cause", "issue", "tags"] S_law_apart := cal_law_apart X G B T d_law_apart 
    have C_law_control : Cal P w K mg base 1 "_law_control" ["chain", "precedents", "cause", "issue", "tags"] S_law_control := cal_law_control X G B T d_law_control 
    have C_law_looked : Cal P w K mg base 8 "_law_looked" ["tape", "chain", "precedents", "pair", "required"] S_law_looked := cal_law_looked X G B T d_law_looked C_law_same C_controlling_precedent C_law_upper C_law_draw C_law_tags C_distinguished C_law_apart C_law_control
    have C_law_is_bound : Cal P w K mg base 8 "_law_is_bound" ["chain", "precedents", "pairs", "row", "before"] S_law_is_bound := cal_law_is_bound X G B T d_law_is_bound C_law_same C_controlling_precedent
    have C_record_precedent : Cal P w K mg base 1 "record_precedent" ["precedents", "precedent"] S_record_precedent := cal_record_precedent X G B T d_record_precedent 
    have C_law_recorded : Cal P w K mg base 1 "_law_recorded" ["precedents", "row"] S_law_recorded := cal_law_recorded X G B T d_law_recorded 
    have C_law_ruling : Cal P w K mg base 3 "_law_ruling" ["tape", "chain", "claims", "issues"] S_law_ruling := cal_law_ruling X G B T d_law_ruling C_law_tags C_law_draw
    have C_law_claims : Cal P w K mg base 2 "_law_claims" ["tape", "cases", "causes"] S_law_claims := cal_law_claims X G B T d_law_claims C_law_draw
    have C_law_order : Cal P w K mg base 2 "_law_order" ["tape", "many"] S_law_order := cal_law_order X G B T d_law_order C_law_draw
    have C_law_tape : Cal P w K mg base 1 "_law_tape" ["script"] S_law_tape := cal_law_tape X G B T d_law_tape 
    exact (b_cons (ps_wk (ps_set (i := 1) sc_law_k30.nd rfl (by first | exact Or.inl rfl | exact Or.inr rfl) (e_calF C_law_tape hr (by decide) (by rfl) (a_cons (e_val (e_name 0 (pv 0))) a_nil))) (asgF_by (fun _ _ _ h => h)))
 (b_cons (ps_wk (ps_set (i := 2) sc_law_k30.nd rfl (by first | exact Or.inl rfl | exact Or.inr rfl) (pe_wk (pe_callTy call_tuple_ftp (by rfl) B.tuple PyProof.Rows.boot_tuple (a_cons (e_fz (pe_wk (e_slF (e_cal C_law_order hr (by decide) (by rfl) (a_cons (e_name 1 (pv 1)) (a_cons e_int a_nil))) o_none (o_some (e_op op_addD os_add e_int (e_cal C_law_draw hr (by decide) (by rfl) (a_cons (e_name 1 (pv 1)) (a_cons e_int a_nil)))))) (fun _ _ _ h => h))) a_nil)) (cb_sound cs_tupleF))) asg_sound)
 (b_cons (ps_wk (ps_set (i := 3) sc_law_k30.nd rfl (by first | exact Or.inl rfl | exact Or.inr rfl) (e_cmp (op_eq.or (op_eqD hr.units)) os_eq (e_cal C_law_draw hr (by decide) (by rfl) (a_cons (e_name 1 (pv 1)) (a_cons e_int a_nil))) e_int (nomark _))) asg_sound)
 (b_cons (ps_wk (ps_set (i := 4) sc_law_k30.nd rfl (by first | exact Or.inl rfl | exact Or.inr rfl) (e_lst (a_cons (e_cal C_law_draw hr (by decide) (by rfl) (a_cons (e_name 1 (pv 1)) (a_cons e_int a_nil))) (a_cons (e_op op_addD os_add e_int (e_cal C_law_draw hr (by decide) (by rfl) (a_cons (e_name 1 (pv 1)) (a_cons e_int a_nil)))) (a_cons (e_op op_addD os_add e_int (e_cal C_law_draw hr (by decide) (by rfl) (a_cons (e_name 1 (pv 1)) (a_cons e_int a_nil)))) a_nil))))) (asgF_by (fun _ _ _ h => h)))
 (b_cons (ps_wk (ps_set (i := 5) sc_law_k30.nd rfl (by first | exact Or.inl rfl | exact Or.inr rfl) (e_cal C_law_claims hr (by decide) (by rfl) (a_cons (e_name 1 (pv 1)) (a_cons (e_ix ix_seq os_ix (e_fz (pe_wk (e_lst (a_cons e_int (a_cons e_int a_nil))) (fun _ _ _ h => h))) (pe_wk (pe_callTy call_int1 (by rfl) B.int PyProof.Rows.boot_int (a_cons (e_name 3 (pv 3)) a_nil)) (cb_sound cs_int)) (fun _ _ => rfl)) (a_cons (e_val (e_name 4 (pv 4))) a_nil))))) asg_sound)
 (b_cons (ps_wk (ps_set (i := 6) sc_law_k30.nd rfl (by first | exact Or.inl rfl | exact Or.inr rfl) (e_lst (a_cons (e_cal C_law_draw hr (by decide) (by rfl) (a_cons (e_name 1 (pv 1)) (a_cons e_int a_nil))) (a_cons (e_op op_addD os_add e_int (e_cal C_law_draw hr (by decide) (by rfl) (a_cons (e_name 1 (pv 1)) (a_cons e_int a_nil)))) a_nil)))) (asgF_by (fun _ _ _ h => h)))
 (b_cons (ps_wk (ps_set (i := 7) sc_law_k30.nd rfl (by first | exact Or.inl rfl | exact Or.inr rfl) (e_lst a_nil)) (asgF_by (fun _ _ _ h => h)))
 (b_cons (s_for PassesOwn.never rfl (i_seq (e_val (e_name 4 (pv 4)))) (g_name (pg_name (i := 8) sc_law_k30.nd rfl (by first | exact Or.inl rfl | exact Or.inr rfl)))
 (b_one (ps_wk (ps_set (i := 7) sc_law_k30.nd rfl (by first | exact Or.inl rfl | exact Or.inr rfl) (pe_op op_cat (e_name 7 (pv 7)) (e_fz (pe_wk (e_lst (a_cons (e_tup (a_cons (e_val (e_name 8 (pv 8))) (a_cons (e_ix ix_seq os_ix (e_name 6 (pv 6)) e_int (fun _ _ => rfl)) a_nil))) (a_cons (e_tup (a_cons (e_val (e_name 8 (pv 8))) (a_cons (e_ix ix_seq os_ix (e_name 6 (pv 6)) e_int (fun _ _ => rfl)) a_nil))) a_nil))) (fun _ _ _ h => h))))) (asgF_by (opF_sound of_cat)))))
 (b_cons (ps_wk (ps_set (i := 9) sc_law_k30.nd rfl (by first | exact Or.inl rfl | exact Or.inr rfl) (e_tup a_nil)) asg_sound)
 (b_cons (ps_wk (ps_set (i := 10) sc_law_k30.nd rfl (by first | exact Or.inl rfl | exact Or.inr rfl) (e_tup a_nil)) asg_sound)
 (b_cons (s_for PassesOwn.never rfl (i_rng1 (by rfl) B.range (a_cons (e_ix ix_seq os_ix (e_fz (pe_wk (e_lst (a_cons (e_op op_addD os_add e_int (e_cal C_law_draw hr (by decide) (by rfl) (a_cons (e_name 1 (pv 1)) (a_cons e_int a_nil)))) (a_cons e_int a_nil))) (fun _ _ _ h => h))) (pe_wk (pe_callTy call_int1 (by rfl) B.int PyProof.Rows.boot_int (a_cons (e_name 3 (pv 3)) a_nil)) (cb_sound cs_int)) (fun _ _ => rfl)) a_nil)) (g_name (pg_name (i := 11) sc_law_k30.nd rfl (by first | exact Or.inl rfl | exact Or.inr rfl)))
 (b_cons (ps_wk (ps_set (i := 12) sc_law_k30.nd rfl (by first | exact Or.inl rfl | exact Or.inr rfl) (e_cal C_law_ruling hr (by decide) (by rfl) (a_cons (e_name 1 (pv 1)) (a_cons (e_val (e_name 2 (pv 2))) (a_cons (e_val (e_name 5 (pv 5))) (a_cons (e_val (e_name 6 (pv 6))) a_nil)))))) asg_sound)
 (b_cons (ps_wk (ps_set (i := 13) sc_law_k30.nd rfl (by first | exact Or.inl rfl | exact Or.inr rfl) (e_cal C_law_ruling hr (by decide) (by rfl) (a_cons (e_name 1 (pv 1)) (a_cons (e_val (e_name 2 (pv 2))) (a_cons (e_val (e_name 5 (pv 5))) (a_cons (e_val (e_name 6 (pv 6))) a_nil)))))) asg_sound)
 (b_cons (ps_wk (ps_set (i := 13) sc_law_k30.nd rfl (by first | exact Or.inl rfl | exact Or.inr rfl) (e_op op_addD os_add (e_op op_addD os_add (e_sl (e_name 13 (pv 13)) o_none (o_some e_int)) (e_tup (a_cons (e_ix ix_seq os_ix (e_fz (pe_wk (e_lst (a_cons (e_ix ix_seq os_ix (e_name 13 (pv 13)) e_int (fun _ _ => rfl)) (a_cons (e_cal C_law_draw hr (by decide) (by rfl) (a_cons (e_name 1 (pv 1)) (a_cons e_int a_nil))) a_nil))) (fun _ _ _ h => h))) (e_cal C_law_draw hr (by decide) (by rfl) (a_cons (e_name 1 (pv 1)) (a_cons e_int a_nil))) (fun _ _ => rfl)) a_nil))) (e_sl (e_name 13 (pv 13)) (o_some e_int) o_none))) asg_sound)
 (b_cons (ps_wk (ps_setLc (i := 14) (own := [("pair", 15)]) rfl sc_law_k30.nd rfl rfl (sw_true rfl rfl rfl (by decide +kernel)) (i_seq (e_val (e_name 7 (pv 7)))) (blkOk_by (N := N_law_k30) (sc := defScope st_law_k30) (by decide +kernel)) (fun _ _ _ _ _ => (g_name (pg_name (i := 15) sc_law_k30.nd rfl (by first | exact Or.inl rfl | exact Or.inr rfl)))) (fun _ _ _ _ _ => pts_yes) (fun _ _ _ _ _ => (e_cal C_controlling_precedent hr (by decide) (by rfl) (a_cons (e_val (e_name 2 (pv 2))) (a_cons (e_val (e_name 10 (pv 10))) (a_cons (e_ix ix_seq os_ix (e_name 15 (pv 15)) e_int (fun _ _ => rfl)) (a_cons (e_ix ix_seq os_ix (e_name 15 (pv 15)) e_int (fun _ _ => rfl)) (a_cons (e_ix ix_seq os_ix (e_name 12 (pv 12)) e_int (fun _ _ => rfl)) a_nil)))))))) (asgF_by (comp_sound (by decide))))
 (b_cons (s_for PassesOwn.never rfl (i_seq (e_fz (pe_wk (e_lst (a_cons (e_tup (a_cons (e_val (e_name 10 (pv 10))) (a_cons (e_val (e_name 12 (pv 12))) a_nil))) (a_cons (e_tup (a_cons (e_val (e_name 9 (pv 9))) (a_cons (e_val (e_name 12 (pv 12))) a_nil))) (a_cons (e_tup (a_cons (e_val (e_name 10 (pv 10))) (a_cons (e_val (e_name 13 (pv 13))) a_nil))) (a_cons (e_tup (a_cons (e_val (e_name 10 (pv 10))) (a_cons (e_val (e_name 12 (pv 12))) a_nil))) a_nil))))) (fun _ _ _ h => h)))) (g_name (pg_name (i := 15) sc_law_k30.nd rfl (by first | exact Or.inl rfl | exact Or.inr rfl)))
 (b_one (s_if (t_not (t_tru (e_cal C_law_same hr (by decide) (by rfl) (a_cons (e_cal C_record_precedent hr (by decide) (by rfl) (a_cons (e_ix ix_seq os_ix (e_name 15 (pv 15)) e_int (fun _ _ => rfl)) (a_cons (e_ix ix_seq os_ix (e_name 15 (pv 15)) e_int (fun _ _ => rfl)) a_nil))) (a_cons (e_cal C_law_recorded hr (by decide) (by rfl) (a_cons (e_ix ix_seq os_ix (e_name 15 (pv 15)) e_int (fun _ _ => rfl)) (a_cons (e_ix ix_seq os_ix (e_name 15 (pv 15)) e_int (fun _ _ => rfl)) a_nil))) a_nil)))))
 (b_one (s_ret e_bl))
 b_nil)))
 (b_cons (ps_wk (ps_set (i := 9) sc_law_k30.nd rfl (by first | exact Or.inl rfl | exact Or.inr rfl) (e_val (e_name 10 (pv 10)))) asg_sound)
 (b_cons (ps_wk (ps_set (i := 10) sc_law_k30.nd rfl (by first | exact Or.inl rfl | exact Or.inr rfl) (e_cal C_record_precedent hr (by decide) (by rfl) (a_cons (e_val (e_name 10 (pv 10))) (a_cons (e_val (e_name 12 (pv 12))) a_nil)))) asg_sound)
 (b_cons (s_if (t_not (t_tru (e_cal C_law_is_bound hr (by decide) (by rfl) (a_cons (e_val (e_name 2 (pv 2))) (a_cons (e_val (e_name 10 (pv 10))) (a_cons (e_val (e_name 7 (pv 7))) (a_cons (e_val (e_name 12 (pv 12))) (a_cons (e_val (e_name 14 (pv 14))) a_nil))))))))
 (b_one (s_ret e_bl))
 b_nil)
 (b_one (s_if (t_not (t_tru (e_cal C_law_looked hr (by decide) (by rfl) (a_cons (e_name 1 (pv 1)) (a_cons (e_val (e_name 2 (pv 2))) (a_cons (e_val (e_name 10 (pv 10))) (a_cons (e_ix ix_seq os_ix (e_name 7 (pv 7)) (e_cal C_law_draw hr (by decide) (by rfl) (a_cons (e_name 1 (pv 1)) (a_cons e_int a_nil))) (fun _ _ => rfl)) (a_cons (e_ix ix_seq os_ix (e_name 12 (pv 12)) e_int (fun _ _ => rfl)) a_nil))))))))
 (b_one (s_ret e_bl))
 b_nil)))))))))))
 (b_one (s_ret e_bl)))))))))))))) ok_law_k30
end
end Lk30
open PySem PySem.W PyProof.Rows in
set_option maxRecDepth 100000 in
set_option maxHeartbeats 0 in
theorem PySem.Challenge.cw_overturn_k30_whole_recorded_precedents_holds : PySem.Challenge.rw_overturn_k30_whole_recorded_precedents.Holds := by
  w_on; o_law; k_head; (case hw => w_witness2)
  k_fill
  refine Dl.walk (l := PySem.Challenge.rw_overturn_k30_whole_recorded_precedents) (k := 9) (by decide) ?T rfl rfl (fun w h Y => PySem.W.kIn_of Y) ?F
  case T => exact fun _ => rfl
  case F =>
    intro w mg fa h KX G hmg
    refine' Lk30.all KX G hmg (Dl.blt_mk KX G ?z1 ?z2 ?z3 ?z4 ?z5 ?z6 ?z7 ?z8 ?z9 ?z10 ?z11 ?z12 ?z13 ?z14 ?z15 ?z16 ?z17 ?z18 ?z19) ⟨trivial⟩ (Dl.df_mk ?a0 ?l0 ?c0 ?k0) (Dl.df_mk ?a1 ?l1 ?c1 ?k1) (Dl.df_mk ?a2 ?l2 ?c2 ?k2) (Dl.df_mk ?a3 ?l3 ?c3 ?k3) (Dl.df_mk ?a4 ?l4 ?c4 ?k4) (Dl.df_mk ?a5 ?l5 ?c5 ?k5) (Dl.df_mk ?a6 ?l6 ?c6 ?k6) (Dl.df_mk ?a7 ?l7 ?c7 ?k7) (Dl.df_mk ?a8 ?l8 ?c8 ?k8) (Dl.df_mk ?a9 ?l9 ?c9 ?k9) (Dl.df_mk ?a10 ?l10 ?c10 ?k10) (Dl.df_mk ?a11 ?l11 ?c11 ?k11) (Dl.df_mk ?a12 ?l12 ?c12 ?k12) (Dl.df_mk ?a13 ?l13 ?c13 ?k13) (Dl.df_mk ?a14 ?l14 ?c14 ?k14) (Dl.df_mk ?a15 ?l15 ?c15 ?k15) (Dl.df_mk ?a16 ?l16 ?c16 ?k16) (Dl.df_mk ?a17 ?l17 ?c17 ?k17) (Dl.df_mk ?a18 ?l18 ?c18 ?k18)
    (case z1 => k_is)
    (case z2 => k_is)
    (case z3 => k_is)
    (case z4 => k_is)
    (case z5 => k_is)
    (case z6 => k_is)
    (case z7 => k_is)
    (case z8 => k_is)
    (case z9 => k_is)
    (case z10 => k_is)
    (case z11 => k_is)
    (case z12 => k_is)
    (case z13 => k_is)
    (case z14 => k_is)
    (case z15 => k_is)
    (case z16 => k_is)
    (case z17 => k_is)
    (case z18 => k_is)
    (case z19 => k_is)
    (case a0 => k_is)
    (case l0 => k_is)
    (case c0 => k_is)
    (case k0 => k_is)
    (case a1 => k_is)
    (case l1 => k_is)
    (case c1 => k_is)
    (case k1 => k_is)
    (case a2 => k_is)
    (case l2 => k_is)
    (case c2 => k_is)
    (case k2 => k_is)
    (case a3 => k_is)
    (case l3 => k_is)
    (case c3 => k_is)
    (case k3 => k_is)
    (case a4 => k_is)
    (case l4 => k_is)
    (case c4 => k_is)
    (case k4 => k_is)
    (case a5 => k_is)
    (case l5 => k_is)
    (case c5 => k_is)
    (case k5 => k_is)
    (case a6 => k_is)
    (case l6 => k_is)
    (case c6 => k_is)
    (case k6 => k_is)
    (case a7 => k_is)
    (case l7 => k_is)
    (case c7 => k_is)
    (case k7 => k_is)
    (case a8 => k_is)
    (case l8 => k_is)
    (case c8 => k_is)
    (case k8 => k_is)
    (case a9 => k_is)
    (case l9 => k_is)
    (case c9 => k_is)
    (case k9 => k_is)
    (case a10 => k_is)
    (case l10 => k_is)
    (case c10 => k_is)
    (case k10 => k_is)
    (case a11 => k_is)
    (case l11 => k_is)
    (case c11 => k_is)
    (case k11 => k_is)
    (case a12 => k_is)
    (case l12 => k_is)
    (case c12 => k_is)
    (case k12 => k_is)
    (case a13 => k_is)
    (case l13 => k_is)
    (case c13 => k_is)
    (case k13 => k_is)
    (case a14 => k_is)
    (case l14 => k_is)
    (case c14 => k_is)
    (case k14 => k_is)
    (case a15 => k_is)
    (case l15 => k_is)
    (case c15 => k_is)
    (case k15 => k_is)
    (case a16 => k_is)
    (case l16 => k_is)
    (case c16 => k_is)
    (case k16 => k_is)
    (case a17 => k_is)
    (case l17 => k_is)
    (case c17 => k_is)
    (case k17 => k_is)
    (case a18 => k_is)
    (case l18 => k_is)
    (case c18 => k_is)
    (case k18 => k_is)
